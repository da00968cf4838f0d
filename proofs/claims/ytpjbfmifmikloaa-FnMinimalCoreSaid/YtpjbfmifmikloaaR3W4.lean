/-
  Walks: each function keeps the contract that its model gives. No conditions.
-/
import Derived.Test.YtpjbfmifmikloaaR3Tab
import Derived.Test.YtpjbfmifmikloaaR3W3
namespace Go.AE.Y
open Go Go.AE Go.Proofs
set_option linter.unusedVariables false
set_option maxHeartbeats 2000000
set_option maxRecDepth 100000

noncomputable def c_impl_CoreMinimal_1__rRs : Con := fun args st => match args, st with
  | [.c (.int .i64 k_), .c (.ptr 0 0), .c (.ptr 1 0)], [(0, .rc [.imm (.pair (.sl (.pair (.int .i64) (.int .i64))) (.int .i64)) o0]), (1, .rc [.own 2 false]), (2, .sl 3 (.int .i64) o2 .shallow)] => .opt (Bool) (impl_CoreMinimal_1__rRs k_ o0 o2) (fun r => .ret (.c (.bool r)) [(0, .rc [.imm (.pair (.sl (.pair (.int .i64) (.int .i64))) (.int .i64)) o0]), (1, .rc [.own 2 false]), (2, .sl 3 (.int .i64) o2 .shallow)])
  | _, _ => .fail

noncomputable def C_impl_CoreMinimal_1__rRs : Cfg := { y := tys, n := 12, h := 3, tab := [(77, c_impl_solvable), (79, c_impl_without), (80, c_impl_partOf)], cut := [], hand := [], good := [80], deep := [], sched := [(1, (.first 2 (.alt 0 (.alt 1 (.alt 3 (.alt 4 (.alt 5 (.first 6 (.first 7 .done)) .stop) .stop) .stop) .stop) (.alt 1 (.alt 0 (.alt 3 (.alt 4 (.alt 5 (.first 6 (.first 7 .done)) .stop) .stop) .stop) (.alt 3 (.alt 0 (.alt 4 (.alt 5 (.first 6 (.first 7 .done)) .stop) .stop) .stop) .stop)) .stop))))] }

theorem t_impl_CoreMinimal_1__rRs : TabOk Try.prog C_impl_CoreMinimal_1__rRs := by
  refine tabOk_of ?_
  simp only [C_impl_CoreMinimal_1__rRs, List.forall_mem_cons]
  exact ⟨k_impl_solvable, k_impl_without, k_impl_partOf, fun p h => by cases h⟩

theorem k_impl_CoreMinimal_1__rRs : Entry Try.prog 92 c_impl_CoreMinimal_1__rRs := by
  refine entry_by (C := C_impl_CoreMinimal_1__rRs) mixed tys_ok t_impl_CoreMinimal_1__rRs (fn := Try.f92) (c := bd Try.f92) (by kernel_rfl) (by kernel_rfl) (by kernel_rfl) (by kernel_rfl) ?_
  intro args st k he
  unfold c_impl_CoreMinimal_1__rRs at he
  split at he
  rotate_left
  · exact he.elim
  rename_i k_ o0 o2
  have he : Ok (impl_CoreMinimal_1__rRs k_ o0 o2) (fun r => k (.c (.bool r)) [(0, .rc [.imm (.pair (.sl (.pair (.int .i64) (.int .i64))) (.int .i64)) o0]), (1, .rc [.own 2 false]), (2, .sl 3 (.int .i64) o2 .shallow)]) := he
  refine ⟨rfl, rfl, ?_⟩
  refine And.intro (by kernel_rfl) ?_
  obtain ⟨r4_, hq1, he⟩ := ok_bind he
  obtain ⟨r5_, hq2, he⟩ := ok_bind he
  obtain ⟨r6_, hq3, he⟩ := ok_bind he
  refine And.intro ?_ (And.intro ?_ (trivial))
  · skip
    refine And.intro ?_ trivial
    refine And.intro ?_ trivial
    refine ⟨r4_, hq1, ?_⟩
    refine And.intro ?_ trivial
    refine ⟨r5_, hq2, ?_⟩
    refine And.intro ?_ trivial
    refine ⟨r6_, hq3, ?_⟩
    have he := ok_some he
    exact ⟨rfl, _, _, (leads_ren [] (l := [(4, .c (.bool (!r6_)))]) (st' := [(0, .rc [.imm (.pair (.sl (.pair (.int .i64) (.int .i64))) (.int .i64)) o0]), (1, .rc [.own 2 false]), (2, .sl 3 (.int .i64) o2 .shallow)]) rfl rfl ⟨⟨.inl rfl, trivial⟩, ⟨⟨⟨rfl, rfl⟩, trivial⟩, trivial⟩, ⟨rfl, rfl⟩, trivial⟩ ⟨.inl rfl, trivial⟩), he⟩
  · skip
    refine And.intro ?_ (And.intro ?_ (trivial))
    · skip
      refine And.intro ?_ trivial
      refine ⟨r4_, hq1, ?_⟩
      refine And.intro ?_ trivial
      refine ⟨r5_, hq2, ?_⟩
      refine And.intro ?_ trivial
      refine ⟨r6_, hq3, ?_⟩
      have he := ok_some he
      exact ⟨rfl, _, _, (leads_ren [] (l := [(4, .c (.bool (!r6_)))]) (st' := [(0, .rc [.imm (.pair (.sl (.pair (.int .i64) (.int .i64))) (.int .i64)) o0]), (1, .rc [.own 2 false]), (2, .sl 3 (.int .i64) o2 .shallow)]) rfl rfl ⟨⟨.inl rfl, trivial⟩, ⟨⟨⟨rfl, rfl⟩, trivial⟩, trivial⟩, ⟨rfl, rfl⟩, trivial⟩ ⟨.inl rfl, trivial⟩), he⟩
    · skip
      refine ⟨r4_, hq1, ?_⟩
      refine And.intro ?_ trivial
      refine And.intro ?_ trivial
      refine ⟨r5_, hq2, ?_⟩
      refine And.intro ?_ trivial
      refine ⟨r6_, hq3, ?_⟩
      have he := ok_some he
      exact ⟨rfl, _, _, (leads_ren [] (l := [(4, .c (.bool (!r6_)))]) (st' := [(0, .rc [.imm (.pair (.sl (.pair (.int .i64) (.int .i64))) (.int .i64)) o0]), (1, .rc [.own 2 false]), (2, .sl 3 (.int .i64) o2 .shallow)]) rfl rfl ⟨⟨.inl rfl, trivial⟩, ⟨⟨⟨rfl, rfl⟩, trivial⟩, trivial⟩, ⟨rfl, rfl⟩, trivial⟩ ⟨.inl rfl, trivial⟩), he⟩

noncomputable def c_slices_IndexFunc_int__impl_CoreMinimal_1__rRs : Con := fun args st => match args, st with
  | [.c (.own 2 false), .c (.fn 92 [0, 1])], [(0, .rc [.imm (.pair (.sl (.pair (.int .i64) (.int .i64))) (.int .i64)) o0]), (1, .rc [.own 2 false]), (2, .sl 3 (.int .i64) s_ .shallow)] => .opt (Int) (slices_IndexFunc_int__impl_CoreMinimal_1__rRs o0 s_) (fun r => .ret (.c (.int .i64 r)) [(0, .rc [.imm (.pair (.sl (.pair (.int .i64) (.int .i64))) (.int .i64)) o0]), (1, .rc [.own 2 false]), (2, .sl 3 (.int .i64) s_ .shallow)])
  | _, _ => .fail

noncomputable def C_slices_IndexFunc_int__impl_CoreMinimal_1__rRs : Cfg := { y := tys, n := 19, h := 3, tab := [(92, c_impl_CoreMinimal_1__rRs)], cut := [], hand := [], good := [], deep := [], sched := [] }

theorem t_slices_IndexFunc_int__impl_CoreMinimal_1__rRs : TabOk Try.prog C_slices_IndexFunc_int__impl_CoreMinimal_1__rRs := by
  refine tabOk_of ?_
  simp only [C_slices_IndexFunc_int__impl_CoreMinimal_1__rRs, List.forall_mem_cons]
  exact ⟨k_impl_CoreMinimal_1__rRs, fun p h => by cases h⟩

theorem k_slices_IndexFunc_int__impl_CoreMinimal_1__rRs : Entry Try.prog 151 c_slices_IndexFunc_int__impl_CoreMinimal_1__rRs := by
  refine entry_by (C := C_slices_IndexFunc_int__impl_CoreMinimal_1__rRs) mixed tys_ok t_slices_IndexFunc_int__impl_CoreMinimal_1__rRs (fn := Try.f151) (c := bd Try.f151) (by kernel_rfl) (by kernel_rfl) (by kernel_rfl) (by kernel_rfl) ?_
  intro args st k he
  unfold c_slices_IndexFunc_int__impl_CoreMinimal_1__rRs at he
  split at he
  rotate_left
  · exact he.elim
  rename_i o0 s_
  have he : Ok (slices_IndexFunc_int__impl_CoreMinimal_1__rRs o0 s_) (fun r => k (.c (.int .i64 r)) [(0, .rc [.imm (.pair (.sl (.pair (.int .i64) (.int .i64))) (.int .i64)) o0]), (1, .rc [.own 2 false]), (2, .sl 3 (.int .i64) s_ .shallow)]) := he
  refine ⟨rfl, rfl, ?_⟩
  refine loop_model mixed tys_ok t_slices_IndexFunc_int__impl_CoreMinimal_1__rRs (S := Int) (I := (fun i => (envOf [(0, .c (.own 2 false)), (1, .c (.fn 92 [0, 1])), (7, .c (.int .i64 (s_.length:Int))), (8, .c (.int .i64 i))], [(0, .rc [.imm (.pair (.sl (.pair (.int .i64) (.int .i64))) (.int .i64)) o0]), (1, .rc [.own 2 false]), (2, .sl 3 (.int .i64) s_ .shallow)]))) (f := slices_IndexFunc_int__impl_CoreMinimal_1__rRs_l1 o0 s_) (K := (fun r => k (.c (.int .i64 r)) [(0, .rc [.imm (.pair (.sl (.pair (.int .i64) (.int .i64))) (.int .i64)) o0]), (1, .rc [.own 2 false]), (2, .sl 3 (.int .i64) s_ .shallow)])) he (leads_ren [] (l := [(0, .c (.own 2 false)), (1, .c (.fn 92 [0, 1])), (7, .c (.int .i64 (s_.length:Int))), (8, .c (.int .i64 (0:Int)))]) (st' := [(0, .rc [.imm (.pair (.sl (.pair (.int .i64) (.int .i64))) (.int .i64)) o0]), (1, .rc [.own 2 false]), (2, .sl 3 (.int .i64) s_ .shallow)]) rfl rfl ⟨⟨.inl rfl, trivial⟩, ⟨⟨⟨rfl, rfl⟩, trivial⟩, trivial⟩, ⟨rfl, rfl⟩, trivial⟩ ⟨⟨⟨rfl, rfl⟩, trivial⟩, ⟨rfl, ⟨⟨rfl, rfl⟩, ⟨⟨rfl, rfl⟩, trivial⟩⟩⟩, rfl, rfl, trivial⟩) ?_
  rintro i J1 he
  refine And.intro (fun hb => ?_) (fun hb => ?_)
  · have he := ok_t he hb
    have he := ok_rq he
    refine And.intro he.1 ?_
    have he := he.2
    obtain ⟨r1_, hr, he⟩ := ok_bind he
    refine ⟨r1_, hr, ?_⟩
    refine And.intro (fun hb => ?_) (fun hb => ?_)
    · have he := ok_t he hb
      have he := ok_some he
      exact ⟨rfl, _, _, (leads_ren [] (l := [(4, .c (.int .i64 i))]) (st' := [(0, .rc [.imm (.pair (.sl (.pair (.int .i64) (.int .i64))) (.int .i64)) o0]), (1, .rc [.own 2 false]), (2, .sl 3 (.int .i64) s_ .shallow)]) rfl rfl ⟨⟨.inl rfl, trivial⟩, ⟨⟨⟨rfl, rfl⟩, trivial⟩, trivial⟩, ⟨rfl, rfl⟩, trivial⟩ ⟨rfl, trivial⟩), he⟩
    · have he := ok_f he hb
      have he := ok_rq he
      refine And.intro he.1 ?_
      have he := he.2
      have he := ok_some he
      exact ⟨(i + (1:Int)), he, (leads_ren [] (l := [(0, .c (.own 2 false)), (1, .c (.fn 92 [0, 1])), (7, .c (.int .i64 (s_.length:Int))), (8, .c (.int .i64 (i + (1:Int))))]) (st' := [(0, .rc [.imm (.pair (.sl (.pair (.int .i64) (.int .i64))) (.int .i64)) o0]), (1, .rc [.own 2 false]), (2, .sl 3 (.int .i64) s_ .shallow)]) rfl rfl ⟨⟨.inl rfl, trivial⟩, ⟨⟨⟨rfl, rfl⟩, trivial⟩, trivial⟩, ⟨rfl, rfl⟩, trivial⟩ ⟨⟨⟨rfl, rfl⟩, trivial⟩, ⟨rfl, ⟨⟨rfl, rfl⟩, ⟨⟨rfl, rfl⟩, trivial⟩⟩⟩, rfl, rfl, trivial⟩)⟩
  · have he := ok_f he hb
    have he := ok_some he
    exact ⟨rfl, _, _, (leads_ren [] (l := [(4, .c (.int .i64 (-1:Int)))]) (st' := [(0, .rc [.imm (.pair (.sl (.pair (.int .i64) (.int .i64))) (.int .i64)) o0]), (1, .rc [.own 2 false]), (2, .sl 3 (.int .i64) s_ .shallow)]) rfl rfl ⟨⟨.inl rfl, trivial⟩, ⟨⟨⟨rfl, rfl⟩, trivial⟩, trivial⟩, ⟨rfl, rfl⟩, trivial⟩ ⟨rfl, trivial⟩), he⟩

noncomputable def c_slices_ContainsFunc_int__impl_CoreMinimal_1__rRs : Con := fun args st => match args, st with
  | [.c (.own 2 false), .c (.fn 92 [0, 1])], [(0, .rc [.imm (.pair (.sl (.pair (.int .i64) (.int .i64))) (.int .i64)) o0]), (1, .rc [.own 2 false]), (2, .sl 3 (.int .i64) s_ .shallow)] => .opt (Bool) (slices_ContainsFunc_int__impl_CoreMinimal_1__rRs o0 s_) (fun r => .ret (.c (.bool r)) [(0, .rc [.imm (.pair (.sl (.pair (.int .i64) (.int .i64))) (.int .i64)) o0]), (1, .rc [.own 2 false]), (2, .sl 3 (.int .i64) s_ .shallow)])
  | _, _ => .fail

noncomputable def C_slices_ContainsFunc_int__impl_CoreMinimal_1__rRs : Cfg := { y := tys, n := 9, h := 3, tab := [(151, c_slices_IndexFunc_int__impl_CoreMinimal_1__rRs)], cut := [], hand := [], good := [], deep := [], sched := [] }

theorem t_slices_ContainsFunc_int__impl_CoreMinimal_1__rRs : TabOk Try.prog C_slices_ContainsFunc_int__impl_CoreMinimal_1__rRs := by
  refine tabOk_of ?_
  simp only [C_slices_ContainsFunc_int__impl_CoreMinimal_1__rRs, List.forall_mem_cons]
  exact ⟨k_slices_IndexFunc_int__impl_CoreMinimal_1__rRs, fun p h => by cases h⟩

theorem k_slices_ContainsFunc_int__impl_CoreMinimal_1__rRs : Entry Try.prog 91 c_slices_ContainsFunc_int__impl_CoreMinimal_1__rRs := by
  refine entry_by (C := C_slices_ContainsFunc_int__impl_CoreMinimal_1__rRs) mixed tys_ok t_slices_ContainsFunc_int__impl_CoreMinimal_1__rRs (fn := Try.f91) (c := bd Try.f91) (by kernel_rfl) (by kernel_rfl) (by kernel_rfl) (by kernel_rfl) ?_
  intro args st k he
  unfold c_slices_ContainsFunc_int__impl_CoreMinimal_1__rRs at he
  split at he
  rotate_left
  · exact he.elim
  rename_i o0 s_
  have he : Ok (slices_ContainsFunc_int__impl_CoreMinimal_1__rRs o0 s_) (fun r => k (.c (.bool r)) [(0, .rc [.imm (.pair (.sl (.pair (.int .i64) (.int .i64))) (.int .i64)) o0]), (1, .rc [.own 2 false]), (2, .sl 3 (.int .i64) s_ .shallow)]) := he
  refine ⟨rfl, rfl, ?_⟩
  obtain ⟨r1_, hr, he⟩ := ok_bind he
  refine ⟨r1_, hr, ?_⟩
  have he := ok_some he
  exact ⟨rfl, _, _, (leads_ren [] (l := [(4, .c (.bool (decide ((0:Int) ≤ r1_))))]) (st' := [(0, .rc [.imm (.pair (.sl (.pair (.int .i64) (.int .i64))) (.int .i64)) o0]), (1, .rc [.own 2 false]), (2, .sl 3 (.int .i64) s_ .shallow)]) rfl rfl ⟨⟨.inl rfl, trivial⟩, ⟨⟨⟨rfl, rfl⟩, trivial⟩, trivial⟩, ⟨rfl, rfl⟩, trivial⟩ ⟨.inl rfl, trivial⟩), he⟩

noncomputable def c_impl_CoreMinimal : Con := fun args st => match args, st with
  | [.c (.imm (.pair (.sl (.pair (.int .i64) (.int .i64))) (.int .i64)) list_)], [] => .opt (Bool) (impl_CoreMinimal list_) (fun r => .ret (.c (.bool r)) [])
  | _, _ => .fail

noncomputable def C_impl_CoreMinimal : Cfg := { y := tys, n := 18, h := 0, tab := [(27, c_impl_ProblemValid), (77, c_impl_solvable), (78, c_impl_indices), (91, c_slices_ContainsFunc_int__impl_CoreMinimal_1__rRs)], cut := [], hand := [], good := [], deep := [], sched := [] }

theorem t_impl_CoreMinimal : TabOk Try.prog C_impl_CoreMinimal := by
  refine tabOk_of ?_
  simp only [C_impl_CoreMinimal, List.forall_mem_cons]
  exact ⟨k_impl_ProblemValid, k_impl_solvable, k_impl_indices, k_slices_ContainsFunc_int__impl_CoreMinimal_1__rRs, fun p h => by cases h⟩

theorem k_impl_CoreMinimal : Entry Try.prog 30 c_impl_CoreMinimal := by
  refine entry_by (C := C_impl_CoreMinimal) mixed tys_ok t_impl_CoreMinimal (fn := Try.f30) (c := bd Try.f30) (by kernel_rfl) (by kernel_rfl) (by kernel_rfl) (by kernel_rfl) ?_
  intro args st k he
  unfold c_impl_CoreMinimal at he
  split at he
  rotate_left
  · exact he.elim
  rename_i list_
  have he : Ok (impl_CoreMinimal list_) (fun r => k (.c (.bool r)) []) := he
  refine ⟨rfl, rfl, ?_⟩
  obtain ⟨r1_, hr, he⟩ := ok_bind he
  refine ⟨r1_, hr, ?_⟩
  refine And.intro (fun hb => ?_) (fun hb => ?_)
  · have he := ok_f he hb
    obtain ⟨r2_, hr, he⟩ := ok_bind he
    refine ⟨r2_, hr, ?_⟩
    refine And.intro (fun hb => ?_) (fun hb => ?_)
    · have he := ok_t he hb
      have he := ok_some he
      exact ⟨rfl, _, _, (leads_ren [] (l := [(2, .c (.bool false))]) (st' := []) rfl rfl trivial ⟨.inr rfl, trivial⟩), he⟩
    · have he := ok_f he hb
      obtain ⟨r3_, hr, he⟩ := ok_bind he
      refine ⟨r3_, hr, ?_⟩
      obtain ⟨r4_, hr, he⟩ := ok_bind he
      refine ⟨r4_, hr, ?_⟩
      have he := ok_some he
      exact ⟨rfl, _, _, (leads_ren [] (l := [(2, .c (.bool (!r4_)))]) (st' := []) rfl rfl trivial ⟨.inl rfl, trivial⟩), he⟩
  · have he := ok_t he hb
    have he := ok_some he
    exact ⟨rfl, _, _, (leads_ren [] (l := [(2, .c (.bool false))]) (st' := []) rfl rfl trivial ⟨.inr rfl, trivial⟩), he⟩

noncomputable def c_laws_FnMinimalCore : Con := fun args st => match args, st with
  | [.c (.imm (.int .u8) a0)], [] => .opt (Bool) (laws_FnMinimalCore a0) (fun r => .ret (.c (.bool r)) [])
  | _, _ => .fail

noncomputable def C_laws_FnMinimalCore : Cfg := { y := tys, n := 68, h := 0, tab := [(23, c_spec_DrawMinimalCore), (24, c_impl_MinimalCore), (25, c_spec_MinimalCore), (26, c_laws_cpInts), (27, c_impl_ProblemValid), (28, c_impl_CountSolutions), (29, c_impl_SubProblem), (30, c_impl_CoreMinimal)], cut := [], hand := [], good := [], deep := [], sched := [] }

theorem t_laws_FnMinimalCore : TabOk Try.prog C_laws_FnMinimalCore := by
  refine tabOk_of ?_
  simp only [C_laws_FnMinimalCore, List.forall_mem_cons]
  exact ⟨k_spec_DrawMinimalCore, k_impl_MinimalCore, k_spec_MinimalCore, k_laws_cpInts, k_impl_ProblemValid, k_impl_CountSolutions, k_impl_SubProblem, k_impl_CoreMinimal, fun p h => by cases h⟩

theorem k_laws_FnMinimalCore : Entry Try.prog 4 c_laws_FnMinimalCore := by
  refine entry_by (C := C_laws_FnMinimalCore) mixed tys_ok t_laws_FnMinimalCore (fn := Try.f4) (c := bd Try.f4) (by kernel_rfl) (by kernel_rfl) (by kernel_rfl) (by kernel_rfl) ?_
  intro args st k he
  unfold c_laws_FnMinimalCore at he
  split at he
  rotate_left
  · exact he.elim
  rename_i a0
  have he : Ok (laws_FnMinimalCore a0) (fun r => k (.c (.bool r)) []) := he
  refine ⟨rfl, rfl, ?_⟩
  refine And.intro (fun hb => ?_) (fun hb => ?_)
  · have he := ok_t he hb
    have he := ok_some he
    exact ⟨rfl, _, _, Leads.refl _ _, he⟩
  · have he := ok_f he hb
    obtain ⟨r1_, hr, he⟩ := ok_bind he
    refine ⟨r1_, hr, ?_⟩
    obtain ⟨r2_, hr, he⟩ := ok_bind he
    refine ⟨r2_, hr, ?_⟩
    obtain ⟨r3_, hr, he⟩ := ok_bind he
    refine ⟨r3_, hr, ?_⟩
    refine And.intro (fun hb => ?_) (fun hb => ?_)
    · have he := ok_f he hb
      obtain ⟨r4_, hr, he⟩ := ok_bind he
      refine ⟨r4_, hr, ?_⟩
      refine And.intro (fun hb => ?_) (fun hb => ?_)
      · have he := ok_f he hb
        obtain ⟨r5_, hr, he⟩ := ok_bind he
        refine ⟨r5_, hr, ?_⟩
        refine And.intro (fun hb => ?_) (fun hb => ?_)
        · have he := ok_t he hb
          refine And.intro (fun hb => ?_) (fun hb => ?_)
          · have he := ok_t he hb
            obtain ⟨r6_, hr, he⟩ := ok_bind he
            refine ⟨r6_, hr, ?_⟩
            have he := ok_some he
            exact ⟨rfl, _, _, (leads_ren [] (l := [(2, .c (.bool r6_))]) (st' := []) rfl rfl trivial ⟨.inl rfl, trivial⟩), he⟩
          · have he := ok_f he hb
            have he := ok_some he
            exact ⟨rfl, _, _, (leads_ren [] (l := [(2, .c (.bool false))]) (st' := []) rfl rfl trivial ⟨.inr rfl, trivial⟩), he⟩
        · have he := ok_f he hb
          refine And.intro (fun hb => ?_) (fun hb => ?_)
          · have he := ok_t he hb
            obtain ⟨r9_, hr, he⟩ := ok_bind he
            refine ⟨r9_, hr, ?_⟩
            have he := ok_some he
            exact ⟨rfl, _, _, (leads_ren [] (l := [(2, .c (.bool (decide ((0:Int) < r9_))))]) (st' := []) rfl rfl trivial ⟨.inl rfl, trivial⟩), he⟩
          · have he := ok_f he hb
            obtain ⟨r10_, hr, he⟩ := ok_bind he
            refine ⟨r10_, hr, ?_⟩
            refine And.intro (fun hb => ?_) (fun hb => ?_)
            · have he := ok_t he hb
              obtain ⟨r11_, hr, he⟩ := ok_bind he
              refine ⟨r11_, hr, ?_⟩
              refine And.intro (fun hb => ?_) (fun hb => ?_)
              · have he := ok_t he hb
                obtain ⟨r12_, hr, he⟩ := ok_bind he
                refine ⟨r12_, hr, ?_⟩
                have he := ok_some he
                exact ⟨rfl, _, _, (leads_ren [] (l := [(2, .c (.bool (r12_ == (0:Int))))]) (st' := []) rfl rfl trivial ⟨.inl rfl, trivial⟩), he⟩
              · have he := ok_f he hb
                have he := ok_some he
                exact ⟨rfl, _, _, (leads_ren [] (l := [(2, .c (.bool false))]) (st' := []) rfl rfl trivial ⟨.inr rfl, trivial⟩), he⟩
            · have he := ok_f he hb
              have he := ok_some he
              exact ⟨rfl, _, _, (leads_ren [] (l := [(2, .c (.bool false))]) (st' := []) rfl rfl trivial ⟨.inr rfl, trivial⟩), he⟩
      · have he := ok_t he hb
        refine And.intro (fun hb => ?_) (fun hb => ?_)
        · have he := ok_t he hb
          obtain ⟨r7_, hr, he⟩ := ok_bind he
          refine ⟨r7_, hr, ?_⟩
          have he := ok_some he
          exact ⟨rfl, _, _, (leads_ren [] (l := [(2, .c (.bool r7_))]) (st' := []) rfl rfl trivial ⟨.inl rfl, trivial⟩), he⟩
        · have he := ok_f he hb
          have he := ok_some he
          exact ⟨rfl, _, _, (leads_ren [] (l := [(2, .c (.bool false))]) (st' := []) rfl rfl trivial ⟨.inr rfl, trivial⟩), he⟩
    · have he := ok_t he hb
      refine And.intro (fun hb => ?_) (fun hb => ?_)
      · have he := ok_t he hb
        obtain ⟨r8_, hr, he⟩ := ok_bind he
        refine ⟨r8_, hr, ?_⟩
        have he := ok_some he
        exact ⟨rfl, _, _, (leads_ren [] (l := [(2, .c (.bool r8_))]) (st' := []) rfl rfl trivial ⟨.inl rfl, trivial⟩), he⟩
      · have he := ok_f he hb
        have he := ok_some he
        exact ⟨rfl, _, _, (leads_ren [] (l := [(2, .c (.bool false))]) (st' := []) rfl rfl trivial ⟨.inr rfl, trivial⟩), he⟩

end Go.AE.Y
