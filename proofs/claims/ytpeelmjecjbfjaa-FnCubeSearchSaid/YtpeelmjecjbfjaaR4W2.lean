/-
  Walks: each function keeps the contract that its model gives. No conditions.
-/
import Derived.Test.YtpeelmjecjbfjaaR4Tab
import Derived.Test.YtpeelmjecjbfjaaR4W1
import Derived.Test.YtpeelmjecjbfjaaR4S
namespace Go.AE.Y
open Go Go.AE Go.Proofs
set_option linter.unusedVariables false
set_option maxHeartbeats 2000000
set_option maxRecDepth 100000

noncomputable def c_impl_allValid : Con := fun args st => match args, st with
  | [.c (.imm (.pair (.sl (.pair (.int .i64) (.int .i64))) (.int .i64)) list_)], [] => .opt (Bool) (impl_allValid list_) (fun r => .ret (.c (.bool r)) [])
  | _, _ => .fail

noncomputable def C_impl_allValid : Cfg := { y := tys, n := 6, h := 0, tab := [(246, c_slices_ContainsFunc_impl_Constraint__impl_allValid_1)], cut := [], hand := [], good := [], deep := [], sched := [] }

theorem t_impl_allValid : TabOk Try.prog C_impl_allValid := by
  refine tabOk_of ?_
  simp only [C_impl_allValid, List.forall_mem_cons]
  exact ⟨k_slices_ContainsFunc_impl_Constraint__impl_allValid_1, fun p h => by cases h⟩

theorem k_impl_allValid : Entry Try.prog 240 c_impl_allValid := by
  refine entry_by (C := C_impl_allValid) mixed tys_ok t_impl_allValid (fn := Try.f240) (c := bd Try.f240) (by kernel_rfl) (by kernel_rfl) (by kernel_rfl) (by kernel_rfl) ?_
  intro args st k he
  unfold c_impl_allValid at he
  split at he
  rotate_left
  · exact he.elim
  rename_i list_
  have he : Ok (impl_allValid list_) (fun r => k (.c (.bool r)) []) := he
  refine ⟨rfl, rfl, ?_⟩
  obtain ⟨r1_, hr, he⟩ := ok_bind he
  refine ⟨r1_, hr, ?_⟩
  have he := ok_some he
  exact ⟨rfl, _, _, Leads.refl _ _, he⟩

noncomputable def c_impl_ProblemValid : Con := fun args st => match args, st with
  | [.c (.imm (.pair (.sl (.pair (.int .i64) (.int .i64))) (.int .i64)) list_)], [] => .opt (Bool) (impl_ProblemValid list_) (fun r => .ret (.c (.bool r)) [])
  | _, _ => .fail

noncomputable def C_impl_ProblemValid : Cfg := { y := tys, n := 10, h := 0, tab := [(240, c_impl_allValid)], cut := [], hand := [], good := [], deep := [], sched := [] }

theorem t_impl_ProblemValid : TabOk Try.prog C_impl_ProblemValid := by
  refine tabOk_of ?_
  simp only [C_impl_ProblemValid, List.forall_mem_cons]
  exact ⟨k_impl_allValid, fun p h => by cases h⟩

theorem k_impl_ProblemValid : Entry Try.prog 179 c_impl_ProblemValid := by
  refine entry_by (C := C_impl_ProblemValid) mixed tys_ok t_impl_ProblemValid (fn := Try.f179) (c := bd Try.f179) (by kernel_rfl) (by kernel_rfl) (by kernel_rfl) (by kernel_rfl) ?_
  intro args st k he
  unfold c_impl_ProblemValid at he
  split at he
  rotate_left
  · exact he.elim
  rename_i list_
  have he : Ok (impl_ProblemValid list_) (fun r => k (.c (.bool r)) []) := he
  refine ⟨rfl, rfl, ?_⟩
  refine And.intro (fun hb => ?_) (fun hb => ?_)
  · have he := ok_t he hb
    obtain ⟨r1_, hr, he⟩ := ok_bind he
    refine ⟨r1_, hr, ?_⟩
    have he := ok_some he
    exact ⟨rfl, _, _, Leads.refl _ _, he⟩
  · have he := ok_f he hb
    have he := ok_some he
    exact ⟨rfl, _, _, Leads.refl _ _, he⟩

noncomputable def c_impl_isCube : Con := fun args st => match args, st with
  | [.c (.imm (.int .i64) cube)], [] => .opt (Bool) (impl_isCube cube) (fun r => .ret (.c (.bool r)) [])
  | _, _ => .fail

noncomputable def C_impl_isCube : Cfg := { y := tys, n := 34, h := 0, tab := [(110, c_impl_isLiteral), (111, c_impl_variableOf)], cut := [], hand := [], good := [], deep := [], sched := [] }

theorem t_impl_isCube : TabOk Try.prog C_impl_isCube := by
  refine tabOk_of ?_
  simp only [C_impl_isCube, List.forall_mem_cons]
  exact ⟨k_impl_isLiteral, k_impl_variableOf, fun p h => by cases h⟩

theorem k_impl_isCube : Entry Try.prog 161 c_impl_isCube := by
  refine entry_by (C := C_impl_isCube) mixed tys_ok t_impl_isCube (fn := Try.f161) (c := bd Try.f161) (by kernel_rfl) (by kernel_rfl) (by kernel_rfl) (by kernel_rfl) ?_
  intro args st k he
  unfold c_impl_isCube at he
  split at he
  rotate_left
  · exact he.elim
  rename_i cube
  have he : Ok (impl_isCube cube) (fun r => k (.c (.bool r)) []) := he
  refine ⟨rfl, rfl, ?_⟩
  refine loop_model mixed tys_ok t_impl_isCube (S := Int) (I := (fun i => (envOf [(0, .c (.imm (.int .i64) cube)), (5, .c (.imm (.int .i64) cube)), (6, .c (.int .i64 (cube.length:Int))), (7, .c (.int .i64 i))], []))) (f := impl_isCube_l1 cube) (K := (fun r => k (.c (.bool r)) [])) he (leads_ren [] (l := [(0, .c (.imm (.int .i64) cube)), (5, .c (.imm (.int .i64) cube)), (6, .c (.int .i64 (cube.length:Int))), (7, .c (.int .i64 (0:Int)))]) (st' := []) rfl rfl trivial ⟨.inl rfl, .inl rfl, rfl, rfl, trivial⟩) ?_
  rintro i J1 he
  refine And.intro (fun hb => ?_) (fun hb => ?_)
  · have he := ok_t he hb
    have he := ok_rq he
    refine And.intro he.1 ?_
    have he := he.2
    obtain ⟨r1_, hr, he⟩ := ok_bind he
    refine ⟨r1_, hr, ?_⟩
    refine And.intro (fun hb => ?_) (fun hb => ?_)
    · have he := ok_f he hb
      refine And.intro (fun hb => ?_) (fun hb => ?_)
      · have he := ok_t he hb
        have he := ok_rq he
        refine And.intro he.1 ?_
        have he := he.2
        have he := ok_rq he
        refine And.intro he.1 ?_
        have he := he.2
        obtain ⟨r2_, hr, he⟩ := ok_bind he
        refine ⟨r2_, hr, ?_⟩
        obtain ⟨r3_, hr, he⟩ := ok_bind he
        refine ⟨r3_, hr, ?_⟩
        refine And.intro (fun hb => ?_) (fun hb => ?_)
        · have he := ok_t he hb
          have he := ok_some he
          exact ⟨rfl, _, _, Leads.refl _ _, he⟩
        · have he := ok_f he hb
          have he := ok_rq he
          refine And.intro he.1 ?_
          have he := he.2
          have he := ok_some he
          exact ⟨(i + (1:Int)), he, (leads_ren [] (l := [(0, .c (.imm (.int .i64) cube)), (5, .c (.imm (.int .i64) cube)), (6, .c (.int .i64 (cube.length:Int))), (7, .c (.int .i64 (i + (1:Int))))]) (st' := []) rfl rfl trivial ⟨.inl rfl, .inl rfl, rfl, rfl, trivial⟩)⟩
      · have he := ok_f he hb
        have he := ok_rq he
        refine And.intro he.1 ?_
        have he := he.2
        have he := ok_some he
        exact ⟨(i + (1:Int)), he, (leads_ren [] (l := [(0, .c (.imm (.int .i64) cube)), (5, .c (.imm (.int .i64) cube)), (6, .c (.int .i64 (cube.length:Int))), (7, .c (.int .i64 (i + (1:Int))))]) (st' := []) rfl rfl trivial ⟨.inl rfl, .inl rfl, rfl, rfl, trivial⟩)⟩
    · have he := ok_t he hb
      have he := ok_some he
      exact ⟨rfl, _, _, Leads.refl _ _, he⟩
  · have he := ok_f he hb
    have he := ok_some he
    exact ⟨rfl, _, _, Leads.refl _ _, he⟩

noncomputable def c_slices_Clone_impl_Term : Con := fun args st => match args, st with
  | [.c (.imm (.pair (.int .i64) (.int .i64)) s_)], [] => .opt ((List (Int × Int))) (slices_Clone_impl_Term s_) (fun r => .ret (.c (.own 900 false)) [(900, .sl 140 (.pair (.int .i64) (.int .i64)) r .shallow)])
  | _, _ => .fail

noncomputable def C_slices_Clone_impl_Term : Cfg := { y := tys, n := 8, h := 0, tab := [], cut := [], hand := [], good := [], deep := [], sched := [] }

theorem t_slices_Clone_impl_Term : TabOk Try.prog C_slices_Clone_impl_Term := tabOk_of (fun p h => by cases h)

theorem k_slices_Clone_impl_Term : Entry Try.prog 272 c_slices_Clone_impl_Term := by
  refine entry_by (C := C_slices_Clone_impl_Term) mixed tys_ok t_slices_Clone_impl_Term (fn := Try.f272) (c := bd Try.f272) (by kernel_rfl) (by kernel_rfl) (by kernel_rfl) (by kernel_rfl) ?_
  intro args st k he
  unfold c_slices_Clone_impl_Term at he
  split at he
  rotate_left
  · exact he.elim
  rename_i s_
  have he : Ok (slices_Clone_impl_Term s_) (fun r => k (.c (.own 900 false)) [(900, .sl 140 (.pair (.int .i64) (.int .i64)) r .shallow)]) := he
  refine ⟨rfl, rfl, ?_⟩
  refine fun b1_ hb1_ => ?_
  have he := ok_nt he hb1_
  refine And.intro (fun hb => ?_) (fun hb => ?_)
  · have he := ok_t he hb
    have he := ok_some he
    exact ⟨rfl, _, _, (leads_ren [] (l := [(2, .c (.own 900 false))]) (st' := [(900, .sl 140 (.pair (.int .i64) (.int .i64)) ([] : List (Int × Int)) .shallow)]) rfl rfl ⟨trivial, trivial⟩ ⟨⟨rfl, trivial⟩, trivial⟩), he⟩
  · have he := ok_f he hb
    have he := ok_rq he
    refine And.intro he.1 ?_
    have he := he.2
    have he := ok_some he
    exact ⟨rfl, _, _, (leads_ren [(900, 7)] (l := [(2, .c (.own 900 false))]) (st' := [(900, .sl 140 (.pair (.int .i64) (.int .i64)) (([] : List (Int × Int)) ++ s_) .shallow)]) rfl rfl ⟨⟨rfl, rfl⟩, trivial⟩ ⟨⟨⟨rfl, rfl⟩, trivial⟩, trivial⟩), he⟩

noncomputable def c_impl_Constraint_own : Con := fun args st => match args, st with
  | [.agg [.imm (.pair (.int .i64) (.int .i64)) c__0, .int .i64 c__1]], [] => .opt (Int × (List (Int × Int))) (impl_Constraint_own (c__0, c__1)) (fun r => .ret (.agg [.own 901 false, .int .i64 r.1]) [(900, .rc [.own 901 false, .int .i64 r.1]), (901, .sl 140 (.pair (.int .i64) (.int .i64)) r.2 .shallow)])
  | _, _ => .fail

noncomputable def C_impl_Constraint_own : Cfg := { y := tys, n := 8, h := 0, tab := [(272, c_slices_Clone_impl_Term)], cut := [], hand := [], good := [], deep := [], sched := [] }

theorem t_impl_Constraint_own : TabOk Try.prog C_impl_Constraint_own := by
  refine tabOk_of ?_
  simp only [C_impl_Constraint_own, List.forall_mem_cons]
  exact ⟨k_slices_Clone_impl_Term, fun p h => by cases h⟩

theorem k_impl_Constraint_own : Entry Try.prog 241 c_impl_Constraint_own := by
  refine entry_by (C := C_impl_Constraint_own) mixed tys_ok t_impl_Constraint_own (fn := Try.f241) (c := bd Try.f241) (by kernel_rfl) (by kernel_rfl) (by kernel_rfl) (by kernel_rfl) ?_
  intro args st k he
  unfold c_impl_Constraint_own at he
  split at he
  rotate_left
  · exact he.elim
  rename_i c__0 c__1
  have he : Ok (impl_Constraint_own (c__0, c__1)) (fun r => k (.agg [.own 901 false, .int .i64 r.1]) [(900, .rc [.own 901 false, .int .i64 r.1]), (901, .sl 140 (.pair (.int .i64) (.int .i64)) r.2 .shallow)]) := he
  refine ⟨rfl, rfl, ?_⟩
  obtain ⟨r1_, hr, he⟩ := ok_bind he
  refine ⟨r1_, hr, ?_⟩
  have he := ok_some he
  exact ⟨rfl, _, _, (leads_ren [(900, 2), (901, 6900)] (l := [(2, .c (.ptr 900 0))]) (st' := [(900, .rc [.own 901 false, .int .i64 (c__0, c__1).2]), (901, .sl 140 (.pair (.int .i64) (.int .i64)) r1_ .shallow)]) rfl rfl ⟨⟨⟨⟨rfl, rfl⟩, trivial⟩, rfl, trivial⟩, ⟨rfl, rfl⟩, trivial⟩ ⟨⟨⟨rfl, rfl⟩, rfl⟩, trivial⟩), he⟩

noncomputable def c_impl_ownAll : Con := fun args st => match args, st with
  | [.c (.imm (.pair (.sl (.pair (.int .i64) (.int .i64))) (.int .i64)) list_)], [] => .opt ((List ((List (Int × Int)) × Int))) (impl_ownAll list_) (fun r => .ret (.c (.own 900 false)) [(900, .sl 33 (.pair (.sl (.pair (.int .i64) (.int .i64))) (.int .i64)) r (.deep true .no))])
  | _, _ => .fail

noncomputable def C_impl_ownAll : Cfg := { y := tys, n := 19, h := 0, tab := [(241, c_impl_Constraint_own)], cut := [], hand := [], good := [], deep := [15], sched := [] }

theorem t_impl_ownAll : TabOk Try.prog C_impl_ownAll := by
  refine tabOk_of ?_
  simp only [C_impl_ownAll, List.forall_mem_cons]
  exact ⟨k_impl_Constraint_own, fun p h => by cases h⟩

theorem k_impl_ownAll : Entry Try.prog 180 c_impl_ownAll := by
  refine entry_by (C := C_impl_ownAll) mixed tys_ok t_impl_ownAll (fn := Try.f180) (c := bd Try.f180) (by kernel_rfl) (by kernel_rfl) (by kernel_rfl) (by kernel_rfl) ?_
  intro args st k he
  unfold c_impl_ownAll at he
  split at he
  rotate_left
  · exact he.elim
  rename_i list_
  have he : Ok (impl_ownAll list_) (fun r => k (.c (.own 900 false)) [(900, .sl 33 (.pair (.sl (.pair (.int .i64) (.int .i64))) (.int .i64)) r (.deep true .no))]) := he
  refine ⟨rfl, rfl, ?_⟩
  refine loop_model mixed tys_ok t_impl_ownAll (S := Int × (List ((List (Int × Int)) × Int))) (I := (fun (i, out) => (envOf [(3, .c (.own 10000000 false)), (6, .c (.imm (.pair (.sl (.pair (.int .i64) (.int .i64))) (.int .i64)) list_)), (7, .c (.int .i64 (list_.length:Int))), (8, .c (.int .i64 i))], [(10000000, .sl 33 (.pair (.sl (.pair (.int .i64) (.int .i64))) (.int .i64)) out (.deep true .no))]))) (f := impl_ownAll_l1 list_) (K := (fun r => k (.c (.own 900 false)) [(900, .sl 33 (.pair (.sl (.pair (.int .i64) (.int .i64))) (.int .i64)) r (.deep true .no))])) he (leads_ren [] (l := [(3, .c (.own 10000000 false)), (6, .c (.imm (.pair (.sl (.pair (.int .i64) (.int .i64))) (.int .i64)) list_)), (7, .c (.int .i64 (list_.length:Int))), (8, .c (.int .i64 (0:Int)))]) (st' := [(10000000, .sl 33 (.pair (.sl (.pair (.int .i64) (.int .i64))) (.int .i64)) ([] : List ((List (Int × Int)) × Int)) (.deep true .no))]) rfl rfl ⟨trivial, trivial⟩ ⟨⟨rfl, trivial⟩, .inl rfl, rfl, rfl, trivial⟩) ?_
  rintro ⟨i, out⟩ J1 he
  refine And.intro (fun hb => ?_) (fun hb => ?_)
  · have he := ok_t he hb
    have he := ok_rq he
    refine And.intro he.1 ?_
    have he := he.2
    obtain ⟨r2_, hr, he⟩ := ok_bind he
    refine ⟨r2_, hr, ?_⟩
    have he := ok_rq he
    refine And.intro he.1 ?_
    have he := he.2
    have he := ok_rq he
    refine And.intro he.1 ?_
    have he := he.2
    have he := ok_some he
    exact ⟨((i + (1:Int)), (out ++ [(r2_.2, r2_.1)])), he, (leads_ren [(10000000, 16)] (l := [(3, .c (.own 10000000 false)), (6, .c (.imm (.pair (.sl (.pair (.int .i64) (.int .i64))) (.int .i64)) list_)), (7, .c (.int .i64 (list_.length:Int))), (8, .c (.int .i64 (i + (1:Int))))]) (st' := [(10000000, .sl 33 (.pair (.sl (.pair (.int .i64) (.int .i64))) (.int .i64)) (out ++ [(r2_.2, r2_.1)]) (.deep true .no))]) rfl rfl ⟨⟨rfl, rfl⟩, trivial⟩ ⟨⟨⟨rfl, rfl⟩, trivial⟩, .inl rfl, rfl, rfl, trivial⟩)⟩
  · have he := ok_f he hb
    have he := ok_some he
    exact ⟨rfl, _, _, (leads_ren [(900, 10000000)] (l := [(2, .c (.own 900 false))]) (st' := [(900, .sl 33 (.pair (.sl (.pair (.int .i64) (.int .i64))) (.int .i64)) out (.deep true .no))]) rfl rfl ⟨⟨rfl, rfl⟩, trivial⟩ ⟨⟨⟨rfl, rfl⟩, trivial⟩, trivial⟩), he⟩

noncomputable def c_impl_CubeProblem : Con := fun args st => match args, st with
  | [.c (.imm (.pair (.sl (.pair (.int .i64) (.int .i64))) (.int .i64)) list_), .c (.imm (.int .i64) cube)], [] => .opt (Bool × (List ((List (Int × Int)) × Int))) (impl_CubeProblem list_ cube) (fun r => .ret (.tup [.c (.own 900 false), .c (.bool r.1)]) [(900, .sl 33 (.pair (.sl (.pair (.int .i64) (.int .i64))) (.int .i64)) r.2 (.deep true .no))])
  | _, _ => .fail

noncomputable def C_impl_CubeProblem : Cfg := { y := tys, n := 42, h := 0, tab := [(161, c_impl_isCube), (179, c_impl_ProblemValid), (180, c_impl_ownAll)], cut := [], hand := [], good := [], deep := [38], sched := [] }

theorem t_impl_CubeProblem : TabOk Try.prog C_impl_CubeProblem := by
  refine tabOk_of ?_
  simp only [C_impl_CubeProblem, List.forall_mem_cons]
  exact ⟨k_impl_isCube, k_impl_ProblemValid, k_impl_ownAll, fun p h => by cases h⟩

theorem k_impl_CubeProblem : Entry Try.prog 72 c_impl_CubeProblem := by
  refine entry_by (C := C_impl_CubeProblem) mixed tys_ok t_impl_CubeProblem (fn := Try.f72) (c := bd Try.f72) (by kernel_rfl) (by kernel_rfl) (by kernel_rfl) (by kernel_rfl) ?_
  intro args st k he
  unfold c_impl_CubeProblem at he
  split at he
  rotate_left
  · exact he.elim
  rename_i list_ cube
  have he : Ok (impl_CubeProblem list_ cube) (fun r => k (.tup [.c (.own 900 false), .c (.bool r.1)]) [(900, .sl 33 (.pair (.sl (.pair (.int .i64) (.int .i64))) (.int .i64)) r.2 (.deep true .no))]) := he
  refine ⟨rfl, rfl, ?_⟩
  obtain ⟨r1_, hr, he⟩ := ok_bind he
  refine ⟨r1_, hr, ?_⟩
  refine And.intro (fun hb => ?_) (fun hb => ?_)
  · have he := ok_f he hb
    obtain ⟨r2_, hr, he⟩ := ok_bind he
    refine ⟨r2_, hr, ?_⟩
    refine And.intro (fun hb => ?_) (fun hb => ?_)
    · have he := ok_f he hb
      have he := ok_rq he
      refine And.intro he.1 ?_
      have he := he.2
      refine And.intro (fun hb => ?_) (fun hb => ?_)
      · have he := ok_t he hb
        have he := ok_some he
        exact ⟨rfl, _, _, (leads_ren [] (l := [(4, .c (.own 900 false)), (5, .c (.bool false))]) (st' := [(900, .sl 33 (.pair (.sl (.pair (.int .i64) (.int .i64))) (.int .i64)) ([] : List ((List (Int × Int)) × Int)) (.deep true .no))]) rfl rfl ⟨trivial, trivial⟩ ⟨⟨rfl, trivial⟩, .inr rfl, trivial⟩), he⟩
      · have he := ok_f he hb
        obtain ⟨r3_, hr, he⟩ := ok_bind he
        refine ⟨r3_, hr, ?_⟩
        refine loop_model mixed tys_ok t_impl_CubeProblem (S := Int × (List ((List (Int × Int)) × Int))) (I := (fun (i, out) => (envOf [(6, .c (.own 10000000 false)), (27, .c (.imm (.int .i64) cube)), (28, .c (.int .i64 (cube.length:Int))), (29, .c (.int .i64 i))], [(10000000, .sl 33 (.pair (.sl (.pair (.int .i64) (.int .i64))) (.int .i64)) out (.deep true .no))]))) (f := impl_CubeProblem_l1 cube) (K := (fun r => k (.tup [.c (.own 900 false), .c (.bool r.1)]) [(900, .sl 33 (.pair (.sl (.pair (.int .i64) (.int .i64))) (.int .i64)) r.2 (.deep true .no))])) he (leads_ren [(10000000, 27900)] (l := [(6, .c (.own 10000000 false)), (27, .c (.imm (.int .i64) cube)), (28, .c (.int .i64 (cube.length:Int))), (29, .c (.int .i64 (0:Int)))]) (st' := [(10000000, .sl 33 (.pair (.sl (.pair (.int .i64) (.int .i64))) (.int .i64)) r3_ (.deep true .no))]) rfl rfl ⟨⟨rfl, rfl⟩, trivial⟩ ⟨⟨⟨rfl, rfl⟩, trivial⟩, .inl rfl, rfl, rfl, trivial⟩) ?_
        rintro ⟨i, out⟩ J1 he
        refine And.intro (fun hb => ?_) (fun hb => ?_)
        · have he := ok_t he hb
          have he := ok_rq he
          refine And.intro he.1 ?_
          have he := he.2
          have he := ok_rq he
          refine And.intro he.1 ?_
          have he := he.2
          have he := ok_rq he
          refine And.intro he.1 ?_
          have he := he.2
          have he := ok_some he
          exact ⟨((i + (1:Int)), (out ++ [([((1:Int), (cube.getD i.toNat 0))], (1:Int))])), he, (leads_ren [(10000000, 39)] (l := [(6, .c (.own 10000000 false)), (27, .c (.imm (.int .i64) cube)), (28, .c (.int .i64 (cube.length:Int))), (29, .c (.int .i64 (i + (1:Int))))]) (st' := [(10000000, .sl 33 (.pair (.sl (.pair (.int .i64) (.int .i64))) (.int .i64)) (out ++ [([((1:Int), (cube.getD i.toNat 0))], (1:Int))]) (.deep true .no))]) rfl rfl ⟨⟨rfl, rfl⟩, trivial⟩ ⟨⟨⟨rfl, rfl⟩, trivial⟩, .inl rfl, rfl, rfl, trivial⟩)⟩
        · have he := ok_f he hb
          have he := ok_some he
          exact ⟨rfl, _, _, (leads_ren [(900, 10000000)] (l := [(4, .c (.own 900 false)), (5, .c (.bool true))]) (st' := [(900, .sl 33 (.pair (.sl (.pair (.int .i64) (.int .i64))) (.int .i64)) out (.deep true .no))]) rfl rfl ⟨⟨rfl, rfl⟩, trivial⟩ ⟨⟨⟨rfl, rfl⟩, trivial⟩, .inr rfl, trivial⟩), he⟩
    · have he := ok_t he hb
      have he := ok_some he
      exact ⟨rfl, _, _, (leads_ren [] (l := [(4, .c (.own 900 false)), (5, .c (.bool false))]) (st' := [(900, .sl 33 (.pair (.sl (.pair (.int .i64) (.int .i64))) (.int .i64)) ([] : List ((List (Int × Int)) × Int)) (.deep true .no))]) rfl rfl ⟨trivial, trivial⟩ ⟨⟨rfl, trivial⟩, .inr rfl, trivial⟩), he⟩
  · have he := ok_t he hb
    have he := ok_some he
    exact ⟨rfl, _, _, (leads_ren [] (l := [(4, .c (.own 900 false)), (5, .c (.bool false))]) (st' := [(900, .sl 33 (.pair (.sl (.pair (.int .i64) (.int .i64))) (.int .i64)) ([] : List ((List (Int × Int)) × Int)) (.deep true .no))]) rfl rfl ⟨trivial, trivial⟩ ⟨⟨rfl, trivial⟩, .inr rfl, trivial⟩), he⟩

noncomputable def c_spec_l1Lit : Con := fun args st => match args, st with
  | [.c (.int .i64 n)], [] => .opt (Bool) (spec_l1Lit n) (fun r => .ret (.c (.bool r)) [])
  | _, _ => .fail

noncomputable def C_spec_l1Lit : Cfg := { y := tys, n := 13, h := 0, tab := [], cut := [], hand := [], good := [], deep := [], sched := [] }

theorem t_spec_l1Lit : TabOk Try.prog C_spec_l1Lit := tabOk_of (fun p h => by cases h)

theorem k_spec_l1Lit : Entry Try.prog 229 c_spec_l1Lit := by
  refine entry_by (C := C_spec_l1Lit) mixed tys_ok t_spec_l1Lit (fn := Try.f229) (c := bd Try.f229) (by kernel_rfl) (by kernel_rfl) (by kernel_rfl) (by kernel_rfl) ?_
  intro args st k he
  unfold c_spec_l1Lit at he
  split at he
  rotate_left
  · exact he.elim
  rename_i n
  have he : Ok (spec_l1Lit n) (fun r => k (.c (.bool r)) []) := he
  refine ⟨rfl, rfl, ?_⟩
  refine And.intro (fun hb => ?_) (fun hb => ?_)
  · have he := ok_t he hb
    refine And.intro (fun hb => ?_) (fun hb => ?_)
    · have he := ok_t he hb
      have he := ok_some he
      exact ⟨rfl, _, _, Leads.refl _ _, he⟩
    · have he := ok_f he hb
      have he := ok_some he
      exact ⟨rfl, _, _, Leads.refl _ _, he⟩
  · have he := ok_f he hb
    have he := ok_some he
    exact ⟨rfl, _, _, Leads.refl _ _, he⟩

noncomputable def c_spec_l1Abs : Con := fun args st => match args, st with
  | [.c (.int .i64 n)], [] => .opt (Int) (spec_l1Abs n) (fun r => .ret (.c (.int .i64 r)) [])
  | _, _ => .fail

noncomputable def C_spec_l1Abs : Cfg := { y := tys, n := 8, h := 0, tab := [], cut := [], hand := [], good := [], deep := [], sched := [] }

theorem t_spec_l1Abs : TabOk Try.prog C_spec_l1Abs := tabOk_of (fun p h => by cases h)

theorem k_spec_l1Abs : Entry Try.prog 171 c_spec_l1Abs := by
  refine entry_by (C := C_spec_l1Abs) mixed tys_ok t_spec_l1Abs (fn := Try.f171) (c := bd Try.f171) (by kernel_rfl) (by kernel_rfl) (by kernel_rfl) (by kernel_rfl) ?_
  intro args st k he
  unfold c_spec_l1Abs at he
  split at he
  rotate_left
  · exact he.elim
  rename_i n
  have he : Ok (spec_l1Abs n) (fun r => k (.c (.int .i64 r)) []) := he
  refine ⟨rfl, rfl, ?_⟩
  refine And.intro (fun hb => ?_) (fun hb => ?_)
  · have he := ok_t he hb
    have he := ok_rq he
    refine And.intro he.1 ?_
    have he := he.2
    have he := ok_some he
    exact ⟨rfl, _, _, Leads.refl _ _, he⟩
  · have he := ok_f he hb
    have he := ok_some he
    exact ⟨rfl, _, _, Leads.refl _ _, he⟩

noncomputable def c_spec_ConstraintValid : Con := fun args st => match args, st with
  | [.agg [.imm (.pair (.int .i64) (.int .i64)) c__0, .int .i64 c__1]], [] => .opt (Bool) (spec_ConstraintValid (c__0, c__1)) (fun r => .ret (.c (.bool r)) [])
  | _, _ => .fail

noncomputable def C_spec_ConstraintValid : Cfg := { y := tys, n := 57, h := 0, tab := [(171, c_spec_l1Abs), (229, c_spec_l1Lit)], cut := [], hand := [], good := [], deep := [], sched := [(5, (.first 0 (.alt 1 (.alt 2 (.first 3 (.first 4 (.first 5 (.alt 6 (.first 7 (.first 8 (.first 9 (.first 10 (.alt 11 (.first 12 (.first 13 (.first 14 (.first 15 (.first 16 (.first 17 (.first 18 (.first 20 (.first 21 (.first 26 (.alt 19 (.first 22 (.first 23 (.first 24 (.alt 25 (.alt 27 (.alt 28 (.first 29 (.first 30 (.first 31 .done))) .stop) .stop) (.alt 27 (.alt 25 (.alt 28 (.first 29 (.first 30 (.first 31 .done))) .stop) .stop) .stop))))) (.alt 27 (.alt 19 (.first 22 (.first 23 (.first 24 (.alt 25 (.alt 28 (.first 29 (.first 30 (.first 31 .done))) .stop) .stop)))) .stop) .stop)))))))))))) .stop))))) .stop)))) .stop) .stop)))] }

theorem t_spec_ConstraintValid : TabOk Try.prog C_spec_ConstraintValid := by
  refine tabOk_of ?_
  simp only [C_spec_ConstraintValid, List.forall_mem_cons]
  exact ⟨k_spec_l1Abs, k_spec_l1Lit, fun p h => by cases h⟩

theorem k_spec_ConstraintValid : Entry Try.prog 207 c_spec_ConstraintValid := by
  refine entry_by (C := C_spec_ConstraintValid) mixed tys_ok t_spec_ConstraintValid (fn := Try.f207) (c := bd Try.f207) (by kernel_rfl) (by kernel_rfl) (by kernel_rfl) (by kernel_rfl) ?_
  intro args st k he
  unfold c_spec_ConstraintValid at he
  split at he
  rotate_left
  · exact he.elim
  rename_i c__0 c__1
  have he : Ok (spec_ConstraintValid (c__0, c__1)) (fun r => k (.c (.bool r)) []) := he
  refine ⟨rfl, rfl, ?_⟩
  refine loop_model mixed tys_ok t_spec_ConstraintValid (S := Int) (I := (fun i => (envOf [(1, .c (.ptr 10000000 0)), (3, .c (.int .i64 i))], [(10000000, .rc [.imm (.pair (.int .i64) (.int .i64)) (c__0, c__1).1, .int .i64 (c__0, c__1).2])]))) (f := spec_ConstraintValid_l1 (c__0, c__1)) (K := (fun r => k (.c (.bool r)) [])) he (leads_ren [(10000000, 1)] (l := [(1, .c (.ptr 10000000 0)), (3, .c (.int .i64 (0:Int)))]) (st' := [(10000000, .rc [.imm (.pair (.int .i64) (.int .i64)) (c__0, c__1).1, .int .i64 (c__0, c__1).2])]) rfl rfl ⟨⟨.inl rfl, rfl, trivial⟩, trivial⟩ ⟨⟨⟨rfl, rfl⟩, rfl⟩, rfl, trivial⟩) ?_
  rintro i J1 he
  refine And.intro (fun hb => ?_) (fun hb => ?_)
  · have he := ok_t he hb
    have he := ok_rq he
    refine And.intro he.1 ?_
    have he := he.2
    refine And.intro (by kernel_rfl) ?_
    refine And.intro ?_ trivial
    refine And.intro ?_ trivial
    obtain ⟨r4_, hr, he⟩ := ok_bind he
    refine ⟨r4_, hr, ?_⟩
    refine And.intro (fun hb => ?_) (fun hb => ?_)
    · have he := ok_f he hb
      refine And.intro ?_ trivial
      refine And.intro (fun hb => ?_) (fun hb => ?_)
      · have he := ok_f he hb
        refine And.intro ?_ trivial
        refine And.intro (fun hb => ?_) (fun hb => ?_)
        · have he := ok_f he hb
          refine And.intro (fun hb => ?_) (fun hb => ?_)
          · have he := ok_t he hb
            have he := ok_rq he
            refine And.intro he.1 ?_
            have he := he.2
            have he := ok_rq he
            have hq1 := he.1
            have he := he.2
            obtain ⟨r5_, hq2, he⟩ := ok_bind he
            obtain ⟨r6_, hq3, he⟩ := ok_bind he
            refine And.intro ?_ (And.intro ?_ (trivial))
            · skip
              refine And.intro hq1 ?_
              refine And.intro ?_ (And.intro ?_ (trivial))
              · skip
                refine ⟨r5_, hq2, ?_⟩
                refine And.intro ?_ trivial
                refine And.intro ?_ trivial
                refine ⟨r6_, hq3, ?_⟩
                refine And.intro (fun hb => ?_) (fun hb => ?_)
                · have he := ok_t he hb
                  have he := ok_some he
                  exact ⟨rfl, _, _, (leads_ren [] (l := [(2, .c (.bool false))]) (st' := []) rfl rfl trivial ⟨.inr rfl, trivial⟩), he⟩
                · have he := ok_f he hb
                  have he := ok_rq he
                  refine And.intro he.1 ?_
                  have he := he.2
                  have he := ok_some he
                  exact ⟨(i + (1:Int)), he, (leads_ren [] (l := [(1, .c (.ptr 10000000 0)), (3, .c (.int .i64 (i + (1:Int))))]) (st' := [(10000000, .rc [.imm (.pair (.int .i64) (.int .i64)) (c__0, c__1).1, .int .i64 (c__0, c__1).2])]) rfl rfl ⟨⟨.inl rfl, rfl, trivial⟩, trivial⟩ ⟨⟨⟨rfl, rfl⟩, rfl⟩, rfl, trivial⟩)⟩
              · skip
                refine And.intro ?_ trivial
                refine ⟨r5_, hq2, ?_⟩
                refine And.intro ?_ trivial
                refine ⟨r6_, hq3, ?_⟩
                refine And.intro (fun hb => ?_) (fun hb => ?_)
                · have he := ok_t he hb
                  have he := ok_some he
                  exact ⟨rfl, _, _, (leads_ren [] (l := [(2, .c (.bool false))]) (st' := []) rfl rfl trivial ⟨.inr rfl, trivial⟩), he⟩
                · have he := ok_f he hb
                  have he := ok_rq he
                  refine And.intro he.1 ?_
                  have he := he.2
                  have he := ok_some he
                  exact ⟨(i + (1:Int)), he, (leads_ren [] (l := [(1, .c (.ptr 10000000 0)), (3, .c (.int .i64 (i + (1:Int))))]) (st' := [(10000000, .rc [.imm (.pair (.int .i64) (.int .i64)) (c__0, c__1).1, .int .i64 (c__0, c__1).2])]) rfl rfl ⟨⟨.inl rfl, rfl, trivial⟩, trivial⟩ ⟨⟨⟨rfl, rfl⟩, rfl⟩, rfl, trivial⟩)⟩
            · skip
              refine And.intro ?_ trivial
              refine And.intro hq1 ?_
              refine And.intro ?_ trivial
              refine ⟨r5_, hq2, ?_⟩
              refine And.intro ?_ trivial
              refine ⟨r6_, hq3, ?_⟩
              refine And.intro (fun hb => ?_) (fun hb => ?_)
              · have he := ok_t he hb
                have he := ok_some he
                exact ⟨rfl, _, _, (leads_ren [] (l := [(2, .c (.bool false))]) (st' := []) rfl rfl trivial ⟨.inr rfl, trivial⟩), he⟩
              · have he := ok_f he hb
                have he := ok_rq he
                refine And.intro he.1 ?_
                have he := he.2
                have he := ok_some he
                exact ⟨(i + (1:Int)), he, (leads_ren [] (l := [(1, .c (.ptr 10000000 0)), (3, .c (.int .i64 (i + (1:Int))))]) (st' := [(10000000, .rc [.imm (.pair (.int .i64) (.int .i64)) (c__0, c__1).1, .int .i64 (c__0, c__1).2])]) rfl rfl ⟨⟨.inl rfl, rfl, trivial⟩, trivial⟩ ⟨⟨⟨rfl, rfl⟩, rfl⟩, rfl, trivial⟩)⟩
          · have he := ok_f he hb
            refine And.intro ?_ (And.intro ?_ (trivial))
            · skip
              refine And.intro ?_ (And.intro ?_ (trivial))
              · skip
                refine And.intro ?_ trivial
                refine And.intro ?_ trivial
                have he := ok_rq he
                refine And.intro he.1 ?_
                have he := he.2
                have he := ok_some he
                exact ⟨(i + (1:Int)), he, (leads_ren [] (l := [(1, .c (.ptr 10000000 0)), (3, .c (.int .i64 (i + (1:Int))))]) (st' := [(10000000, .rc [.imm (.pair (.int .i64) (.int .i64)) (c__0, c__1).1, .int .i64 (c__0, c__1).2])]) rfl rfl ⟨⟨.inl rfl, rfl, trivial⟩, trivial⟩ ⟨⟨⟨rfl, rfl⟩, rfl⟩, rfl, trivial⟩)⟩
              · skip
                refine And.intro ?_ trivial
                refine And.intro ?_ trivial
                have he := ok_rq he
                refine And.intro he.1 ?_
                have he := he.2
                have he := ok_some he
                exact ⟨(i + (1:Int)), he, (leads_ren [] (l := [(1, .c (.ptr 10000000 0)), (3, .c (.int .i64 (i + (1:Int))))]) (st' := [(10000000, .rc [.imm (.pair (.int .i64) (.int .i64)) (c__0, c__1).1, .int .i64 (c__0, c__1).2])]) rfl rfl ⟨⟨.inl rfl, rfl, trivial⟩, trivial⟩ ⟨⟨⟨rfl, rfl⟩, rfl⟩, rfl, trivial⟩)⟩
            · skip
              refine And.intro ?_ trivial
              refine And.intro ?_ trivial
              refine And.intro ?_ trivial
              have he := ok_rq he
              refine And.intro he.1 ?_
              have he := he.2
              have he := ok_some he
              exact ⟨(i + (1:Int)), he, (leads_ren [] (l := [(1, .c (.ptr 10000000 0)), (3, .c (.int .i64 (i + (1:Int))))]) (st' := [(10000000, .rc [.imm (.pair (.int .i64) (.int .i64)) (c__0, c__1).1, .int .i64 (c__0, c__1).2])]) rfl rfl ⟨⟨.inl rfl, rfl, trivial⟩, trivial⟩ ⟨⟨⟨rfl, rfl⟩, rfl⟩, rfl, trivial⟩)⟩
        · have he := ok_t he hb
          refine And.intro ?_ (And.intro ?_ (trivial))
          · skip
            refine And.intro ?_ (And.intro ?_ (trivial))
            · skip
              refine And.intro ?_ trivial
              refine And.intro ?_ trivial
              have he := ok_some he
              exact ⟨rfl, _, _, (leads_ren [] (l := [(2, .c (.bool false))]) (st' := []) rfl rfl trivial ⟨.inr rfl, trivial⟩), he⟩
            · skip
              refine And.intro ?_ trivial
              refine And.intro ?_ trivial
              have he := ok_some he
              exact ⟨rfl, _, _, (leads_ren [] (l := [(2, .c (.bool false))]) (st' := []) rfl rfl trivial ⟨.inr rfl, trivial⟩), he⟩
          · skip
            refine And.intro ?_ trivial
            refine And.intro ?_ trivial
            refine And.intro ?_ trivial
            have he := ok_some he
            exact ⟨rfl, _, _, (leads_ren [] (l := [(2, .c (.bool false))]) (st' := []) rfl rfl trivial ⟨.inr rfl, trivial⟩), he⟩
      · have he := ok_t he hb
        refine And.intro ?_ trivial
        refine And.intro ?_ (And.intro ?_ (trivial))
        · skip
          refine And.intro ?_ (And.intro ?_ (trivial))
          · skip
            refine And.intro ?_ trivial
            refine And.intro ?_ trivial
            have he := ok_some he
            exact ⟨rfl, _, _, (leads_ren [] (l := [(2, .c (.bool false))]) (st' := []) rfl rfl trivial ⟨.inr rfl, trivial⟩), he⟩
          · skip
            refine And.intro ?_ trivial
            refine And.intro ?_ trivial
            have he := ok_some he
            exact ⟨rfl, _, _, (leads_ren [] (l := [(2, .c (.bool false))]) (st' := []) rfl rfl trivial ⟨.inr rfl, trivial⟩), he⟩
        · skip
          refine And.intro ?_ trivial
          refine And.intro ?_ trivial
          refine And.intro ?_ trivial
          have he := ok_some he
          exact ⟨rfl, _, _, (leads_ren [] (l := [(2, .c (.bool false))]) (st' := []) rfl rfl trivial ⟨.inr rfl, trivial⟩), he⟩
    · have he := ok_t he hb
      refine And.intro ?_ trivial
      refine And.intro ?_ trivial
      refine And.intro ?_ (And.intro ?_ (trivial))
      · skip
        refine And.intro ?_ (And.intro ?_ (trivial))
        · skip
          refine And.intro ?_ trivial
          refine And.intro ?_ trivial
          have he := ok_some he
          exact ⟨rfl, _, _, (leads_ren [] (l := [(2, .c (.bool false))]) (st' := []) rfl rfl trivial ⟨.inr rfl, trivial⟩), he⟩
        · skip
          refine And.intro ?_ trivial
          refine And.intro ?_ trivial
          have he := ok_some he
          exact ⟨rfl, _, _, (leads_ren [] (l := [(2, .c (.bool false))]) (st' := []) rfl rfl trivial ⟨.inr rfl, trivial⟩), he⟩
      · skip
        refine And.intro ?_ trivial
        refine And.intro ?_ trivial
        refine And.intro ?_ trivial
        have he := ok_some he
        exact ⟨rfl, _, _, (leads_ren [] (l := [(2, .c (.bool false))]) (st' := []) rfl rfl trivial ⟨.inr rfl, trivial⟩), he⟩
  · have he := ok_f he hb
    refine And.intro (fun hb => ?_) (fun hb => ?_)
    · have he := ok_t he hb
      have he := ok_some he
      exact ⟨rfl, _, _, (leads_ren [] (l := [(2, .c (.bool (decide ((c__0, c__1).2 ≤ (20000:Int)))))]) (st' := []) rfl rfl trivial ⟨.inl rfl, trivial⟩), he⟩
    · have he := ok_f he hb
      have he := ok_some he
      exact ⟨rfl, _, _, (leads_ren [] (l := [(2, .c (.bool false))]) (st' := []) rfl rfl trivial ⟨.inr rfl, trivial⟩), he⟩

noncomputable def c_spec_ProblemValid : Con := fun args st => match args, st with
  | [.c (.imm (.pair (.sl (.pair (.int .i64) (.int .i64))) (.int .i64)) list_)], [] => .opt (Bool) (spec_ProblemValid list_) (fun r => .ret (.c (.bool r)) [])
  | _, _ => .fail

noncomputable def C_spec_ProblemValid : Cfg := { y := tys, n := 19, h := 0, tab := [(207, c_spec_ConstraintValid)], cut := [], hand := [], good := [], deep := [], sched := [] }

theorem t_spec_ProblemValid : TabOk Try.prog C_spec_ProblemValid := by
  refine tabOk_of ?_
  simp only [C_spec_ProblemValid, List.forall_mem_cons]
  exact ⟨k_spec_ConstraintValid, fun p h => by cases h⟩

theorem k_spec_ProblemValid : Entry Try.prog 181 c_spec_ProblemValid := by
  refine entry_by (C := C_spec_ProblemValid) mixed tys_ok t_spec_ProblemValid (fn := Try.f181) (c := bd Try.f181) (by kernel_rfl) (by kernel_rfl) (by kernel_rfl) (by kernel_rfl) ?_
  intro args st k he
  unfold c_spec_ProblemValid at he
  split at he
  rotate_left
  · exact he.elim
  rename_i list_
  have he : Ok (spec_ProblemValid list_) (fun r => k (.c (.bool r)) []) := he
  refine ⟨rfl, rfl, ?_⟩
  refine loop_model mixed tys_ok t_spec_ProblemValid (S := Int) (I := (fun i => (envOf [(0, .c (.imm (.pair (.sl (.pair (.int .i64) (.int .i64))) (.int .i64)) list_)), (3, .c (.int .i64 i))], []))) (f := spec_ProblemValid_l1 list_) (K := (fun r => k (.c (.bool r)) [])) he (leads_ren [] (l := [(0, .c (.imm (.pair (.sl (.pair (.int .i64) (.int .i64))) (.int .i64)) list_)), (3, .c (.int .i64 (0:Int)))]) (st' := []) rfl rfl trivial ⟨.inl rfl, rfl, trivial⟩) ?_
  rintro i J1 he
  refine And.intro (fun hb => ?_) (fun hb => ?_)
  · have he := ok_t he hb
    have he := ok_rq he
    refine And.intro he.1 ?_
    have he := he.2
    obtain ⟨r1_, hr, he⟩ := ok_bind he
    refine ⟨r1_, hr, ?_⟩
    refine And.intro (fun hb => ?_) (fun hb => ?_)
    · have he := ok_t he hb
      have he := ok_some he
      exact ⟨rfl, _, _, Leads.refl _ _, he⟩
    · have he := ok_f he hb
      have he := ok_rq he
      refine And.intro he.1 ?_
      have he := he.2
      have he := ok_some he
      exact ⟨(i + (1:Int)), he, (leads_ren [] (l := [(0, .c (.imm (.pair (.sl (.pair (.int .i64) (.int .i64))) (.int .i64)) list_)), (3, .c (.int .i64 (i + (1:Int))))]) (st' := []) rfl rfl trivial ⟨.inl rfl, rfl, trivial⟩)⟩
  · have he := ok_f he hb
    have he := ok_some he
    exact ⟨rfl, _, _, Leads.refl _ _, he⟩

noncomputable def c_spec_l12Vars : Con := fun args st => match args, st with
  | [.c (.imm (.int .i64) vars)], [] => .opt (Bool) (spec_l12Vars vars) (fun r => .ret (.c (.bool r)) [])
  | _, _ => .fail

noncomputable def C_spec_l12Vars : Cfg := { y := tys, n := 41, h := 0, tab := [], cut := [], hand := [], good := [], deep := [], sched := [] }

theorem t_spec_l12Vars : TabOk Try.prog C_spec_l12Vars := tabOk_of (fun p h => by cases h)

theorem k_spec_l12Vars : Entry Try.prog 189 c_spec_l12Vars := by
  refine entry_by (C := C_spec_l12Vars) mixed tys_ok t_spec_l12Vars (fn := Try.f189) (c := bd Try.f189) (by kernel_rfl) (by kernel_rfl) (by kernel_rfl) (by kernel_rfl) ?_
  intro args st k he
  unfold c_spec_l12Vars at he
  split at he
  rotate_left
  · exact he.elim
  rename_i vars
  have he : Ok (spec_l12Vars vars) (fun r => k (.c (.bool r)) []) := he
  refine ⟨rfl, rfl, ?_⟩
  refine loop_model mixed tys_ok t_spec_l12Vars (S := Int) (I := (fun i => (envOf [(0, .c (.imm (.int .i64) vars)), (3, .c (.int .i64 i))], []))) (f := spec_l12Vars_l1 vars) (K := (fun r => k (.c (.bool r)) [])) he (leads_ren [] (l := [(0, .c (.imm (.int .i64) vars)), (3, .c (.int .i64 (0:Int)))]) (st' := []) rfl rfl trivial ⟨.inl rfl, rfl, trivial⟩) ?_
  rintro i J1 he
  refine And.intro (fun hb => ?_) (fun hb => ?_)
  · have he := ok_t he hb
    refine And.intro (by kernel_rfl) ?_
    have he := ok_rq he
    refine And.intro he.1 ?_
    have he := he.2
    refine And.intro (fun hb => ?_) (fun hb => ?_)
    · have he := ok_f he hb
      have he := ok_rq he
      refine And.intro he.1 ?_
      have he := he.2
      refine And.intro (fun hb => ?_) (fun hb => ?_)
      · have he := ok_f he hb
        refine And.intro (fun hb => ?_) (fun hb => ?_)
        · have he := ok_t he hb
          have he := ok_rq he
          refine And.intro he.1 ?_
          have he := he.2
          have he := ok_rq he
          refine And.intro he.1 ?_
          have he := he.2
          have he := ok_rq he
          refine And.intro he.1 ?_
          have he := he.2
          refine And.intro (fun hb => ?_) (fun hb => ?_)
          · have he := ok_t he hb
            have he := ok_some he
            exact ⟨rfl, _, _, Leads.refl _ _, he⟩
          · have he := ok_f he hb
            have he := ok_rq he
            refine And.intro he.1 ?_
            have he := he.2
            have he := ok_some he
            exact ⟨(i + (1:Int)), he, (leads_ren [] (l := [(0, .c (.imm (.int .i64) vars)), (3, .c (.int .i64 (i + (1:Int))))]) (st' := []) rfl rfl trivial ⟨.inl rfl, rfl, trivial⟩)⟩
        · have he := ok_f he hb
          have he := ok_rq he
          refine And.intro he.1 ?_
          have he := he.2
          have he := ok_some he
          exact ⟨(i + (1:Int)), he, (leads_ren [] (l := [(0, .c (.imm (.int .i64) vars)), (3, .c (.int .i64 (i + (1:Int))))]) (st' := []) rfl rfl trivial ⟨.inl rfl, rfl, trivial⟩)⟩
      · have he := ok_t he hb
        have he := ok_some he
        exact ⟨rfl, _, _, Leads.refl _ _, he⟩
    · have he := ok_t he hb
      have he := ok_some he
      exact ⟨rfl, _, _, Leads.refl _ _, he⟩
  · have he := ok_f he hb
    have he := ok_some he
    exact ⟨rfl, _, _, Leads.refl _ _, he⟩

noncomputable def c_spec_l12Cube : Con := fun args st => match args, st with
  | [.c (.imm (.int .i64) cube)], [] => .opt (Bool) (spec_l12Cube cube) (fun r => .ret (.c (.bool r)) [])
  | _, _ => .fail

noncomputable def C_spec_l12Cube : Cfg := { y := tys, n := 28, h := 0, tab := [(171, c_spec_l1Abs), (189, c_spec_l12Vars), (229, c_spec_l1Lit)], cut := [8], hand := [], good := [], deep := [], sched := [] }

theorem t_spec_l12Cube : TabOk Try.prog C_spec_l12Cube := by
  refine tabOk_of ?_
  simp only [C_spec_l12Cube, List.forall_mem_cons]
  exact ⟨k_spec_l1Abs, k_spec_l12Vars, k_spec_l1Lit, fun p h => by cases h⟩

theorem k_spec_l12Cube : Entry Try.prog 158 c_spec_l12Cube := by
  refine entry_by (C := C_spec_l12Cube) mixed tys_ok t_spec_l12Cube (fn := Try.f158) (c := bd Try.f158) (by kernel_rfl) (by kernel_rfl) (by kernel_rfl) (by kernel_rfl) ?_
  intro args st k he
  unfold c_spec_l12Cube at he
  split at he
  rotate_left
  · exact he.elim
  rename_i cube
  have he : Ok (spec_l12Cube cube) (fun r => k (.c (.bool r)) []) := he
  refine ⟨rfl, rfl, ?_⟩
  refine seq_model mixed tys_ok t_spec_l12Cube (S := (List Int)) (I := (fun vars1 => (envOf [(3, .c (.own 10001000 false))], [(10001000, .sl 3 (.int .i64) vars1 .shallow)]))) (B := fun s => Ok (spec_l12Cube_j1 s) (fun r => k (.c (.bool r)) [])) ?_ ?_
  · rintro vars1 he
    obtain ⟨r5_, hr, he⟩ := ok_bind he
    refine ⟨r5_, hr, ?_⟩
    have he := ok_some he
    exact ⟨rfl, _, _, (leads_ren [] (l := [(2, .c (.bool r5_))]) (st' := []) rfl rfl trivial ⟨.inl rfl, trivial⟩), he⟩
  · skip
    refine loop_model mixed tys_ok t_spec_l12Cube (S := Int × (List Int)) (I := (fun (i, vars) => (envOf [(0, .c (.imm (.int .i64) cube)), (3, .c (.own 10000000 false)), (4, .c (.int .i64 i))], [(10000000, .sl 3 (.int .i64) vars .shallow)]))) (f := spec_l12Cube_l1 cube) (K := (fun r => k (.c (.bool r)) [])) he (leads_ren [(10000000, 5)] (l := [(0, .c (.imm (.int .i64) cube)), (3, .c (.own 10000000 false)), (4, .c (.int .i64 (0:Int)))]) (st' := [(10000000, .sl 3 (.int .i64) ([] : List Int) .shallow)]) rfl rfl ⟨⟨rfl, rfl⟩, trivial⟩ ⟨.inl rfl, ⟨⟨rfl, rfl⟩, trivial⟩, rfl, trivial⟩) ?_
    rintro ⟨i, vars⟩ J1 he
    refine And.intro (fun hb => ?_) (fun hb => ?_)
    · have he := ok_t he hb
      have he := ok_rq he
      refine And.intro he.1 ?_
      have he := he.2
      obtain ⟨r3_, hr, he⟩ := ok_bind he
      refine ⟨r3_, hr, ?_⟩
      refine And.intro (fun hb => ?_) (fun hb => ?_)
      · have he := ok_t he hb
        have he := ok_some he
        exact ⟨rfl, _, _, (leads_ren [] (l := [(2, .c (.bool false))]) (st' := []) rfl rfl trivial ⟨.inr rfl, trivial⟩), he⟩
      · have he := ok_f he hb
        have he := ok_rq he
        refine And.intro he.1 ?_
        have he := he.2
        obtain ⟨r4_, hr, he⟩ := ok_bind he
        refine ⟨r4_, hr, ?_⟩
        have he := ok_rq he
        refine And.intro he.1 ?_
        have he := he.2
        have he := ok_rq he
        refine And.intro he.1 ?_
        have he := he.2
        have he := ok_some he
        exact ⟨((i + (1:Int)), (vars ++ [r4_])), he, (leads_ren [(10000000, 25)] (l := [(0, .c (.imm (.int .i64) cube)), (3, .c (.own 10000000 false)), (4, .c (.int .i64 (i + (1:Int))))]) (st' := [(10000000, .sl 3 (.int .i64) (vars ++ [r4_]) .shallow)]) rfl rfl ⟨⟨rfl, rfl⟩, trivial⟩ ⟨.inl rfl, ⟨⟨rfl, rfl⟩, trivial⟩, rfl, trivial⟩)⟩
    · have he := ok_f he hb
      exact ⟨vars, ok_up he, (leads_ren [(10001000, 10000000)] (l := [(3, .c (.own 10001000 false))]) (st' := [(10001000, .sl 3 (.int .i64) vars .shallow)]) rfl rfl ⟨⟨rfl, rfl⟩, trivial⟩ ⟨⟨⟨rfl, rfl⟩, trivial⟩, trivial⟩)⟩

noncomputable def c_spec_l12Under : Con := fun args st => match args, st with
  | [.c (.imm (.pair (.sl (.pair (.int .i64) (.int .i64))) (.int .i64)) list_), .c (.imm (.int .i64) cube)], [] => .opt ((List ((List (Int × Int)) × Int))) (spec_l12Under list_ cube) (fun r => .ret (.c (.own 900 false)) [(900, .sl 33 (.pair (.sl (.pair (.int .i64) (.int .i64))) (.int .i64)) r (.deep true .no))])
  | _, _ => .fail

noncomputable def C_spec_l12Under : Cfg := { y := tys, n := 40, h := 0, tab := [(242, c_spec_l1Copy)], cut := [6], hand := [], good := [], deep := [8, 21, 37], sched := [] }

theorem t_spec_l12Under : TabOk Try.prog C_spec_l12Under := by
  refine tabOk_of ?_
  simp only [C_spec_l12Under, List.forall_mem_cons]
  exact ⟨k_spec_l1Copy, fun p h => by cases h⟩

theorem k_spec_l12Under : Entry Try.prog 182 c_spec_l12Under := by
  refine entry_by (C := C_spec_l12Under) mixed tys_ok t_spec_l12Under (fn := Try.f182) (c := bd Try.f182) (by kernel_rfl) (by kernel_rfl) (by kernel_rfl) (by kernel_rfl) ?_
  intro args st k he
  unfold c_spec_l12Under at he
  split at he
  rotate_left
  · exact he.elim
  rename_i list_ cube
  have he : Ok (spec_l12Under list_ cube) (fun r => k (.c (.own 900 false)) [(900, .sl 33 (.pair (.sl (.pair (.int .i64) (.int .i64))) (.int .i64)) r (.deep true .no))]) := he
  refine ⟨rfl, rfl, ?_⟩
  refine seq_model mixed tys_ok t_spec_l12Under (S := (List ((List (Int × Int)) × Int))) (I := (fun out1 => (envOf [(1, .c (.imm (.int .i64) cube)), (5, .c (.own 10001000 false))], [(10001000, .sl 33 (.pair (.sl (.pair (.int .i64) (.int .i64))) (.int .i64)) out1 (.deep true .no))]))) (B := fun s => Ok (spec_l12Under_j1 cube s) (fun r => k (.c (.own 900 false)) [(900, .sl 33 (.pair (.sl (.pair (.int .i64) (.int .i64))) (.int .i64)) r (.deep true .no))])) ?_ ?_
  · rintro out1 he
    refine loop_model mixed tys_ok t_spec_l12Under (S := Int × (List ((List (Int × Int)) × Int))) (I := (fun (i1, out2) => (envOf [(1, .c (.imm (.int .i64) cube)), (5, .c (.own 10002000 false)), (7, .c (.int .i64 i1))], [(10002000, .sl 33 (.pair (.sl (.pair (.int .i64) (.int .i64))) (.int .i64)) out2 (.deep true .no))]))) (f := spec_l12Under_l1 cube) (K := (fun r => k (.c (.own 900 false)) [(900, .sl 33 (.pair (.sl (.pair (.int .i64) (.int .i64))) (.int .i64)) r (.deep true .no))])) he (leads_ren [(10002000, 10001000)] (l := [(1, .c (.imm (.int .i64) cube)), (5, .c (.own 10002000 false)), (7, .c (.int .i64 (0:Int)))]) (st' := [(10002000, .sl 33 (.pair (.sl (.pair (.int .i64) (.int .i64))) (.int .i64)) out1 (.deep true .no))]) rfl rfl ⟨⟨rfl, rfl⟩, trivial⟩ ⟨.inl rfl, ⟨⟨rfl, rfl⟩, trivial⟩, rfl, trivial⟩) ?_
    rintro ⟨i1, out2⟩ J1 he
    refine And.intro (fun hb => ?_) (fun hb => ?_)
    · have he := ok_t he hb
      have he := ok_rq he
      refine And.intro he.1 ?_
      have he := he.2
      have he := ok_rq he
      refine And.intro he.1 ?_
      have he := he.2
      have he := ok_rq he
      refine And.intro he.1 ?_
      have he := he.2
      have he := ok_some he
      exact ⟨((i1 + (1:Int)), (out2 ++ [([((1:Int), (cube.getD i1.toNat 0))], (1:Int))])), he, (leads_ren [(10002000, 38)] (l := [(1, .c (.imm (.int .i64) cube)), (5, .c (.own 10002000 false)), (7, .c (.int .i64 (i1 + (1:Int))))]) (st' := [(10002000, .sl 33 (.pair (.sl (.pair (.int .i64) (.int .i64))) (.int .i64)) (out2 ++ [([((1:Int), (cube.getD i1.toNat 0))], (1:Int))]) (.deep true .no))]) rfl rfl ⟨⟨rfl, rfl⟩, trivial⟩ ⟨.inl rfl, ⟨⟨rfl, rfl⟩, trivial⟩, rfl, trivial⟩)⟩
    · have he := ok_f he hb
      have he := ok_some he
      exact ⟨rfl, _, _, (leads_ren [(900, 10002000)] (l := [(4, .c (.own 900 false))]) (st' := [(900, .sl 33 (.pair (.sl (.pair (.int .i64) (.int .i64))) (.int .i64)) out2 (.deep true .no))]) rfl rfl ⟨⟨rfl, rfl⟩, trivial⟩ ⟨⟨⟨rfl, rfl⟩, trivial⟩, trivial⟩), he⟩
  · skip
    refine loop_model mixed tys_ok t_spec_l12Under (S := Int × (List ((List (Int × Int)) × Int))) (I := (fun (i, out) => (envOf [(0, .c (.imm (.pair (.sl (.pair (.int .i64) (.int .i64))) (.int .i64)) list_)), (1, .c (.imm (.int .i64) cube)), (5, .c (.own 10000000 false)), (6, .c (.int .i64 i))], [(10000000, .sl 33 (.pair (.sl (.pair (.int .i64) (.int .i64))) (.int .i64)) out (.deep true .no))]))) (f := spec_l12Under_l2 list_ cube) (K := (fun r => k (.c (.own 900 false)) [(900, .sl 33 (.pair (.sl (.pair (.int .i64) (.int .i64))) (.int .i64)) r (.deep true .no))])) he (leads_ren [(10000000, 8)] (l := [(0, .c (.imm (.pair (.sl (.pair (.int .i64) (.int .i64))) (.int .i64)) list_)), (1, .c (.imm (.int .i64) cube)), (5, .c (.own 10000000 false)), (6, .c (.int .i64 (0:Int)))]) (st' := [(10000000, .sl 33 (.pair (.sl (.pair (.int .i64) (.int .i64))) (.int .i64)) ([] : List ((List (Int × Int)) × Int)) (.deep true .no))]) rfl rfl ⟨⟨rfl, rfl⟩, trivial⟩ ⟨.inl rfl, .inl rfl, ⟨⟨rfl, rfl⟩, trivial⟩, rfl, trivial⟩) ?_
    rintro ⟨i, out⟩ J1 he
    refine And.intro (fun hb => ?_) (fun hb => ?_)
    · have he := ok_t he hb
      have he := ok_rq he
      refine And.intro he.1 ?_
      have he := he.2
      obtain ⟨r2_, hr, he⟩ := ok_bind he
      refine ⟨r2_, hr, ?_⟩
      have he := ok_rq he
      refine And.intro he.1 ?_
      have he := he.2
      have he := ok_rq he
      refine And.intro he.1 ?_
      have he := he.2
      have he := ok_some he
      exact ⟨((i + (1:Int)), (out ++ [(r2_.2, r2_.1)])), he, (leads_ren [(10000000, 22)] (l := [(0, .c (.imm (.pair (.sl (.pair (.int .i64) (.int .i64))) (.int .i64)) list_)), (1, .c (.imm (.int .i64) cube)), (5, .c (.own 10000000 false)), (6, .c (.int .i64 (i + (1:Int))))]) (st' := [(10000000, .sl 33 (.pair (.sl (.pair (.int .i64) (.int .i64))) (.int .i64)) (out ++ [(r2_.2, r2_.1)]) (.deep true .no))]) rfl rfl ⟨⟨rfl, rfl⟩, trivial⟩ ⟨.inl rfl, .inl rfl, ⟨⟨rfl, rfl⟩, trivial⟩, rfl, trivial⟩)⟩
    · have he := ok_f he hb
      exact ⟨out, ok_up he, (leads_ren [(10001000, 10000000)] (l := [(1, .c (.imm (.int .i64) cube)), (5, .c (.own 10001000 false))]) (st' := [(10001000, .sl 33 (.pair (.sl (.pair (.int .i64) (.int .i64))) (.int .i64)) out (.deep true .no))]) rfl rfl ⟨⟨rfl, rfl⟩, trivial⟩ ⟨.inl rfl, ⟨⟨rfl, rfl⟩, trivial⟩, trivial⟩)⟩

noncomputable def c_spec_CubeProblem : Con := fun args st => match args, st with
  | [.c (.imm (.pair (.sl (.pair (.int .i64) (.int .i64))) (.int .i64)) list_), .c (.imm (.int .i64) cube)], [] => .opt (Bool × (List ((List (Int × Int)) × Int))) (spec_CubeProblem list_ cube) (fun r => .ret (.tup [.c (.own 900 false), .c (.bool r.1)]) [(900, .sl 33 (.pair (.sl (.pair (.int .i64) (.int .i64))) (.int .i64)) r.2 (.deep true .no))])
  | _, _ => .fail

noncomputable def C_spec_CubeProblem : Cfg := { y := tys, n := 26, h := 0, tab := [(158, c_spec_l12Cube), (181, c_spec_ProblemValid), (182, c_spec_l12Under)], cut := [], hand := [], good := [], deep := [22], sched := [] }

theorem t_spec_CubeProblem : TabOk Try.prog C_spec_CubeProblem := by
  refine tabOk_of ?_
  simp only [C_spec_CubeProblem, List.forall_mem_cons]
  exact ⟨k_spec_l12Cube, k_spec_ProblemValid, k_spec_l12Under, fun p h => by cases h⟩

theorem k_spec_CubeProblem : Entry Try.prog 73 c_spec_CubeProblem := by
  refine entry_by (C := C_spec_CubeProblem) mixed tys_ok t_spec_CubeProblem (fn := Try.f73) (c := bd Try.f73) (by kernel_rfl) (by kernel_rfl) (by kernel_rfl) (by kernel_rfl) ?_
  intro args st k he
  unfold c_spec_CubeProblem at he
  split at he
  rotate_left
  · exact he.elim
  rename_i list_ cube
  have he : Ok (spec_CubeProblem list_ cube) (fun r => k (.tup [.c (.own 900 false), .c (.bool r.1)]) [(900, .sl 33 (.pair (.sl (.pair (.int .i64) (.int .i64))) (.int .i64)) r.2 (.deep true .no))]) := he
  refine ⟨rfl, rfl, ?_⟩
  obtain ⟨r1_, hr, he⟩ := ok_bind he
  refine ⟨r1_, hr, ?_⟩
  refine And.intro (fun hb => ?_) (fun hb => ?_)
  · have he := ok_f he hb
    obtain ⟨r2_, hr, he⟩ := ok_bind he
    refine ⟨r2_, hr, ?_⟩
    refine And.intro (fun hb => ?_) (fun hb => ?_)
    · have he := ok_f he hb
      have he := ok_rq he
      refine And.intro he.1 ?_
      have he := he.2
      refine And.intro (fun hb => ?_) (fun hb => ?_)
      · have he := ok_t he hb
        have he := ok_some he
        exact ⟨rfl, _, _, (leads_ren [(900, 22)] (l := [(4, .c (.own 900 false)), (5, .c (.bool false))]) (st' := [(900, .sl 33 (.pair (.sl (.pair (.int .i64) (.int .i64))) (.int .i64)) ([] : List ((List (Int × Int)) × Int)) (.deep true .no))]) rfl rfl ⟨⟨rfl, rfl⟩, trivial⟩ ⟨⟨⟨rfl, rfl⟩, trivial⟩, .inr rfl, trivial⟩), he⟩
      · have he := ok_f he hb
        obtain ⟨r3_, hr, he⟩ := ok_bind he
        refine ⟨r3_, hr, ?_⟩
        have he := ok_some he
        exact ⟨rfl, _, _, (leads_ren [(900, 26900)] (l := [(4, .c (.own 900 false)), (5, .c (.bool true))]) (st' := [(900, .sl 33 (.pair (.sl (.pair (.int .i64) (.int .i64))) (.int .i64)) r3_ (.deep true .no))]) rfl rfl ⟨⟨rfl, rfl⟩, trivial⟩ ⟨⟨⟨rfl, rfl⟩, trivial⟩, .inr rfl, trivial⟩), he⟩
    · have he := ok_t he hb
      have he := ok_some he
      exact ⟨rfl, _, _, (leads_ren [(900, 22)] (l := [(4, .c (.own 900 false)), (5, .c (.bool false))]) (st' := [(900, .sl 33 (.pair (.sl (.pair (.int .i64) (.int .i64))) (.int .i64)) ([] : List ((List (Int × Int)) × Int)) (.deep true .no))]) rfl rfl ⟨⟨rfl, rfl⟩, trivial⟩ ⟨⟨⟨rfl, rfl⟩, trivial⟩, .inr rfl, trivial⟩), he⟩
  · have he := ok_t he hb
    have he := ok_some he
    exact ⟨rfl, _, _, (leads_ren [(900, 22)] (l := [(4, .c (.own 900 false)), (5, .c (.bool false))]) (st' := [(900, .sl 33 (.pair (.sl (.pair (.int .i64) (.int .i64))) (.int .i64)) ([] : List ((List (Int × Int)) × Int)) (.deep true .no))]) rfl rfl ⟨⟨rfl, rfl⟩, trivial⟩ ⟨⟨⟨rfl, rfl⟩, trivial⟩, .inr rfl, trivial⟩), he⟩

noncomputable def c_slices_Equal_impl_Term : Con := fun args st => match args, st with
  | [.c (.imm (.pair (.int .i64) (.int .i64)) s1_), .c (.imm (.pair (.int .i64) (.int .i64)) s2_)], [] => .opt (Bool) (slices_Equal_impl_Term s1_ s2_) (fun r => .ret (.c (.bool r)) [])
  | _, _ => .fail

noncomputable def C_slices_Equal_impl_Term : Cfg := { y := tys, n := 26, h := 0, tab := [], cut := [], hand := [], good := [], deep := [], sched := [] }

theorem t_slices_Equal_impl_Term : TabOk Try.prog C_slices_Equal_impl_Term := tabOk_of (fun p h => by cases h)

theorem k_slices_Equal_impl_Term : Entry Try.prog 107 c_slices_Equal_impl_Term := by
  refine entry_by (C := C_slices_Equal_impl_Term) mixed tys_ok t_slices_Equal_impl_Term (fn := Try.f107) (c := bd Try.f107) (by kernel_rfl) (by kernel_rfl) (by kernel_rfl) (by kernel_rfl) ?_
  intro args st k he
  unfold c_slices_Equal_impl_Term at he
  split at he
  rotate_left
  · exact he.elim
  rename_i s1_ s2_
  have he : Ok (slices_Equal_impl_Term s1_ s2_) (fun r => k (.c (.bool r)) []) := he
  refine ⟨rfl, rfl, ?_⟩
  refine And.intro (fun hb => ?_) (fun hb => ?_)
  · have he := ok_t he hb
    have he := ok_some he
    exact ⟨rfl, _, _, Leads.refl _ _, he⟩
  · have he := ok_f he hb
    refine loop_model mixed tys_ok t_slices_Equal_impl_Term (S := Int) (I := (fun i => (envOf [(0, .c (.imm (.pair (.int .i64) (.int .i64)) s1_)), (1, .c (.imm (.pair (.int .i64) (.int .i64)) s2_)), (12, .c (.int .i64 (s1_.length:Int))), (13, .c (.int .i64 i))], []))) (f := slices_Equal_impl_Term_l1 s1_ s2_) (K := (fun r => k (.c (.bool r)) [])) he (leads_ren [] (l := [(0, .c (.imm (.pair (.int .i64) (.int .i64)) s1_)), (1, .c (.imm (.pair (.int .i64) (.int .i64)) s2_)), (12, .c (.int .i64 (s1_.length:Int))), (13, .c (.int .i64 (0:Int)))]) (st' := []) rfl rfl trivial ⟨.inl rfl, .inl rfl, rfl, rfl, trivial⟩) ?_
    rintro i J1 he
    refine And.intro (fun hb => ?_) (fun hb => ?_)
    · have he := ok_t he hb
      refine And.intro (by kernel_rfl) ?_
      have he := ok_rq he
      refine And.intro he.1 ?_
      have he := he.2
      have he := ok_rq he
      refine And.intro he.1 ?_
      have he := he.2
      refine And.intro (fun hb => ?_) (fun hb => ?_)
      · have he := ok_t he hb
        have he := ok_some he
        exact ⟨rfl, _, _, Leads.refl _ _, he⟩
      · have he := ok_f he hb
        have he := ok_rq he
        refine And.intro he.1 ?_
        have he := he.2
        have he := ok_some he
        exact ⟨(i + (1:Int)), he, (leads_ren [] (l := [(0, .c (.imm (.pair (.int .i64) (.int .i64)) s1_)), (1, .c (.imm (.pair (.int .i64) (.int .i64)) s2_)), (12, .c (.int .i64 (s1_.length:Int))), (13, .c (.int .i64 (i + (1:Int))))]) (st' := []) rfl rfl trivial ⟨.inl rfl, .inl rfl, rfl, rfl, trivial⟩)⟩
    · have he := ok_f he hb
      have he := ok_some he
      exact ⟨rfl, _, _, Leads.refl _ _, he⟩

noncomputable def c_impl_ConstraintSame : Con := fun args st => match args, st with
  | [.agg [.imm (.pair (.int .i64) (.int .i64)) a_0, .int .i64 a_1], .agg [.imm (.pair (.int .i64) (.int .i64)) b_0, .int .i64 b_1]], [] => .opt (Bool) (impl_ConstraintSame (a_0, a_1) (b_0, b_1)) (fun r => .ret (.c (.bool r)) [])
  | _, _ => .fail

noncomputable def C_impl_ConstraintSame : Cfg := { y := tys, n := 17, h := 0, tab := [(107, c_slices_Equal_impl_Term)], cut := [], hand := [], good := [], deep := [], sched := [] }

theorem t_impl_ConstraintSame : TabOk Try.prog C_impl_ConstraintSame := by
  refine tabOk_of ?_
  simp only [C_impl_ConstraintSame, List.forall_mem_cons]
  exact ⟨k_slices_Equal_impl_Term, fun p h => by cases h⟩

theorem k_impl_ConstraintSame : Entry Try.prog 19 c_impl_ConstraintSame := by
  refine entry_by (C := C_impl_ConstraintSame) mixed tys_ok t_impl_ConstraintSame (fn := Try.f19) (c := bd Try.f19) (by kernel_rfl) (by kernel_rfl) (by kernel_rfl) (by kernel_rfl) ?_
  intro args st k he
  unfold c_impl_ConstraintSame at he
  split at he
  rotate_left
  · exact he.elim
  rename_i a_0 a_1 b_0 b_1
  have he : Ok (impl_ConstraintSame (a_0, a_1) (b_0, b_1)) (fun r => k (.c (.bool r)) []) := he
  refine ⟨rfl, rfl, ?_⟩
  refine And.intro (fun hb => ?_) (fun hb => ?_)
  · have he := ok_t he hb
    obtain ⟨r1_, hr, he⟩ := ok_bind he
    refine ⟨r1_, hr, ?_⟩
    have he := ok_some he
    exact ⟨rfl, _, _, (leads_ren [] (l := [(4, .c (.bool r1_))]) (st' := []) rfl rfl trivial ⟨.inl rfl, trivial⟩), he⟩
  · have he := ok_f he hb
    have he := ok_some he
    exact ⟨rfl, _, _, (leads_ren [] (l := [(4, .c (.bool false))]) (st' := []) rfl rfl trivial ⟨.inr rfl, trivial⟩), he⟩

noncomputable def c_laws_cpProblem : Con := fun args st => match args, st with
  | [.c (.imm (.pair (.sl (.pair (.int .i64) (.int .i64))) (.int .i64)) a), .c (.imm (.pair (.sl (.pair (.int .i64) (.int .i64))) (.int .i64)) b)], [] => .opt (Bool) (laws_cpProblem a b) (fun r => .ret (.c (.bool r)) [])
  | _, _ => .fail

noncomputable def C_laws_cpProblem : Cfg := { y := tys, n := 27, h := 0, tab := [(19, c_impl_ConstraintSame)], cut := [], hand := [], good := [], deep := [], sched := [(6, (.first 0 (.first 1 (.first 2 (.first 3 (.first 4 (.first 5 (.first 6 (.first 7 (.alt 8 (.first 9 .done) .stop))))))))))] }

theorem t_laws_cpProblem : TabOk Try.prog C_laws_cpProblem := by
  refine tabOk_of ?_
  simp only [C_laws_cpProblem, List.forall_mem_cons]
  exact ⟨k_impl_ConstraintSame, fun p h => by cases h⟩

theorem k_laws_cpProblem : Entry Try.prog 74 c_laws_cpProblem := by
  refine entry_by (C := C_laws_cpProblem) mixed tys_ok t_laws_cpProblem (fn := Try.f74) (c := bd Try.f74) (by kernel_rfl) (by kernel_rfl) (by kernel_rfl) (by kernel_rfl) ?_
  intro args st k he
  unfold c_laws_cpProblem at he
  split at he
  rotate_left
  · exact he.elim
  rename_i a b
  have he : Ok (laws_cpProblem a b) (fun r => k (.c (.bool r)) []) := he
  refine ⟨rfl, rfl, ?_⟩
  refine And.intro (fun hb => ?_) (fun hb => ?_)
  · have he := ok_t he hb
    have he := ok_some he
    exact ⟨rfl, _, _, Leads.refl _ _, he⟩
  · have he := ok_f he hb
    refine loop_model mixed tys_ok t_laws_cpProblem (S := Int) (I := (fun i => (envOf [(0, .c (.imm (.pair (.sl (.pair (.int .i64) (.int .i64))) (.int .i64)) a)), (1, .c (.imm (.pair (.sl (.pair (.int .i64) (.int .i64))) (.int .i64)) b)), (5, .c (.int .i64 i))], []))) (f := laws_cpProblem_l1 a b) (K := (fun r => k (.c (.bool r)) [])) he (leads_ren [] (l := [(0, .c (.imm (.pair (.sl (.pair (.int .i64) (.int .i64))) (.int .i64)) a)), (1, .c (.imm (.pair (.sl (.pair (.int .i64) (.int .i64))) (.int .i64)) b)), (5, .c (.int .i64 (0:Int)))]) (st' := []) rfl rfl trivial ⟨.inl rfl, .inl rfl, rfl, trivial⟩) ?_
    rintro i J1 he
    refine And.intro (fun hb => ?_) (fun hb => ?_)
    · have he := ok_t he hb
      refine And.intro (by kernel_rfl) ?_
      have he := ok_rq he
      refine And.intro he.1 ?_
      have he := he.2
      have he := ok_rq he
      refine And.intro he.1 ?_
      have he := he.2
      refine And.intro ?_ trivial
      obtain ⟨r2_, hr, he⟩ := ok_bind he
      refine ⟨r2_, hr, ?_⟩
      refine And.intro (fun hb => ?_) (fun hb => ?_)
      · have he := ok_t he hb
        have he := ok_some he
        exact ⟨rfl, _, _, Leads.refl _ _, he⟩
      · have he := ok_f he hb
        have he := ok_rq he
        refine And.intro he.1 ?_
        have he := he.2
        have he := ok_some he
        exact ⟨(i + (1:Int)), he, (leads_ren [] (l := [(0, .c (.imm (.pair (.sl (.pair (.int .i64) (.int .i64))) (.int .i64)) a)), (1, .c (.imm (.pair (.sl (.pair (.int .i64) (.int .i64))) (.int .i64)) b)), (5, .c (.int .i64 (i + (1:Int))))]) (st' := []) rfl rfl trivial ⟨.inl rfl, .inl rfl, rfl, trivial⟩)⟩
    · have he := ok_f he hb
      have he := ok_some he
      exact ⟨rfl, _, _, Leads.refl _ _, he⟩

noncomputable def c_impl_isFuel : Con := fun args st => match args, st with
  | [.c (.int .i64 fuel)], [] => .opt (Bool) (impl_isFuel fuel) (fun r => .ret (.c (.bool r)) [])
  | _, _ => .fail

noncomputable def C_impl_isFuel : Cfg := { y := tys, n := 5, h := 0, tab := [(101, c_impl_within)], cut := [], hand := [], good := [], deep := [], sched := [] }

theorem t_impl_isFuel : TabOk Try.prog C_impl_isFuel := by
  refine tabOk_of ?_
  simp only [C_impl_isFuel, List.forall_mem_cons]
  exact ⟨k_impl_within, fun p h => by cases h⟩

theorem k_impl_isFuel : Entry Try.prog 183 c_impl_isFuel := by
  refine entry_by (C := C_impl_isFuel) mixed tys_ok t_impl_isFuel (fn := Try.f183) (c := bd Try.f183) (by kernel_rfl) (by kernel_rfl) (by kernel_rfl) (by kernel_rfl) ?_
  intro args st k he
  unfold c_impl_isFuel at he
  split at he
  rotate_left
  · exact he.elim
  rename_i fuel
  have he : Ok (impl_isFuel fuel) (fun r => k (.c (.bool r)) []) := he
  refine ⟨rfl, rfl, ?_⟩
  obtain ⟨r1_, hr, he⟩ := ok_bind he
  refine ⟨r1_, hr, ?_⟩
  have he := ok_some he
  exact ⟨rfl, _, _, Leads.refl _ _, he⟩

noncomputable def c_slices_Clone_impl_Constraint : Con := fun args st => match args, st with
  | [.c (.imm (.pair (.sl (.pair (.int .i64) (.int .i64))) (.int .i64)) s_)], [] => .opt ((List ((List (Int × Int)) × Int))) (slices_Clone_impl_Constraint s_) (fun r => .ret (.c (.own 900 false)) [(900, .sl 33 (.pair (.sl (.pair (.int .i64) (.int .i64))) (.int .i64)) r .shallow)])
  | _, _ => .fail

noncomputable def C_slices_Clone_impl_Constraint : Cfg := { y := tys, n := 8, h := 0, tab := [], cut := [], hand := [], good := [], deep := [], sched := [] }

theorem t_slices_Clone_impl_Constraint : TabOk Try.prog C_slices_Clone_impl_Constraint := tabOk_of (fun p h => by cases h)

theorem k_slices_Clone_impl_Constraint : Entry Try.prog 184 c_slices_Clone_impl_Constraint := by
  refine entry_by (C := C_slices_Clone_impl_Constraint) mixed tys_ok t_slices_Clone_impl_Constraint (fn := Try.f184) (c := bd Try.f184) (by kernel_rfl) (by kernel_rfl) (by kernel_rfl) (by kernel_rfl) ?_
  intro args st k he
  unfold c_slices_Clone_impl_Constraint at he
  split at he
  rotate_left
  · exact he.elim
  rename_i s_
  have he : Ok (slices_Clone_impl_Constraint s_) (fun r => k (.c (.own 900 false)) [(900, .sl 33 (.pair (.sl (.pair (.int .i64) (.int .i64))) (.int .i64)) r .shallow)]) := he
  refine ⟨rfl, rfl, ?_⟩
  refine fun b1_ hb1_ => ?_
  have he := ok_nt he hb1_
  refine And.intro (fun hb => ?_) (fun hb => ?_)
  · have he := ok_t he hb
    have he := ok_some he
    exact ⟨rfl, _, _, (leads_ren [] (l := [(2, .c (.own 900 false))]) (st' := [(900, .sl 33 (.pair (.sl (.pair (.int .i64) (.int .i64))) (.int .i64)) ([] : List ((List (Int × Int)) × Int)) .shallow)]) rfl rfl ⟨trivial, trivial⟩ ⟨⟨rfl, trivial⟩, trivial⟩), he⟩
  · have he := ok_f he hb
    have he := ok_rq he
    refine And.intro he.1 ?_
    have he := he.2
    have he := ok_some he
    exact ⟨rfl, _, _, (leads_ren [(900, 7)] (l := [(2, .c (.own 900 false))]) (st' := [(900, .sl 33 (.pair (.sl (.pair (.int .i64) (.int .i64))) (.int .i64)) (([] : List ((List (Int × Int)) × Int)) ++ s_) .shallow)]) rfl rfl ⟨⟨rfl, rfl⟩, trivial⟩ ⟨⟨⟨rfl, rfl⟩, trivial⟩, trivial⟩), he⟩

end Go.AE.Y
