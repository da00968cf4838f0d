/-
  Walks: each function keeps the contract that its model gives. No conditions.
-/
import Derived.Test.YtpeelmjecjbfjaaR4Tab
import Derived.Test.YtpeelmjecjbfjaaR4W3
import Derived.Test.YtpeelmjecjbfjaaR4S
namespace Go.AE.Y
open Go Go.AE Go.Proofs
set_option linter.unusedVariables false
set_option maxHeartbeats 2000000
set_option maxRecDepth 100000

noncomputable def c_impl_CubeHolds : Con := fun args st => match args, st with
  | [.c (.imm (.int .i64) cube), .c (.imm .bool values)], [] => .opt (Bool) (impl_CubeHolds cube values) (fun r => .ret (.c (.bool r)) [])
  | _, _ => .fail

noncomputable def C_impl_CubeHolds : Cfg := { y := tys, n := 18, h := 0, tab := [(161, c_impl_isCube), (174, c_slices_ContainsFunc_int__impl_CubeHolds_1)], cut := [], hand := [], good := [], deep := [], sched := [] }

theorem t_impl_CubeHolds : TabOk Try.prog C_impl_CubeHolds := by
  refine tabOk_of ?_
  simp only [C_impl_CubeHolds, List.forall_mem_cons]
  exact ⟨k_impl_isCube, k_slices_ContainsFunc_int__impl_CubeHolds_1, fun p h => by cases h⟩

theorem k_impl_CubeHolds : Entry Try.prog 70 c_impl_CubeHolds := by
  refine entry_by (C := C_impl_CubeHolds) mixed tys_ok t_impl_CubeHolds (fn := Try.f70) (c := bd Try.f70) (by kernel_rfl) (by kernel_rfl) (by kernel_rfl) (by kernel_rfl) ?_
  intro args st k he
  unfold c_impl_CubeHolds at he
  split at he
  rotate_left
  · exact he.elim
  rename_i cube values
  have he : Ok (impl_CubeHolds cube values) (fun r => k (.c (.bool r)) []) := he
  refine ⟨rfl, rfl, ?_⟩
  obtain ⟨r1_, hr, he⟩ := ok_bind he
  refine ⟨r1_, hr, ?_⟩
  refine And.intro (fun hb => ?_) (fun hb => ?_)
  · have he := ok_t he hb
    refine And.intro (fun hb => ?_) (fun hb => ?_)
    · have he := ok_t he hb
      obtain ⟨r2_, hr, he⟩ := ok_bind he
      refine ⟨r2_, hr, ?_⟩
      have he := ok_some he
      exact ⟨rfl, _, _, (leads_ren [] (l := [(4, .c (.bool (!r2_)))]) (st' := []) rfl rfl trivial ⟨.inl rfl, trivial⟩), he⟩
    · have he := ok_f he hb
      have he := ok_some he
      exact ⟨rfl, _, _, (leads_ren [] (l := [(4, .c (.bool false))]) (st' := []) rfl rfl trivial ⟨.inr rfl, trivial⟩), he⟩
  · have he := ok_f he hb
    have he := ok_some he
    exact ⟨rfl, _, _, (leads_ren [] (l := [(4, .c (.bool false))]) (st' := []) rfl rfl trivial ⟨.inr rfl, trivial⟩), he⟩

noncomputable def c_impl_Constraint_holds : Con := fun args st => match args, st with
  | [.agg [.imm (.pair (.int .i64) (.int .i64)) c__0, .int .i64 c__1], .c (.imm .bool values)], [] => .opt (Bool) (impl_Constraint_holds (c__0, c__1) values) (fun r => .ret (.c (.bool r)) [])
  | _, _ => .fail

noncomputable def C_impl_Constraint_holds : Cfg := { y := tys, n := 28, h := 0, tab := [(176, c_impl_holds)], cut := [], hand := [], good := [], deep := [], sched := [] }

theorem t_impl_Constraint_holds : TabOk Try.prog C_impl_Constraint_holds := by
  refine tabOk_of ?_
  simp only [C_impl_Constraint_holds, List.forall_mem_cons]
  exact ⟨k_impl_holds, fun p h => by cases h⟩

theorem k_impl_Constraint_holds : Entry Try.prog 112 c_impl_Constraint_holds := by
  refine entry_by (C := C_impl_Constraint_holds) mixed tys_ok t_impl_Constraint_holds (fn := Try.f112) (c := bd Try.f112) (by kernel_rfl) (by kernel_rfl) (by kernel_rfl) (by kernel_rfl) ?_
  intro args st k he
  unfold c_impl_Constraint_holds at he
  split at he
  rotate_left
  · exact he.elim
  rename_i c__0 c__1 values
  have he : Ok (impl_Constraint_holds (c__0, c__1) values) (fun r => k (.c (.bool r)) []) := he
  refine ⟨rfl, rfl, ?_⟩
  refine loop_model mixed tys_ok t_impl_Constraint_holds (S := Int × Int) (I := (fun (sum, i) => (envOf [(1, .c (.imm .bool values)), (2, .c (.ptr 10000000 0)), (5, .c (.int .i64 sum)), (9, .c (.imm (.pair (.int .i64) (.int .i64)) (c__0, c__1).1)), (10, .c (.int .i64 ((c__0, c__1).1.length:Int))), (11, .c (.int .i64 i))], [(10000000, .rc [.imm (.pair (.int .i64) (.int .i64)) (c__0, c__1).1, .int .i64 (c__0, c__1).2])]))) (f := impl_Constraint_holds_l1 (c__0, c__1) values) (K := (fun r => k (.c (.bool r)) [])) he (leads_ren [(10000000, 2)] (l := [(1, .c (.imm .bool values)), (2, .c (.ptr 10000000 0)), (5, .c (.int .i64 (0:Int))), (9, .c (.imm (.pair (.int .i64) (.int .i64)) (c__0, c__1).1)), (10, .c (.int .i64 ((c__0, c__1).1.length:Int))), (11, .c (.int .i64 (0:Int)))]) (st' := [(10000000, .rc [.imm (.pair (.int .i64) (.int .i64)) (c__0, c__1).1, .int .i64 (c__0, c__1).2])]) rfl rfl ⟨⟨.inl rfl, rfl, trivial⟩, trivial⟩ ⟨.inl rfl, ⟨⟨rfl, rfl⟩, rfl⟩, rfl, .inl rfl, rfl, rfl, trivial⟩) ?_
  rintro ⟨sum, i⟩ J1 he
  refine And.intro (fun hb => ?_) (fun hb => ?_)
  · have he := ok_t he hb
    have he := ok_rq he
    refine And.intro he.1 ?_
    have he := he.2
    obtain ⟨r1_, hr, he⟩ := ok_bind he
    refine ⟨r1_, hr, ?_⟩
    refine And.intro (fun hb => ?_) (fun hb => ?_)
    · have he := ok_t he hb
      have he := ok_rq he
      refine And.intro he.1 ?_
      have he := he.2
      have he := ok_rq he
      refine And.intro he.1 ?_
      have he := he.2
      have he := ok_some he
      exact ⟨((sum + ((c__0, c__1).1.getD i.toNat (0, 0)).1), (i + (1:Int))), he, (leads_ren [] (l := [(1, .c (.imm .bool values)), (2, .c (.ptr 10000000 0)), (5, .c (.int .i64 (sum + ((c__0, c__1).1.getD i.toNat (0, 0)).1))), (9, .c (.imm (.pair (.int .i64) (.int .i64)) (c__0, c__1).1)), (10, .c (.int .i64 ((c__0, c__1).1.length:Int))), (11, .c (.int .i64 (i + (1:Int))))]) (st' := [(10000000, .rc [.imm (.pair (.int .i64) (.int .i64)) (c__0, c__1).1, .int .i64 (c__0, c__1).2])]) rfl rfl ⟨⟨.inl rfl, rfl, trivial⟩, trivial⟩ ⟨.inl rfl, ⟨⟨rfl, rfl⟩, rfl⟩, rfl, .inl rfl, rfl, rfl, trivial⟩)⟩
    · have he := ok_f he hb
      have he := ok_rq he
      refine And.intro he.1 ?_
      have he := he.2
      have he := ok_some he
      exact ⟨(sum, (i + (1:Int))), he, (leads_ren [] (l := [(1, .c (.imm .bool values)), (2, .c (.ptr 10000000 0)), (5, .c (.int .i64 sum)), (9, .c (.imm (.pair (.int .i64) (.int .i64)) (c__0, c__1).1)), (10, .c (.int .i64 ((c__0, c__1).1.length:Int))), (11, .c (.int .i64 (i + (1:Int))))]) (st' := [(10000000, .rc [.imm (.pair (.int .i64) (.int .i64)) (c__0, c__1).1, .int .i64 (c__0, c__1).2])]) rfl rfl ⟨⟨.inl rfl, rfl, trivial⟩, trivial⟩ ⟨.inl rfl, ⟨⟨rfl, rfl⟩, rfl⟩, rfl, .inl rfl, rfl, rfl, trivial⟩)⟩
  · have he := ok_f he hb
    have he := ok_some he
    exact ⟨rfl, _, _, (leads_ren [] (l := [(4, .c (.bool (decide ((c__0, c__1).2 ≤ sum))))]) (st' := []) rfl rfl trivial ⟨.inl rfl, trivial⟩), he⟩

noncomputable def c_impl_satisfies_1 : Con := fun args st => match args, st with
  | [.agg [.imm (.pair (.int .i64) (.int .i64)) c__0, .int .i64 c__1], .c (.ptr 0 0)], [(0, .rc [.imm .bool o0])] => .opt (Bool) (impl_satisfies_1 (c__0, c__1) o0) (fun r => .ret (.c (.bool r)) [(0, .rc [.imm .bool o0])])
  | _, _ => .fail

noncomputable def C_impl_satisfies_1 : Cfg := { y := tys, n := 8, h := 1, tab := [(112, c_impl_Constraint_holds)], cut := [], hand := [], good := [], deep := [], sched := [] }

theorem t_impl_satisfies_1 : TabOk Try.prog C_impl_satisfies_1 := by
  refine tabOk_of ?_
  simp only [C_impl_satisfies_1, List.forall_mem_cons]
  exact ⟨k_impl_Constraint_holds, fun p h => by cases h⟩

theorem k_impl_satisfies_1 : Entry Try.prog 247 c_impl_satisfies_1 := by
  refine entry_by (C := C_impl_satisfies_1) mixed tys_ok t_impl_satisfies_1 (fn := Try.f247) (c := bd Try.f247) (by kernel_rfl) (by kernel_rfl) (by kernel_rfl) (by kernel_rfl) ?_
  intro args st k he
  unfold c_impl_satisfies_1 at he
  split at he
  rotate_left
  · exact he.elim
  rename_i c__0 c__1 o0
  have he : Ok (impl_satisfies_1 (c__0, c__1) o0) (fun r => k (.c (.bool r)) [(0, .rc [.imm .bool o0])]) := he
  refine ⟨rfl, rfl, ?_⟩
  obtain ⟨r1_, hr, he⟩ := ok_bind he
  refine ⟨r1_, hr, ?_⟩
  have he := ok_some he
  exact ⟨rfl, _, _, (leads_ren [] (l := [(3, .c (.bool (!r1_)))]) (st' := [(0, .rc [.imm .bool o0])]) rfl rfl ⟨⟨.inl rfl, trivial⟩, trivial⟩ ⟨.inl rfl, trivial⟩), he⟩

noncomputable def c_slices_IndexFunc_impl_Constraint__impl_satisfies_1 : Con := fun args st => match args, st with
  | [.c (.imm (.pair (.sl (.pair (.int .i64) (.int .i64))) (.int .i64)) s_), .c (.fn 247 [0])], [(0, .rc [.imm .bool o0])] => .opt (Int) (slices_IndexFunc_impl_Constraint__impl_satisfies_1 s_ o0) (fun r => .ret (.c (.int .i64 r)) [(0, .rc [.imm .bool o0])])
  | _, _ => .fail

noncomputable def C_slices_IndexFunc_impl_Constraint__impl_satisfies_1 : Cfg := { y := tys, n := 19, h := 1, tab := [(247, c_impl_satisfies_1)], cut := [], hand := [], good := [], deep := [], sched := [] }

theorem t_slices_IndexFunc_impl_Constraint__impl_satisfies_1 : TabOk Try.prog C_slices_IndexFunc_impl_Constraint__impl_satisfies_1 := by
  refine tabOk_of ?_
  simp only [C_slices_IndexFunc_impl_Constraint__impl_satisfies_1, List.forall_mem_cons]
  exact ⟨k_impl_satisfies_1, fun p h => by cases h⟩

theorem k_slices_IndexFunc_impl_Constraint__impl_satisfies_1 : Entry Try.prog 275 c_slices_IndexFunc_impl_Constraint__impl_satisfies_1 := by
  refine entry_by (C := C_slices_IndexFunc_impl_Constraint__impl_satisfies_1) mixed tys_ok t_slices_IndexFunc_impl_Constraint__impl_satisfies_1 (fn := Try.f275) (c := bd Try.f275) (by kernel_rfl) (by kernel_rfl) (by kernel_rfl) (by kernel_rfl) ?_
  intro args st k he
  unfold c_slices_IndexFunc_impl_Constraint__impl_satisfies_1 at he
  split at he
  rotate_left
  · exact he.elim
  rename_i s_ o0
  have he : Ok (slices_IndexFunc_impl_Constraint__impl_satisfies_1 s_ o0) (fun r => k (.c (.int .i64 r)) [(0, .rc [.imm .bool o0])]) := he
  refine ⟨rfl, rfl, ?_⟩
  refine loop_model mixed tys_ok t_slices_IndexFunc_impl_Constraint__impl_satisfies_1 (S := Int) (I := (fun i => (envOf [(0, .c (.imm (.pair (.sl (.pair (.int .i64) (.int .i64))) (.int .i64)) s_)), (1, .c (.fn 247 [0])), (7, .c (.int .i64 (s_.length:Int))), (8, .c (.int .i64 i))], [(0, .rc [.imm .bool o0])]))) (f := slices_IndexFunc_impl_Constraint__impl_satisfies_1_l1 s_ o0) (K := (fun r => k (.c (.int .i64 r)) [(0, .rc [.imm .bool o0])])) he (leads_ren [] (l := [(0, .c (.imm (.pair (.sl (.pair (.int .i64) (.int .i64))) (.int .i64)) s_)), (1, .c (.fn 247 [0])), (7, .c (.int .i64 (s_.length:Int))), (8, .c (.int .i64 (0:Int)))]) (st' := [(0, .rc [.imm .bool o0])]) rfl rfl ⟨⟨.inl rfl, trivial⟩, trivial⟩ ⟨.inl rfl, ⟨rfl, ⟨⟨rfl, rfl⟩, trivial⟩⟩, rfl, rfl, trivial⟩) ?_
  rintro i J1 he
  refine And.intro (fun hb => ?_) (fun hb => ?_)
  · have he := ok_t he hb
    have he := ok_rq he
    refine And.intro he.1 ?_
    have he := he.2
    obtain ⟨r1_, hr, he⟩ := ok_bind he
    refine ⟨r1_, hr, ?_⟩
    refine And.intro (fun hb => ?_) (fun hb => ?_)
    · have he := ok_t he hb
      have he := ok_some he
      exact ⟨rfl, _, _, (leads_ren [] (l := [(4, .c (.int .i64 i))]) (st' := [(0, .rc [.imm .bool o0])]) rfl rfl ⟨⟨.inl rfl, trivial⟩, trivial⟩ ⟨rfl, trivial⟩), he⟩
    · have he := ok_f he hb
      have he := ok_rq he
      refine And.intro he.1 ?_
      have he := he.2
      have he := ok_some he
      exact ⟨(i + (1:Int)), he, (leads_ren [] (l := [(0, .c (.imm (.pair (.sl (.pair (.int .i64) (.int .i64))) (.int .i64)) s_)), (1, .c (.fn 247 [0])), (7, .c (.int .i64 (s_.length:Int))), (8, .c (.int .i64 (i + (1:Int))))]) (st' := [(0, .rc [.imm .bool o0])]) rfl rfl ⟨⟨.inl rfl, trivial⟩, trivial⟩ ⟨.inl rfl, ⟨rfl, ⟨⟨rfl, rfl⟩, trivial⟩⟩, rfl, rfl, trivial⟩)⟩
  · have he := ok_f he hb
    have he := ok_some he
    exact ⟨rfl, _, _, (leads_ren [] (l := [(4, .c (.int .i64 (-1:Int)))]) (st' := [(0, .rc [.imm .bool o0])]) rfl rfl ⟨⟨.inl rfl, trivial⟩, trivial⟩ ⟨rfl, trivial⟩), he⟩

noncomputable def c_slices_ContainsFunc_impl_Constraint__impl_satisfies_1 : Con := fun args st => match args, st with
  | [.c (.imm (.pair (.sl (.pair (.int .i64) (.int .i64))) (.int .i64)) s_), .c (.fn 247 [0])], [(0, .rc [.imm .bool o0])] => .opt (Bool) (slices_ContainsFunc_impl_Constraint__impl_satisfies_1 s_ o0) (fun r => .ret (.c (.bool r)) [(0, .rc [.imm .bool o0])])
  | _, _ => .fail

noncomputable def C_slices_ContainsFunc_impl_Constraint__impl_satisfies_1 : Cfg := { y := tys, n := 9, h := 1, tab := [(275, c_slices_IndexFunc_impl_Constraint__impl_satisfies_1)], cut := [], hand := [], good := [], deep := [], sched := [] }

theorem t_slices_ContainsFunc_impl_Constraint__impl_satisfies_1 : TabOk Try.prog C_slices_ContainsFunc_impl_Constraint__impl_satisfies_1 := by
  refine tabOk_of ?_
  simp only [C_slices_ContainsFunc_impl_Constraint__impl_satisfies_1, List.forall_mem_cons]
  exact ⟨k_slices_IndexFunc_impl_Constraint__impl_satisfies_1, fun p h => by cases h⟩

theorem k_slices_ContainsFunc_impl_Constraint__impl_satisfies_1 : Entry Try.prog 246 c_slices_ContainsFunc_impl_Constraint__impl_satisfies_1 := by
  refine entry_by (C := C_slices_ContainsFunc_impl_Constraint__impl_satisfies_1) mixed tys_ok t_slices_ContainsFunc_impl_Constraint__impl_satisfies_1 (fn := Try.f246) (c := bd Try.f246) (by kernel_rfl) (by kernel_rfl) (by kernel_rfl) (by kernel_rfl) ?_
  intro args st k he
  unfold c_slices_ContainsFunc_impl_Constraint__impl_satisfies_1 at he
  split at he
  rotate_left
  · exact he.elim
  rename_i s_ o0
  have he : Ok (slices_ContainsFunc_impl_Constraint__impl_satisfies_1 s_ o0) (fun r => k (.c (.bool r)) [(0, .rc [.imm .bool o0])]) := he
  refine ⟨rfl, rfl, ?_⟩
  obtain ⟨r1_, hr, he⟩ := ok_bind he
  refine ⟨r1_, hr, ?_⟩
  have he := ok_some he
  exact ⟨rfl, _, _, (leads_ren [] (l := [(4, .c (.bool (decide ((0:Int) ≤ r1_))))]) (st' := [(0, .rc [.imm .bool o0])]) rfl rfl ⟨⟨.inl rfl, trivial⟩, trivial⟩ ⟨.inl rfl, trivial⟩), he⟩

noncomputable def c_impl_satisfies : Con := fun args st => match args, st with
  | [.c (.imm (.pair (.sl (.pair (.int .i64) (.int .i64))) (.int .i64)) list_), .c (.imm .bool values)], [] => .opt (Bool) (impl_satisfies list_ values) (fun r => .ret (.c (.bool r)) [])
  | _, _ => .fail

noncomputable def C_impl_satisfies : Cfg := { y := tys, n := 9, h := 0, tab := [(246, c_slices_ContainsFunc_impl_Constraint__impl_satisfies_1)], cut := [], hand := [], good := [], deep := [], sched := [] }

theorem t_impl_satisfies : TabOk Try.prog C_impl_satisfies := by
  refine tabOk_of ?_
  simp only [C_impl_satisfies, List.forall_mem_cons]
  exact ⟨k_slices_ContainsFunc_impl_Constraint__impl_satisfies_1, fun p h => by cases h⟩

theorem k_impl_satisfies : Entry Try.prog 186 c_impl_satisfies := by
  refine entry_by (C := C_impl_satisfies) mixed tys_ok t_impl_satisfies (fn := Try.f186) (c := bd Try.f186) (by kernel_rfl) (by kernel_rfl) (by kernel_rfl) (by kernel_rfl) ?_
  intro args st k he
  unfold c_impl_satisfies at he
  split at he
  rotate_left
  · exact he.elim
  rename_i list_ values
  have he : Ok (impl_satisfies list_ values) (fun r => k (.c (.bool r)) []) := he
  refine ⟨rfl, rfl, ?_⟩
  obtain ⟨r1_, hr, he⟩ := ok_bind he
  refine ⟨r1_, hr, ?_⟩
  have he := ok_some he
  exact ⟨rfl, _, _, (leads_ren [] (l := [(4, .c (.bool (!r1_)))]) (st' := []) rfl rfl trivial ⟨.inl rfl, trivial⟩), he⟩

noncomputable def c_impl_SatisfiesAll : Con := fun args st => match args, st with
  | [.c (.imm (.pair (.sl (.pair (.int .i64) (.int .i64))) (.int .i64)) list_), .c (.imm .bool values)], [] => .opt (Bool) (impl_SatisfiesAll list_ values) (fun r => .ret (.c (.bool r)) [])
  | _, _ => .fail

noncomputable def C_impl_SatisfiesAll : Cfg := { y := tys, n := 17, h := 0, tab := [(179, c_impl_ProblemValid), (186, c_impl_satisfies)], cut := [], hand := [], good := [], deep := [], sched := [] }

theorem t_impl_SatisfiesAll : TabOk Try.prog C_impl_SatisfiesAll := by
  refine tabOk_of ?_
  simp only [C_impl_SatisfiesAll, List.forall_mem_cons]
  exact ⟨k_impl_ProblemValid, k_impl_satisfies, fun p h => by cases h⟩

theorem k_impl_SatisfiesAll : Entry Try.prog 76 c_impl_SatisfiesAll := by
  refine entry_by (C := C_impl_SatisfiesAll) mixed tys_ok t_impl_SatisfiesAll (fn := Try.f76) (c := bd Try.f76) (by kernel_rfl) (by kernel_rfl) (by kernel_rfl) (by kernel_rfl) ?_
  intro args st k he
  unfold c_impl_SatisfiesAll at he
  split at he
  rotate_left
  · exact he.elim
  rename_i list_ values
  have he : Ok (impl_SatisfiesAll list_ values) (fun r => k (.c (.bool r)) []) := he
  refine ⟨rfl, rfl, ?_⟩
  obtain ⟨r1_, hr, he⟩ := ok_bind he
  refine ⟨r1_, hr, ?_⟩
  refine And.intro (fun hb => ?_) (fun hb => ?_)
  · have he := ok_t he hb
    refine And.intro (fun hb => ?_) (fun hb => ?_)
    · have he := ok_t he hb
      obtain ⟨r2_, hr, he⟩ := ok_bind he
      refine ⟨r2_, hr, ?_⟩
      have he := ok_some he
      exact ⟨rfl, _, _, Leads.refl _ _, he⟩
    · have he := ok_f he hb
      have he := ok_some he
      exact ⟨rfl, _, _, Leads.refl _ _, he⟩
  · have he := ok_f he hb
    have he := ok_some he
    exact ⟨rfl, _, _, Leads.refl _ _, he⟩

noncomputable def c_impl_numbered : Con := fun args st => match args, st with
  | [.c (.int .i64 n)], [] => .opt ((List Bool)) (impl_numbered n) (fun r => .ret (.c (.own 900 false)) [(900, .sl 4 .bool r .shallow)])
  | _, _ => .fail

noncomputable def C_impl_numbered : Cfg := { y := tys, n := 22, h := 0, tab := [], cut := [], hand := [], good := [], deep := [], sched := [] }

theorem t_impl_numbered : TabOk Try.prog C_impl_numbered := tabOk_of (fun p h => by cases h)

theorem k_impl_numbered : Entry Try.prog 187 c_impl_numbered := by
  refine entry_by (C := C_impl_numbered) mixed tys_ok t_impl_numbered (fn := Try.f187) (c := bd Try.f187) (by kernel_rfl) (by kernel_rfl) (by kernel_rfl) (by kernel_rfl) ?_
  intro args st k he
  unfold c_impl_numbered at he
  split at he
  rotate_left
  · exact he.elim
  rename_i n
  have he : Ok (impl_numbered n) (fun r => k (.c (.own 900 false)) [(900, .sl 4 .bool r .shallow)]) := he
  refine ⟨rfl, rfl, ?_⟩
  have he := ok_rq he
  refine And.intro he.1 ?_
  have he := he.2
  refine loop_model mixed tys_ok t_impl_numbered (S := Int × (List Bool)) (I := (fun (i, out) => (envOf [(0, .c (.int .i64 n)), (3, .c (.own 10000000 false)), (7, .c (.int .i64 ((List.replicate (12:Int).toNat false).length:Int))), (8, .c (.int .i64 i))], [(10000000, .sl 4 .bool out .shallow)]))) (f := impl_numbered_l1 n) (K := (fun r => k (.c (.own 900 false)) [(900, .sl 4 .bool r .shallow)])) he (leads_ren [(10000000, 5)] (l := [(0, .c (.int .i64 n)), (3, .c (.own 10000000 false)), (7, .c (.int .i64 ((List.replicate (12:Int).toNat false).length:Int))), (8, .c (.int .i64 (0:Int)))]) (st' := [(10000000, .sl 4 .bool (List.replicate (12:Int).toNat false) .shallow)]) rfl rfl ⟨⟨rfl, rfl⟩, trivial⟩ ⟨rfl, ⟨⟨rfl, rfl⟩, trivial⟩, rfl, rfl, trivial⟩) ?_
  rintro ⟨i, out⟩ J1 he
  refine And.intro (fun hb => ?_) (fun hb => ?_)
  · have he := ok_t he hb
    have he := ok_rq he
    refine And.intro he.1 ?_
    have he := he.2
    have he := ok_rq he
    refine And.intro he.1 ?_
    have he := he.2
    have he := ok_rq he
    refine And.intro he.1 ?_
    have he := he.2
    have he := ok_rq he
    refine And.intro he.1 ?_
    have he := he.2
    have he := ok_rq he
    refine And.intro he.1 ?_
    have he := he.2
    have he := ok_some he
    exact ⟨((i + (1:Int)), (out.set i.toNat ((((n / 2 ^ ((11:Int) - i).toNat).toNat &&& (1:Int).toNat : Nat) : Int) == (1:Int)))), he, (leads_ren [] (l := [(0, .c (.int .i64 n)), (3, .c (.own 10000000 false)), (7, .c (.int .i64 ((List.replicate (12:Int).toNat false).length:Int))), (8, .c (.int .i64 (i + (1:Int))))]) (st' := [(10000000, .sl 4 .bool (out.set i.toNat ((((n / 2 ^ ((11:Int) - i).toNat).toNat &&& (1:Int).toNat : Nat) : Int) == (1:Int))) .shallow)]) rfl rfl ⟨⟨rfl, rfl⟩, trivial⟩ ⟨rfl, ⟨⟨rfl, rfl⟩, trivial⟩, rfl, rfl, trivial⟩)⟩
  · have he := ok_f he hb
    have he := ok_some he
    exact ⟨rfl, _, _, (leads_ren [(900, 10000000)] (l := [(2, .c (.own 900 false))]) (st' := [(900, .sl 4 .bool out .shallow)]) rfl rfl ⟨⟨rfl, rfl⟩, trivial⟩ ⟨⟨⟨rfl, rfl⟩, trivial⟩, trivial⟩), he⟩

noncomputable def c_impl_CountSolutions : Con := fun args st => match args, st with
  | [.c (.imm (.pair (.sl (.pair (.int .i64) (.int .i64))) (.int .i64)) list_)], [] => .opt (Int) (impl_CountSolutions list_) (fun r => .ret (.c (.int .i64 r)) [])
  | _, _ => .fail

noncomputable def C_impl_CountSolutions : Cfg := { y := tys, n := 19, h := 0, tab := [(179, c_impl_ProblemValid), (186, c_impl_satisfies), (187, c_impl_numbered)], cut := [], hand := [], good := [], deep := [], sched := [] }

theorem t_impl_CountSolutions : TabOk Try.prog C_impl_CountSolutions := by
  refine tabOk_of ?_
  simp only [C_impl_CountSolutions, List.forall_mem_cons]
  exact ⟨k_impl_ProblemValid, k_impl_satisfies, k_impl_numbered, fun p h => by cases h⟩

theorem k_impl_CountSolutions : Entry Try.prog 77 c_impl_CountSolutions := by
  refine entry_by (C := C_impl_CountSolutions) mixed tys_ok t_impl_CountSolutions (fn := Try.f77) (c := bd Try.f77) (by kernel_rfl) (by kernel_rfl) (by kernel_rfl) (by kernel_rfl) ?_
  intro args st k he
  unfold c_impl_CountSolutions at he
  split at he
  rotate_left
  · exact he.elim
  rename_i list_
  have he : Ok (impl_CountSolutions list_) (fun r => k (.c (.int .i64 r)) []) := he
  refine ⟨rfl, rfl, ?_⟩
  obtain ⟨r1_, hr, he⟩ := ok_bind he
  refine ⟨r1_, hr, ?_⟩
  refine And.intro (fun hb => ?_) (fun hb => ?_)
  · have he := ok_t he hb
    have he := ok_some he
    exact ⟨rfl, _, _, Leads.refl _ _, he⟩
  · have he := ok_f he hb
    refine loop_model mixed tys_ok t_impl_CountSolutions (S := Int × Int) (I := (fun (count, i) => (envOf [(0, .c (.imm (.pair (.sl (.pair (.int .i64) (.int .i64))) (.int .i64)) list_)), (3, .c (.int .i64 count)), (8, .c (.int .i64 i))], []))) (f := impl_CountSolutions_l1 list_) (K := (fun r => k (.c (.int .i64 r)) [])) he (leads_ren [] (l := [(0, .c (.imm (.pair (.sl (.pair (.int .i64) (.int .i64))) (.int .i64)) list_)), (3, .c (.int .i64 (0:Int))), (8, .c (.int .i64 (0:Int)))]) (st' := []) rfl rfl trivial ⟨.inl rfl, rfl, rfl, trivial⟩) ?_
    rintro ⟨count, i⟩ J1 he
    refine And.intro (fun hb => ?_) (fun hb => ?_)
    · have he := ok_t he hb
      obtain ⟨r2_, hr, he⟩ := ok_bind he
      refine ⟨r2_, hr, ?_⟩
      obtain ⟨r3_, hr, he⟩ := ok_bind he
      refine ⟨r3_, hr, ?_⟩
      refine And.intro (fun hb => ?_) (fun hb => ?_)
      · have he := ok_t he hb
        have he := ok_rq he
        refine And.intro he.1 ?_
        have he := he.2
        have he := ok_rq he
        refine And.intro he.1 ?_
        have he := he.2
        have he := ok_some he
        exact ⟨((count + (1:Int)), (i + (1:Int))), he, (leads_ren [] (l := [(0, .c (.imm (.pair (.sl (.pair (.int .i64) (.int .i64))) (.int .i64)) list_)), (3, .c (.int .i64 (count + (1:Int)))), (8, .c (.int .i64 (i + (1:Int))))]) (st' := []) rfl rfl trivial ⟨.inl rfl, rfl, rfl, trivial⟩)⟩
      · have he := ok_f he hb
        have he := ok_rq he
        refine And.intro he.1 ?_
        have he := he.2
        have he := ok_some he
        exact ⟨(count, (i + (1:Int))), he, (leads_ren [] (l := [(0, .c (.imm (.pair (.sl (.pair (.int .i64) (.int .i64))) (.int .i64)) list_)), (3, .c (.int .i64 count)), (8, .c (.int .i64 (i + (1:Int))))]) (st' := []) rfl rfl trivial ⟨.inl rfl, rfl, rfl, trivial⟩)⟩
    · have he := ok_f he hb
      have he := ok_some he
      exact ⟨rfl, _, _, Leads.refl _ _, he⟩

noncomputable def c_laws_FnCubeSearch : Con := fun args st => match args, st with
  | [.c (.imm (.int .u8) a0)], [] => .opt (Bool) (laws_FnCubeSearch a0) (fun r => .ret (.c (.bool r)) [])
  | _, _ => .fail

noncomputable def C_laws_FnCubeSearch : Cfg := { y := tys, n := 77, h := 0, tab := [(70, c_impl_CubeHolds), (71, c_spec_DrawCubeProblem), (72, c_impl_CubeProblem), (73, c_spec_CubeProblem), (74, c_laws_cpProblem), (75, c_impl_SolveProblem), (76, c_impl_SatisfiesAll), (77, c_impl_CountSolutions)], cut := [], hand := [], good := [], deep := [], sched := [] }

theorem t_laws_FnCubeSearch : TabOk Try.prog C_laws_FnCubeSearch := by
  refine tabOk_of ?_
  simp only [C_laws_FnCubeSearch, List.forall_mem_cons]
  exact ⟨k_impl_CubeHolds, k_spec_DrawCubeProblem, k_impl_CubeProblem, k_spec_CubeProblem, k_laws_cpProblem, k_impl_SolveProblem, k_impl_SatisfiesAll, k_impl_CountSolutions, fun p h => by cases h⟩

theorem k_laws_FnCubeSearch : Entry Try.prog 11 c_laws_FnCubeSearch := by
  refine entry_by (C := C_laws_FnCubeSearch) mixed tys_ok t_laws_FnCubeSearch (fn := Try.f11) (c := bd Try.f11) (by kernel_rfl) (by kernel_rfl) (by kernel_rfl) (by kernel_rfl) ?_
  intro args st k he
  unfold c_laws_FnCubeSearch at he
  split at he
  rotate_left
  · exact he.elim
  rename_i a0
  have he : Ok (laws_FnCubeSearch a0) (fun r => k (.c (.bool r)) []) := he
  refine ⟨rfl, rfl, ?_⟩
  refine And.intro (fun hb => ?_) (fun hb => ?_)
  · have he := ok_t he hb
    have he := ok_some he
    exact ⟨rfl, _, _, Leads.refl _ _, he⟩
  · have he := ok_f he hb
    obtain ⟨r1_, hr, he⟩ := ok_bind he
    refine ⟨r1_, hr, ?_⟩
    obtain ⟨r2_, hr, he⟩ := ok_bind he
    refine ⟨r2_, hr, ?_⟩
    obtain ⟨r3_, hr, he⟩ := ok_bind he
    refine ⟨r3_, hr, ?_⟩
    refine And.intro (fun hb => ?_) (fun hb => ?_)
    · have he := ok_f he hb
      obtain ⟨r4_, hr, he⟩ := ok_bind he
      refine ⟨r4_, hr, ?_⟩
      refine And.intro (fun hb => ?_) (fun hb => ?_)
      · have he := ok_f he hb
        refine And.intro (fun hb => ?_) (fun hb => ?_)
        · have he := ok_t he hb
          refine And.intro (fun hb => ?_) (fun hb => ?_)
          · have he := ok_t he hb
            obtain ⟨r5_, hr, he⟩ := ok_bind he
            refine ⟨r5_, hr, ?_⟩
            have he := ok_some he
            exact ⟨rfl, _, _, (leads_ren [] (l := [(2, .c (.bool r5_))]) (st' := []) rfl rfl trivial ⟨.inl rfl, trivial⟩), he⟩
          · have he := ok_f he hb
            have he := ok_some he
            exact ⟨rfl, _, _, (leads_ren [] (l := [(2, .c (.bool false))]) (st' := []) rfl rfl trivial ⟨.inr rfl, trivial⟩), he⟩
        · have he := ok_f he hb
          obtain ⟨r8_, hr, he⟩ := ok_bind he
          refine ⟨r8_, hr, ?_⟩
          refine And.intro (fun hb => ?_) (fun hb => ?_)
          · have he := ok_t he hb
            obtain ⟨r9_, hr, he⟩ := ok_bind he
            refine ⟨r9_, hr, ?_⟩
            refine And.intro (fun hb => ?_) (fun hb => ?_)
            · have he := ok_t he hb
              obtain ⟨r10_, hr, he⟩ := ok_bind he
              refine ⟨r10_, hr, ?_⟩
              have he := ok_some he
              exact ⟨rfl, _, _, (leads_ren [] (l := [(2, .c (.bool r10_))]) (st' := []) rfl rfl trivial ⟨.inl rfl, trivial⟩), he⟩
            · have he := ok_f he hb
              have he := ok_some he
              exact ⟨rfl, _, _, (leads_ren [] (l := [(2, .c (.bool false))]) (st' := []) rfl rfl trivial ⟨.inr rfl, trivial⟩), he⟩
          · have he := ok_f he hb
            refine And.intro (fun hb => ?_) (fun hb => ?_)
            · have he := ok_t he hb
              obtain ⟨r11_, hr, he⟩ := ok_bind he
              refine ⟨r11_, hr, ?_⟩
              have he := ok_some he
              exact ⟨rfl, _, _, (leads_ren [] (l := [(2, .c (.bool (r11_ == (0:Int))))]) (st' := []) rfl rfl trivial ⟨.inl rfl, trivial⟩), he⟩
            · have he := ok_f he hb
              have he := ok_some he
              exact ⟨rfl, _, _, (leads_ren [] (l := [(2, .c (.bool (r8_.1 == (0:Int))))]) (st' := []) rfl rfl trivial ⟨.inl rfl, trivial⟩), he⟩
      · have he := ok_t he hb
        refine And.intro (fun hb => ?_) (fun hb => ?_)
        · have he := ok_t he hb
          obtain ⟨r6_, hr, he⟩ := ok_bind he
          refine ⟨r6_, hr, ?_⟩
          have he := ok_some he
          exact ⟨rfl, _, _, (leads_ren [] (l := [(2, .c (.bool r6_))]) (st' := []) rfl rfl trivial ⟨.inl rfl, trivial⟩), he⟩
        · have he := ok_f he hb
          have he := ok_some he
          exact ⟨rfl, _, _, (leads_ren [] (l := [(2, .c (.bool false))]) (st' := []) rfl rfl trivial ⟨.inr rfl, trivial⟩), he⟩
    · have he := ok_t he hb
      refine And.intro (fun hb => ?_) (fun hb => ?_)
      · have he := ok_t he hb
        obtain ⟨r7_, hr, he⟩ := ok_bind he
        refine ⟨r7_, hr, ?_⟩
        have he := ok_some he
        exact ⟨rfl, _, _, (leads_ren [] (l := [(2, .c (.bool r7_))]) (st' := []) rfl rfl trivial ⟨.inl rfl, trivial⟩), he⟩
      · have he := ok_f he hb
        have he := ok_some he
        exact ⟨rfl, _, _, (leads_ren [] (l := [(2, .c (.bool false))]) (st' := []) rfl rfl trivial ⟨.inr rfl, trivial⟩), he⟩

end Go.AE.Y
