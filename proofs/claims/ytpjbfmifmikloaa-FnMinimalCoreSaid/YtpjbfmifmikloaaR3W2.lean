/-
  Walks: each function keeps the contract that its model gives. No conditions.
-/
import Derived.Test.YtpjbfmifmikloaaR3Tab
import Derived.Test.YtpjbfmifmikloaaR3W1
namespace Go.AE.Y
open Go Go.AE Go.Proofs
set_option linter.unusedVariables false
set_option maxHeartbeats 2000000
set_option maxRecDepth 100000

noncomputable def c_impl_ProblemValid : Con := fun args st => match args, st with
  | [.c (.imm (.pair (.sl (.pair (.int .i64) (.int .i64))) (.int .i64)) list_)], [] => .opt (Bool) (impl_ProblemValid list_) (fun r => .ret (.c (.bool r)) [])
  | _, _ => .fail

noncomputable def C_impl_ProblemValid : Cfg := { y := tys, n := 10, h := 0, tab := [(86, c_impl_allValid)], cut := [], hand := [], good := [], deep := [], sched := [] }

theorem t_impl_ProblemValid : TabOk Try.prog C_impl_ProblemValid := by
  refine tabOk_of ?_
  simp only [C_impl_ProblemValid, List.forall_mem_cons]
  exact ⟨k_impl_allValid, fun p h => by cases h⟩

theorem k_impl_ProblemValid : Entry Try.prog 27 c_impl_ProblemValid := by
  refine entry_by (C := C_impl_ProblemValid) mixed tys_ok t_impl_ProblemValid (fn := Try.f27) (c := bd Try.f27) (by kernel_rfl) (by kernel_rfl) (by kernel_rfl) (by kernel_rfl) ?_
  intro args st k he
  unfold c_impl_ProblemValid at he
  split at he
  rotate_left
  · exact he.elim
  rename_i list_
  have he : Ok (impl_ProblemValid list_) (fun r => k (.c (.bool r)) []) := he
  refine ⟨rfl, rfl, ?_⟩
  refine And.intro (fun hb => ?_) (fun hb => ?_)
  · have he := ok_t he hb
    obtain ⟨r1_, hr, he⟩ := ok_bind he
    refine ⟨r1_, hr, ?_⟩
    have he := ok_some he
    exact ⟨rfl, _, _, Leads.refl _ _, he⟩
  · have he := ok_f he hb
    have he := ok_some he
    exact ⟨rfl, _, _, Leads.refl _ _, he⟩

noncomputable def c_impl_numbered : Con := fun args st => match args, st with
  | [.c (.int .i64 n)], [] => .opt ((List Bool)) (impl_numbered n) (fun r => .ret (.c (.own 900 false)) [(900, .sl 4 .bool r .shallow)])
  | _, _ => .fail

noncomputable def C_impl_numbered : Cfg := { y := tys, n := 22, h := 0, tab := [], cut := [], hand := [], good := [], deep := [], sched := [] }

theorem t_impl_numbered : TabOk Try.prog C_impl_numbered := tabOk_of (fun p h => by cases h)

theorem k_impl_numbered : Entry Try.prog 88 c_impl_numbered := by
  refine entry_by (C := C_impl_numbered) mixed tys_ok t_impl_numbered (fn := Try.f88) (c := bd Try.f88) (by kernel_rfl) (by kernel_rfl) (by kernel_rfl) (by kernel_rfl) ?_
  intro args st k he
  unfold c_impl_numbered at he
  split at he
  rotate_left
  · exact he.elim
  rename_i n
  have he : Ok (impl_numbered n) (fun r => k (.c (.own 900 false)) [(900, .sl 4 .bool r .shallow)]) := he
  refine ⟨rfl, rfl, ?_⟩
  have he := ok_rq he
  refine And.intro he.1 ?_
  have he := he.2
  refine loop_model mixed tys_ok t_impl_numbered (S := Int × (List Bool)) (I := (fun (i, out) => (envOf [(0, .c (.int .i64 n)), (3, .c (.own 10000000 false)), (7, .c (.int .i64 ((List.replicate (12:Int).toNat false).length:Int))), (8, .c (.int .i64 i))], [(10000000, .sl 4 .bool out .shallow)]))) (f := impl_numbered_l1 n) (K := (fun r => k (.c (.own 900 false)) [(900, .sl 4 .bool r .shallow)])) he (leads_ren [(10000000, 5)] (l := [(0, .c (.int .i64 n)), (3, .c (.own 10000000 false)), (7, .c (.int .i64 ((List.replicate (12:Int).toNat false).length:Int))), (8, .c (.int .i64 (0:Int)))]) (st' := [(10000000, .sl 4 .bool (List.replicate (12:Int).toNat false) .shallow)]) rfl rfl ⟨⟨rfl, rfl⟩, trivial⟩ ⟨rfl, ⟨⟨rfl, rfl⟩, trivial⟩, rfl, rfl, trivial⟩) ?_
  rintro ⟨i, out⟩ J1 he
  refine And.intro (fun hb => ?_) (fun hb => ?_)
  · have he := ok_t he hb
    have he := ok_rq he
    refine And.intro he.1 ?_
    have he := he.2
    have he := ok_rq he
    refine And.intro he.1 ?_
    have he := he.2
    have he := ok_rq he
    refine And.intro he.1 ?_
    have he := he.2
    have he := ok_rq he
    refine And.intro he.1 ?_
    have he := he.2
    have he := ok_rq he
    refine And.intro he.1 ?_
    have he := he.2
    have he := ok_some he
    exact ⟨((i + (1:Int)), (out.set i.toNat ((((n / 2 ^ ((11:Int) - i).toNat).toNat &&& (1:Int).toNat : Nat) : Int) == (1:Int)))), he, (leads_ren [] (l := [(0, .c (.int .i64 n)), (3, .c (.own 10000000 false)), (7, .c (.int .i64 ((List.replicate (12:Int).toNat false).length:Int))), (8, .c (.int .i64 (i + (1:Int))))]) (st' := [(10000000, .sl 4 .bool (out.set i.toNat ((((n / 2 ^ ((11:Int) - i).toNat).toNat &&& (1:Int).toNat : Nat) : Int) == (1:Int))) .shallow)]) rfl rfl ⟨⟨rfl, rfl⟩, trivial⟩ ⟨rfl, ⟨⟨rfl, rfl⟩, trivial⟩, rfl, rfl, trivial⟩)⟩
  · have he := ok_f he hb
    have he := ok_some he
    exact ⟨rfl, _, _, (leads_ren [(900, 10000000)] (l := [(2, .c (.own 900 false))]) (st' := [(900, .sl 4 .bool out .shallow)]) rfl rfl ⟨⟨rfl, rfl⟩, trivial⟩ ⟨⟨⟨rfl, rfl⟩, trivial⟩, trivial⟩), he⟩

noncomputable def c_impl_holds : Con := fun args st => match args, st with
  | [.c (.int .i64 l), .c (.imm .bool values)], [] => .opt (Bool) (impl_holds l values) (fun r => .ret (.c (.bool r)) [])
  | _, _ => .fail

noncomputable def C_impl_holds : Cfg := { y := tys, n := 14, h := 0, tab := [(181, c_impl_variableOf)], cut := [], hand := [], good := [], deep := [], sched := [] }

theorem t_impl_holds : TabOk Try.prog C_impl_holds := by
  refine tabOk_of ?_
  simp only [C_impl_holds, List.forall_mem_cons]
  exact ⟨k_impl_variableOf, fun p h => by cases h⟩

theorem k_impl_holds : Entry Try.prog 182 c_impl_holds := by
  refine entry_by (C := C_impl_holds) mixed tys_ok t_impl_holds (fn := Try.f182) (c := bd Try.f182) (by kernel_rfl) (by kernel_rfl) (by kernel_rfl) (by kernel_rfl) ?_
  intro args st k he
  unfold c_impl_holds at he
  split at he
  rotate_left
  · exact he.elim
  rename_i l values
  have he : Ok (impl_holds l values) (fun r => k (.c (.bool r)) []) := he
  refine ⟨rfl, rfl, ?_⟩
  obtain ⟨r1_, hr, he⟩ := ok_bind he
  refine ⟨r1_, hr, ?_⟩
  have he := ok_rq he
  refine And.intro he.1 ?_
  have he := he.2
  have he := ok_rq he
  refine And.intro he.1 ?_
  have he := he.2
  have he := ok_some he
  exact ⟨rfl, _, _, Leads.refl _ _, he⟩

noncomputable def c_impl_Constraint_holds : Con := fun args st => match args, st with
  | [.agg [.imm (.pair (.int .i64) (.int .i64)) c__0, .int .i64 c__1], .c (.imm .bool values)], [] => .opt (Bool) (impl_Constraint_holds (c__0, c__1) values) (fun r => .ret (.c (.bool r)) [])
  | _, _ => .fail

noncomputable def C_impl_Constraint_holds : Cfg := { y := tys, n := 28, h := 0, tab := [(182, c_impl_holds)], cut := [], hand := [], good := [], deep := [], sched := [] }

theorem t_impl_Constraint_holds : TabOk Try.prog C_impl_Constraint_holds := by
  refine tabOk_of ?_
  simp only [C_impl_Constraint_holds, List.forall_mem_cons]
  exact ⟨k_impl_holds, fun p h => by cases h⟩

theorem k_impl_Constraint_holds : Entry Try.prog 149 c_impl_Constraint_holds := by
  refine entry_by (C := C_impl_Constraint_holds) mixed tys_ok t_impl_Constraint_holds (fn := Try.f149) (c := bd Try.f149) (by kernel_rfl) (by kernel_rfl) (by kernel_rfl) (by kernel_rfl) ?_
  intro args st k he
  unfold c_impl_Constraint_holds at he
  split at he
  rotate_left
  · exact he.elim
  rename_i c__0 c__1 values
  have he : Ok (impl_Constraint_holds (c__0, c__1) values) (fun r => k (.c (.bool r)) []) := he
  refine ⟨rfl, rfl, ?_⟩
  refine loop_model mixed tys_ok t_impl_Constraint_holds (S := Int × Int) (I := (fun (sum, i) => (envOf [(1, .c (.imm .bool values)), (2, .c (.ptr 10000000 0)), (5, .c (.int .i64 sum)), (9, .c (.imm (.pair (.int .i64) (.int .i64)) (c__0, c__1).1)), (10, .c (.int .i64 ((c__0, c__1).1.length:Int))), (11, .c (.int .i64 i))], [(10000000, .rc [.imm (.pair (.int .i64) (.int .i64)) (c__0, c__1).1, .int .i64 (c__0, c__1).2])]))) (f := impl_Constraint_holds_l1 (c__0, c__1) values) (K := (fun r => k (.c (.bool r)) [])) he (leads_ren [(10000000, 2)] (l := [(1, .c (.imm .bool values)), (2, .c (.ptr 10000000 0)), (5, .c (.int .i64 (0:Int))), (9, .c (.imm (.pair (.int .i64) (.int .i64)) (c__0, c__1).1)), (10, .c (.int .i64 ((c__0, c__1).1.length:Int))), (11, .c (.int .i64 (0:Int)))]) (st' := [(10000000, .rc [.imm (.pair (.int .i64) (.int .i64)) (c__0, c__1).1, .int .i64 (c__0, c__1).2])]) rfl rfl ⟨⟨.inl rfl, rfl, trivial⟩, trivial⟩ ⟨.inl rfl, ⟨⟨rfl, rfl⟩, rfl⟩, rfl, .inl rfl, rfl, rfl, trivial⟩) ?_
  rintro ⟨sum, i⟩ J1 he
  refine And.intro (fun hb => ?_) (fun hb => ?_)
  · have he := ok_t he hb
    have he := ok_rq he
    refine And.intro he.1 ?_
    have he := he.2
    obtain ⟨r1_, hr, he⟩ := ok_bind he
    refine ⟨r1_, hr, ?_⟩
    refine And.intro (fun hb => ?_) (fun hb => ?_)
    · have he := ok_t he hb
      have he := ok_rq he
      refine And.intro he.1 ?_
      have he := he.2
      have he := ok_rq he
      refine And.intro he.1 ?_
      have he := he.2
      have he := ok_some he
      exact ⟨((sum + ((c__0, c__1).1.getD i.toNat (0, 0)).1), (i + (1:Int))), he, (leads_ren [] (l := [(1, .c (.imm .bool values)), (2, .c (.ptr 10000000 0)), (5, .c (.int .i64 (sum + ((c__0, c__1).1.getD i.toNat (0, 0)).1))), (9, .c (.imm (.pair (.int .i64) (.int .i64)) (c__0, c__1).1)), (10, .c (.int .i64 ((c__0, c__1).1.length:Int))), (11, .c (.int .i64 (i + (1:Int))))]) (st' := [(10000000, .rc [.imm (.pair (.int .i64) (.int .i64)) (c__0, c__1).1, .int .i64 (c__0, c__1).2])]) rfl rfl ⟨⟨.inl rfl, rfl, trivial⟩, trivial⟩ ⟨.inl rfl, ⟨⟨rfl, rfl⟩, rfl⟩, rfl, .inl rfl, rfl, rfl, trivial⟩)⟩
    · have he := ok_f he hb
      have he := ok_rq he
      refine And.intro he.1 ?_
      have he := he.2
      have he := ok_some he
      exact ⟨(sum, (i + (1:Int))), he, (leads_ren [] (l := [(1, .c (.imm .bool values)), (2, .c (.ptr 10000000 0)), (5, .c (.int .i64 sum)), (9, .c (.imm (.pair (.int .i64) (.int .i64)) (c__0, c__1).1)), (10, .c (.int .i64 ((c__0, c__1).1.length:Int))), (11, .c (.int .i64 (i + (1:Int))))]) (st' := [(10000000, .rc [.imm (.pair (.int .i64) (.int .i64)) (c__0, c__1).1, .int .i64 (c__0, c__1).2])]) rfl rfl ⟨⟨.inl rfl, rfl, trivial⟩, trivial⟩ ⟨.inl rfl, ⟨⟨rfl, rfl⟩, rfl⟩, rfl, .inl rfl, rfl, rfl, trivial⟩)⟩
  · have he := ok_f he hb
    have he := ok_some he
    exact ⟨rfl, _, _, (leads_ren [] (l := [(4, .c (.bool (decide ((c__0, c__1).2 ≤ sum))))]) (st' := []) rfl rfl trivial ⟨.inl rfl, trivial⟩), he⟩

noncomputable def c_impl_satisfies_1 : Con := fun args st => match args, st with
  | [.agg [.imm (.pair (.int .i64) (.int .i64)) c__0, .int .i64 c__1], .c (.ptr 0 0)], [(0, .rc [.imm .bool o0])] => .opt (Bool) (impl_satisfies_1 (c__0, c__1) o0) (fun r => .ret (.c (.bool r)) [(0, .rc [.imm .bool o0])])
  | _, _ => .fail

noncomputable def C_impl_satisfies_1 : Cfg := { y := tys, n := 8, h := 1, tab := [(149, c_impl_Constraint_holds)], cut := [], hand := [], good := [], deep := [], sched := [] }

theorem t_impl_satisfies_1 : TabOk Try.prog C_impl_satisfies_1 := by
  refine tabOk_of ?_
  simp only [C_impl_satisfies_1, List.forall_mem_cons]
  exact ⟨k_impl_Constraint_holds, fun p h => by cases h⟩

theorem k_impl_satisfies_1 : Entry Try.prog 148 c_impl_satisfies_1 := by
  refine entry_by (C := C_impl_satisfies_1) mixed tys_ok t_impl_satisfies_1 (fn := Try.f148) (c := bd Try.f148) (by kernel_rfl) (by kernel_rfl) (by kernel_rfl) (by kernel_rfl) ?_
  intro args st k he
  unfold c_impl_satisfies_1 at he
  split at he
  rotate_left
  · exact he.elim
  rename_i c__0 c__1 o0
  have he : Ok (impl_satisfies_1 (c__0, c__1) o0) (fun r => k (.c (.bool r)) [(0, .rc [.imm .bool o0])]) := he
  refine ⟨rfl, rfl, ?_⟩
  obtain ⟨r1_, hr, he⟩ := ok_bind he
  refine ⟨r1_, hr, ?_⟩
  have he := ok_some he
  exact ⟨rfl, _, _, (leads_ren [] (l := [(3, .c (.bool (!r1_)))]) (st' := [(0, .rc [.imm .bool o0])]) rfl rfl ⟨⟨.inl rfl, trivial⟩, trivial⟩ ⟨.inl rfl, trivial⟩), he⟩

noncomputable def c_slices_IndexFunc_impl_Constraint__impl_satisfies_1 : Con := fun args st => match args, st with
  | [.c (.imm (.pair (.sl (.pair (.int .i64) (.int .i64))) (.int .i64)) s_), .c (.fn 148 [0])], [(0, .rc [.imm .bool o0])] => .opt (Int) (slices_IndexFunc_impl_Constraint__impl_satisfies_1 s_ o0) (fun r => .ret (.c (.int .i64 r)) [(0, .rc [.imm .bool o0])])
  | _, _ => .fail

noncomputable def C_slices_IndexFunc_impl_Constraint__impl_satisfies_1 : Cfg := { y := tys, n := 19, h := 1, tab := [(148, c_impl_satisfies_1)], cut := [], hand := [], good := [], deep := [], sched := [] }

theorem t_slices_IndexFunc_impl_Constraint__impl_satisfies_1 : TabOk Try.prog C_slices_IndexFunc_impl_Constraint__impl_satisfies_1 := by
  refine tabOk_of ?_
  simp only [C_slices_IndexFunc_impl_Constraint__impl_satisfies_1, List.forall_mem_cons]
  exact ⟨k_impl_satisfies_1, fun p h => by cases h⟩

theorem k_slices_IndexFunc_impl_Constraint__impl_satisfies_1 : Entry Try.prog 179 c_slices_IndexFunc_impl_Constraint__impl_satisfies_1 := by
  refine entry_by (C := C_slices_IndexFunc_impl_Constraint__impl_satisfies_1) mixed tys_ok t_slices_IndexFunc_impl_Constraint__impl_satisfies_1 (fn := Try.f179) (c := bd Try.f179) (by kernel_rfl) (by kernel_rfl) (by kernel_rfl) (by kernel_rfl) ?_
  intro args st k he
  unfold c_slices_IndexFunc_impl_Constraint__impl_satisfies_1 at he
  split at he
  rotate_left
  · exact he.elim
  rename_i s_ o0
  have he : Ok (slices_IndexFunc_impl_Constraint__impl_satisfies_1 s_ o0) (fun r => k (.c (.int .i64 r)) [(0, .rc [.imm .bool o0])]) := he
  refine ⟨rfl, rfl, ?_⟩
  refine loop_model mixed tys_ok t_slices_IndexFunc_impl_Constraint__impl_satisfies_1 (S := Int) (I := (fun i => (envOf [(0, .c (.imm (.pair (.sl (.pair (.int .i64) (.int .i64))) (.int .i64)) s_)), (1, .c (.fn 148 [0])), (7, .c (.int .i64 (s_.length:Int))), (8, .c (.int .i64 i))], [(0, .rc [.imm .bool o0])]))) (f := slices_IndexFunc_impl_Constraint__impl_satisfies_1_l1 s_ o0) (K := (fun r => k (.c (.int .i64 r)) [(0, .rc [.imm .bool o0])])) he (leads_ren [] (l := [(0, .c (.imm (.pair (.sl (.pair (.int .i64) (.int .i64))) (.int .i64)) s_)), (1, .c (.fn 148 [0])), (7, .c (.int .i64 (s_.length:Int))), (8, .c (.int .i64 (0:Int)))]) (st' := [(0, .rc [.imm .bool o0])]) rfl rfl ⟨⟨.inl rfl, trivial⟩, trivial⟩ ⟨.inl rfl, ⟨rfl, ⟨⟨rfl, rfl⟩, trivial⟩⟩, rfl, rfl, trivial⟩) ?_
  rintro i J1 he
  refine And.intro (fun hb => ?_) (fun hb => ?_)
  · have he := ok_t he hb
    have he := ok_rq he
    refine And.intro he.1 ?_
    have he := he.2
    obtain ⟨r1_, hr, he⟩ := ok_bind he
    refine ⟨r1_, hr, ?_⟩
    refine And.intro (fun hb => ?_) (fun hb => ?_)
    · have he := ok_t he hb
      have he := ok_some he
      exact ⟨rfl, _, _, (leads_ren [] (l := [(4, .c (.int .i64 i))]) (st' := [(0, .rc [.imm .bool o0])]) rfl rfl ⟨⟨.inl rfl, trivial⟩, trivial⟩ ⟨rfl, trivial⟩), he⟩
    · have he := ok_f he hb
      have he := ok_rq he
      refine And.intro he.1 ?_
      have he := he.2
      have he := ok_some he
      exact ⟨(i + (1:Int)), he, (leads_ren [] (l := [(0, .c (.imm (.pair (.sl (.pair (.int .i64) (.int .i64))) (.int .i64)) s_)), (1, .c (.fn 148 [0])), (7, .c (.int .i64 (s_.length:Int))), (8, .c (.int .i64 (i + (1:Int))))]) (st' := [(0, .rc [.imm .bool o0])]) rfl rfl ⟨⟨.inl rfl, trivial⟩, trivial⟩ ⟨.inl rfl, ⟨rfl, ⟨⟨rfl, rfl⟩, trivial⟩⟩, rfl, rfl, trivial⟩)⟩
  · have he := ok_f he hb
    have he := ok_some he
    exact ⟨rfl, _, _, (leads_ren [] (l := [(4, .c (.int .i64 (-1:Int)))]) (st' := [(0, .rc [.imm .bool o0])]) rfl rfl ⟨⟨.inl rfl, trivial⟩, trivial⟩ ⟨rfl, trivial⟩), he⟩

noncomputable def c_slices_ContainsFunc_impl_Constraint__impl_satisfies_1 : Con := fun args st => match args, st with
  | [.c (.imm (.pair (.sl (.pair (.int .i64) (.int .i64))) (.int .i64)) s_), .c (.fn 148 [0])], [(0, .rc [.imm .bool o0])] => .opt (Bool) (slices_ContainsFunc_impl_Constraint__impl_satisfies_1 s_ o0) (fun r => .ret (.c (.bool r)) [(0, .rc [.imm .bool o0])])
  | _, _ => .fail

noncomputable def C_slices_ContainsFunc_impl_Constraint__impl_satisfies_1 : Cfg := { y := tys, n := 9, h := 1, tab := [(179, c_slices_IndexFunc_impl_Constraint__impl_satisfies_1)], cut := [], hand := [], good := [], deep := [], sched := [] }

theorem t_slices_ContainsFunc_impl_Constraint__impl_satisfies_1 : TabOk Try.prog C_slices_ContainsFunc_impl_Constraint__impl_satisfies_1 := by
  refine tabOk_of ?_
  simp only [C_slices_ContainsFunc_impl_Constraint__impl_satisfies_1, List.forall_mem_cons]
  exact ⟨k_slices_IndexFunc_impl_Constraint__impl_satisfies_1, fun p h => by cases h⟩

theorem k_slices_ContainsFunc_impl_Constraint__impl_satisfies_1 : Entry Try.prog 145 c_slices_ContainsFunc_impl_Constraint__impl_satisfies_1 := by
  refine entry_by (C := C_slices_ContainsFunc_impl_Constraint__impl_satisfies_1) mixed tys_ok t_slices_ContainsFunc_impl_Constraint__impl_satisfies_1 (fn := Try.f145) (c := bd Try.f145) (by kernel_rfl) (by kernel_rfl) (by kernel_rfl) (by kernel_rfl) ?_
  intro args st k he
  unfold c_slices_ContainsFunc_impl_Constraint__impl_satisfies_1 at he
  split at he
  rotate_left
  · exact he.elim
  rename_i s_ o0
  have he : Ok (slices_ContainsFunc_impl_Constraint__impl_satisfies_1 s_ o0) (fun r => k (.c (.bool r)) [(0, .rc [.imm .bool o0])]) := he
  refine ⟨rfl, rfl, ?_⟩
  obtain ⟨r1_, hr, he⟩ := ok_bind he
  refine ⟨r1_, hr, ?_⟩
  have he := ok_some he
  exact ⟨rfl, _, _, (leads_ren [] (l := [(4, .c (.bool (decide ((0:Int) ≤ r1_))))]) (st' := [(0, .rc [.imm .bool o0])]) rfl rfl ⟨⟨.inl rfl, trivial⟩, trivial⟩ ⟨.inl rfl, trivial⟩), he⟩

noncomputable def c_impl_satisfies : Con := fun args st => match args, st with
  | [.c (.imm (.pair (.sl (.pair (.int .i64) (.int .i64))) (.int .i64)) list_), .c (.imm .bool values)], [] => .opt (Bool) (impl_satisfies list_ values) (fun r => .ret (.c (.bool r)) [])
  | _, _ => .fail

noncomputable def C_impl_satisfies : Cfg := { y := tys, n := 9, h := 0, tab := [(145, c_slices_ContainsFunc_impl_Constraint__impl_satisfies_1)], cut := [], hand := [], good := [], deep := [], sched := [] }

theorem t_impl_satisfies : TabOk Try.prog C_impl_satisfies := by
  refine tabOk_of ?_
  simp only [C_impl_satisfies, List.forall_mem_cons]
  exact ⟨k_slices_ContainsFunc_impl_Constraint__impl_satisfies_1, fun p h => by cases h⟩

theorem k_impl_satisfies : Entry Try.prog 87 c_impl_satisfies := by
  refine entry_by (C := C_impl_satisfies) mixed tys_ok t_impl_satisfies (fn := Try.f87) (c := bd Try.f87) (by kernel_rfl) (by kernel_rfl) (by kernel_rfl) (by kernel_rfl) ?_
  intro args st k he
  unfold c_impl_satisfies at he
  split at he
  rotate_left
  · exact he.elim
  rename_i list_ values
  have he : Ok (impl_satisfies list_ values) (fun r => k (.c (.bool r)) []) := he
  refine ⟨rfl, rfl, ?_⟩
  obtain ⟨r1_, hr, he⟩ := ok_bind he
  refine ⟨r1_, hr, ?_⟩
  have he := ok_some he
  exact ⟨rfl, _, _, (leads_ren [] (l := [(4, .c (.bool (!r1_)))]) (st' := []) rfl rfl trivial ⟨.inl rfl, trivial⟩), he⟩

noncomputable def c_impl_solvable : Con := fun args st => match args, st with
  | [.c (.imm (.pair (.sl (.pair (.int .i64) (.int .i64))) (.int .i64)) list_)], [] => .opt (Bool) (impl_solvable list_) (fun r => .ret (.c (.bool r)) [])
  | _, _ => .fail

noncomputable def C_impl_solvable : Cfg := { y := tys, n := 12, h := 0, tab := [(87, c_impl_satisfies), (88, c_impl_numbered)], cut := [], hand := [], good := [], deep := [], sched := [] }

theorem t_impl_solvable : TabOk Try.prog C_impl_solvable := by
  refine tabOk_of ?_
  simp only [C_impl_solvable, List.forall_mem_cons]
  exact ⟨k_impl_satisfies, k_impl_numbered, fun p h => by cases h⟩

theorem k_impl_solvable : Entry Try.prog 77 c_impl_solvable := by
  refine entry_by (C := C_impl_solvable) mixed tys_ok t_impl_solvable (fn := Try.f77) (c := bd Try.f77) (by kernel_rfl) (by kernel_rfl) (by kernel_rfl) (by kernel_rfl) ?_
  intro args st k he
  unfold c_impl_solvable at he
  split at he
  rotate_left
  · exact he.elim
  rename_i list_
  have he : Ok (impl_solvable list_) (fun r => k (.c (.bool r)) []) := he
  refine ⟨rfl, rfl, ?_⟩
  refine loop_model mixed tys_ok t_impl_solvable (S := Int) (I := (fun i => (envOf [(0, .c (.imm (.pair (.sl (.pair (.int .i64) (.int .i64))) (.int .i64)) list_)), (4, .c (.int .i64 i))], []))) (f := impl_solvable_l1 list_) (K := (fun r => k (.c (.bool r)) [])) he (leads_ren [] (l := [(0, .c (.imm (.pair (.sl (.pair (.int .i64) (.int .i64))) (.int .i64)) list_)), (4, .c (.int .i64 (0:Int)))]) (st' := []) rfl rfl trivial ⟨.inl rfl, rfl, trivial⟩) ?_
  rintro i J1 he
  refine And.intro (fun hb => ?_) (fun hb => ?_)
  · have he := ok_t he hb
    obtain ⟨r1_, hr, he⟩ := ok_bind he
    refine ⟨r1_, hr, ?_⟩
    obtain ⟨r2_, hr, he⟩ := ok_bind he
    refine ⟨r2_, hr, ?_⟩
    refine And.intro (fun hb => ?_) (fun hb => ?_)
    · have he := ok_t he hb
      have he := ok_some he
      exact ⟨rfl, _, _, (leads_ren [] (l := [(2, .c (.bool true))]) (st' := []) rfl rfl trivial ⟨.inr rfl, trivial⟩), he⟩
    · have he := ok_f he hb
      have he := ok_rq he
      refine And.intro he.1 ?_
      have he := he.2
      have he := ok_some he
      exact ⟨(i + (1:Int)), he, (leads_ren [] (l := [(0, .c (.imm (.pair (.sl (.pair (.int .i64) (.int .i64))) (.int .i64)) list_)), (4, .c (.int .i64 (i + (1:Int))))]) (st' := []) rfl rfl trivial ⟨.inl rfl, rfl, trivial⟩)⟩
  · have he := ok_f he hb
    have he := ok_some he
    exact ⟨rfl, _, _, Leads.refl _ _, he⟩

noncomputable def c_impl_indices : Con := fun args st => match args, st with
  | [.c (.int .i64 count)], [] => .opt ((List Int)) (impl_indices count) (fun r => .ret (.c (.own 900 false)) [(900, .sl 3 (.int .i64) r .shallow)])
  | _, _ => .fail

noncomputable def C_impl_indices : Cfg := { y := tys, n := 15, h := 0, tab := [], cut := [], hand := [], good := [], deep := [], sched := [] }

theorem t_impl_indices : TabOk Try.prog C_impl_indices := tabOk_of (fun p h => by cases h)

theorem k_impl_indices : Entry Try.prog 78 c_impl_indices := by
  refine entry_by (C := C_impl_indices) mixed tys_ok t_impl_indices (fn := Try.f78) (c := bd Try.f78) (by kernel_rfl) (by kernel_rfl) (by kernel_rfl) (by kernel_rfl) ?_
  intro args st k he
  unfold c_impl_indices at he
  split at he
  rotate_left
  · exact he.elim
  rename_i count
  have he : Ok (impl_indices count) (fun r => k (.c (.own 900 false)) [(900, .sl 3 (.int .i64) r .shallow)]) := he
  refine ⟨rfl, rfl, ?_⟩
  refine loop_model mixed tys_ok t_impl_indices (S := Int × (List Int)) (I := (fun (i, out) => (envOf [(3, .c (.own 10000000 false)), (5, .c (.int .i64 count)), (6, .c (.int .i64 i))], [(10000000, .sl 3 (.int .i64) out .shallow)]))) (f := impl_indices_l1 count) (K := (fun r => k (.c (.own 900 false)) [(900, .sl 3 (.int .i64) r .shallow)])) he (leads_ren [] (l := [(3, .c (.own 10000000 false)), (5, .c (.int .i64 count)), (6, .c (.int .i64 (0:Int)))]) (st' := [(10000000, .sl 3 (.int .i64) ([] : List Int) .shallow)]) rfl rfl ⟨trivial, trivial⟩ ⟨⟨rfl, trivial⟩, rfl, rfl, trivial⟩) ?_
  rintro ⟨i, out⟩ J1 he
  refine And.intro (fun hb => ?_) (fun hb => ?_)
  · have he := ok_t he hb
    have he := ok_rq he
    refine And.intro he.1 ?_
    have he := he.2
    have he := ok_rq he
    refine And.intro he.1 ?_
    have he := he.2
    have he := ok_some he
    exact ⟨((i + (1:Int)), (out ++ [i])), he, (leads_ren [(10000000, 12)] (l := [(3, .c (.own 10000000 false)), (5, .c (.int .i64 count)), (6, .c (.int .i64 (i + (1:Int))))]) (st' := [(10000000, .sl 3 (.int .i64) (out ++ [i]) .shallow)]) rfl rfl ⟨⟨rfl, rfl⟩, trivial⟩ ⟨⟨⟨rfl, rfl⟩, trivial⟩, rfl, rfl, trivial⟩)⟩
  · have he := ok_f he hb
    have he := ok_some he
    exact ⟨rfl, _, _, (leads_ren [(900, 10000000)] (l := [(2, .c (.own 900 false))]) (st' := [(900, .sl 3 (.int .i64) out .shallow)]) rfl rfl ⟨⟨rfl, rfl⟩, trivial⟩ ⟨⟨⟨rfl, rfl⟩, trivial⟩, trivial⟩), he⟩

noncomputable def c_slices_Clone_int : Con := fun args st => match args, st with
  | [.c (.imm (.int .i64) s_)], [] => .opt ((List Int)) (slices_Clone_int s_) (fun r => .ret (.c (.own 900 false)) [(900, .sl 3 (.int .i64) r .shallow)])
  | _, _ => .fail

noncomputable def C_slices_Clone_int : Cfg := { y := tys, n := 8, h := 0, tab := [], cut := [], hand := [], good := [], deep := [], sched := [] }

theorem t_slices_Clone_int : TabOk Try.prog C_slices_Clone_int := tabOk_of (fun p h => by cases h)

theorem k_slices_Clone_int : Entry Try.prog 119 c_slices_Clone_int := by
  refine entry_by (C := C_slices_Clone_int) mixed tys_ok t_slices_Clone_int (fn := Try.f119) (c := bd Try.f119) (by kernel_rfl) (by kernel_rfl) (by kernel_rfl) (by kernel_rfl) ?_
  intro args st k he
  unfold c_slices_Clone_int at he
  split at he
  rotate_left
  · exact he.elim
  rename_i s_
  have he : Ok (slices_Clone_int s_) (fun r => k (.c (.own 900 false)) [(900, .sl 3 (.int .i64) r .shallow)]) := he
  refine ⟨rfl, rfl, ?_⟩
  refine fun b1_ hb1_ => ?_
  have he := ok_nt he hb1_
  refine And.intro (fun hb => ?_) (fun hb => ?_)
  · have he := ok_t he hb
    have he := ok_some he
    exact ⟨rfl, _, _, (leads_ren [] (l := [(2, .c (.own 900 false))]) (st' := [(900, .sl 3 (.int .i64) ([] : List Int) .shallow)]) rfl rfl ⟨trivial, trivial⟩ ⟨⟨rfl, trivial⟩, trivial⟩), he⟩
  · have he := ok_f he hb
    have he := ok_rq he
    refine And.intro he.1 ?_
    have he := he.2
    have he := ok_some he
    exact ⟨rfl, _, _, (leads_ren [(900, 7)] (l := [(2, .c (.own 900 false))]) (st' := [(900, .sl 3 (.int .i64) (([] : List Int) ++ s_) .shallow)]) rfl rfl ⟨⟨rfl, rfl⟩, trivial⟩ ⟨⟨⟨rfl, rfl⟩, trivial⟩, trivial⟩), he⟩

noncomputable def c_impl_without_1 : Con := fun args st => match args, st with
  | [.c (.int .i64 n), .c (.ptr 0 0)], [(0, .rc [.int .i64 o0])] => .opt (Bool) (impl_without_1 n o0) (fun r => .ret (.c (.bool r)) [(0, .rc [.int .i64 o0])])
  | _, _ => .fail

noncomputable def C_impl_without_1 : Cfg := { y := tys, n := 7, h := 1, tab := [], cut := [], hand := [], good := [], deep := [], sched := [] }

theorem t_impl_without_1 : TabOk Try.prog C_impl_without_1 := tabOk_of (fun p h => by cases h)

theorem k_impl_without_1 : Entry Try.prog 141 c_impl_without_1 := by
  refine entry_by (C := C_impl_without_1) mixed tys_ok t_impl_without_1 (fn := Try.f141) (c := bd Try.f141) (by kernel_rfl) (by kernel_rfl) (by kernel_rfl) (by kernel_rfl) ?_
  intro args st k he
  unfold c_impl_without_1 at he
  split at he
  rotate_left
  · exact he.elim
  rename_i n o0
  have he : Ok (impl_without_1 n o0) (fun r => k (.c (.bool r)) [(0, .rc [.int .i64 o0])]) := he
  refine ⟨rfl, rfl, ?_⟩
  have he := ok_some he
  exact ⟨rfl, _, _, (leads_ren [] (l := [(3, .c (.bool (n == o0)))]) (st' := [(0, .rc [.int .i64 o0])]) rfl rfl ⟨⟨rfl, trivial⟩, trivial⟩ ⟨.inl rfl, trivial⟩), he⟩

noncomputable def c_slices_IndexFunc_int__impl_without_1 : Con := fun args st => match args, st with
  | [.c (.imm (.int .i64) s_), .c (.fn 141 [0])], [(0, .rc [.int .i64 o0])] => .opt (Int) (slices_IndexFunc_int__impl_without_1 s_ o0) (fun r => .ret (.c (.int .i64 r)) [(0, .rc [.int .i64 o0])])
  | _, _ => .fail

noncomputable def C_slices_IndexFunc_int__impl_without_1 : Cfg := { y := tys, n := 19, h := 1, tab := [(141, c_impl_without_1)], cut := [], hand := [], good := [], deep := [], sched := [] }

theorem t_slices_IndexFunc_int__impl_without_1 : TabOk Try.prog C_slices_IndexFunc_int__impl_without_1 := by
  refine tabOk_of ?_
  simp only [C_slices_IndexFunc_int__impl_without_1, List.forall_mem_cons]
  exact ⟨k_impl_without_1, fun p h => by cases h⟩

theorem k_slices_IndexFunc_int__impl_without_1 : Entry Try.prog 151 c_slices_IndexFunc_int__impl_without_1 := by
  refine entry_by (C := C_slices_IndexFunc_int__impl_without_1) mixed tys_ok t_slices_IndexFunc_int__impl_without_1 (fn := Try.f151) (c := bd Try.f151) (by kernel_rfl) (by kernel_rfl) (by kernel_rfl) (by kernel_rfl) ?_
  intro args st k he
  unfold c_slices_IndexFunc_int__impl_without_1 at he
  split at he
  rotate_left
  · exact he.elim
  rename_i s_ o0
  have he : Ok (slices_IndexFunc_int__impl_without_1 s_ o0) (fun r => k (.c (.int .i64 r)) [(0, .rc [.int .i64 o0])]) := he
  refine ⟨rfl, rfl, ?_⟩
  refine loop_model mixed tys_ok t_slices_IndexFunc_int__impl_without_1 (S := Int) (I := (fun i => (envOf [(0, .c (.imm (.int .i64) s_)), (1, .c (.fn 141 [0])), (7, .c (.int .i64 (s_.length:Int))), (8, .c (.int .i64 i))], [(0, .rc [.int .i64 o0])]))) (f := slices_IndexFunc_int__impl_without_1_l1 s_ o0) (K := (fun r => k (.c (.int .i64 r)) [(0, .rc [.int .i64 o0])])) he (leads_ren [] (l := [(0, .c (.imm (.int .i64) s_)), (1, .c (.fn 141 [0])), (7, .c (.int .i64 (s_.length:Int))), (8, .c (.int .i64 (0:Int)))]) (st' := [(0, .rc [.int .i64 o0])]) rfl rfl ⟨⟨rfl, trivial⟩, trivial⟩ ⟨.inl rfl, ⟨rfl, ⟨⟨rfl, rfl⟩, trivial⟩⟩, rfl, rfl, trivial⟩) ?_
  rintro i J1 he
  refine And.intro (fun hb => ?_) (fun hb => ?_)
  · have he := ok_t he hb
    have he := ok_rq he
    refine And.intro he.1 ?_
    have he := he.2
    obtain ⟨r1_, hr, he⟩ := ok_bind he
    refine ⟨r1_, hr, ?_⟩
    refine And.intro (fun hb => ?_) (fun hb => ?_)
    · have he := ok_t he hb
      have he := ok_some he
      exact ⟨rfl, _, _, (leads_ren [] (l := [(4, .c (.int .i64 i))]) (st' := [(0, .rc [.int .i64 o0])]) rfl rfl ⟨⟨rfl, trivial⟩, trivial⟩ ⟨rfl, trivial⟩), he⟩
    · have he := ok_f he hb
      have he := ok_rq he
      refine And.intro he.1 ?_
      have he := he.2
      have he := ok_some he
      exact ⟨(i + (1:Int)), he, (leads_ren [] (l := [(0, .c (.imm (.int .i64) s_)), (1, .c (.fn 141 [0])), (7, .c (.int .i64 (s_.length:Int))), (8, .c (.int .i64 (i + (1:Int))))]) (st' := [(0, .rc [.int .i64 o0])]) rfl rfl ⟨⟨rfl, trivial⟩, trivial⟩ ⟨.inl rfl, ⟨rfl, ⟨⟨rfl, rfl⟩, trivial⟩⟩, rfl, rfl, trivial⟩)⟩
  · have he := ok_f he hb
    have he := ok_some he
    exact ⟨rfl, _, _, (leads_ren [] (l := [(4, .c (.int .i64 (-1:Int)))]) (st' := [(0, .rc [.int .i64 o0])]) rfl rfl ⟨⟨rfl, trivial⟩, trivial⟩ ⟨rfl, trivial⟩), he⟩

noncomputable def c_slices_DeleteFunc_int__impl_without_1 : Con := fun args st => match args, st with
  | [.c (.own 1 false), .c (.fn 141 [0])], [(0, .rc [.int .i64 o0]), (1, .sl 3 (.int .i64) s_ .shallow)] => .opt ((List Int)) (slices_DeleteFunc_int__impl_without_1 o0 s_) (fun r => .ret (.c (.own 900 false)) [(0, .rc [.int .i64 o0]), (1, .dead), (900, .sl 3 (.int .i64) r .shallow)])
  | _, _ => .fail

noncomputable def C_slices_DeleteFunc_int__impl_without_1 : Cfg := { y := tys, n := 42, h := 2, tab := [(141, c_impl_without_1), (151, c_slices_IndexFunc_int__impl_without_1)], cut := [11], hand := [], good := [], deep := [], sched := [] }

theorem t_slices_DeleteFunc_int__impl_without_1 : TabOk Try.prog C_slices_DeleteFunc_int__impl_without_1 := by
  refine tabOk_of ?_
  simp only [C_slices_DeleteFunc_int__impl_without_1, List.forall_mem_cons]
  exact ⟨k_impl_without_1, k_slices_IndexFunc_int__impl_without_1, fun p h => by cases h⟩

theorem k_slices_DeleteFunc_int__impl_without_1 : Entry Try.prog 140 c_slices_DeleteFunc_int__impl_without_1 := by
  refine entry_by (C := C_slices_DeleteFunc_int__impl_without_1) mixed tys_ok t_slices_DeleteFunc_int__impl_without_1 (fn := Try.f140) (c := bd Try.f140) (by kernel_rfl) (by kernel_rfl) (by kernel_rfl) (by kernel_rfl) ?_
  intro args st k he
  unfold c_slices_DeleteFunc_int__impl_without_1 at he
  split at he
  rotate_left
  · exact he.elim
  rename_i o0 s_
  have he : Ok (slices_DeleteFunc_int__impl_without_1 o0 s_) (fun r => k (.c (.own 900 false)) [(0, .rc [.int .i64 o0]), (1, .dead), (900, .sl 3 (.int .i64) r .shallow)]) := he
  refine ⟨rfl, rfl, ?_⟩
  obtain ⟨r1_, hr, he⟩ := ok_bind he
  refine ⟨r1_, hr, ?_⟩
  refine And.intro (fun hb => ?_) (fun hb => ?_)
  · have he := ok_t he hb
    have he := ok_some he
    exact ⟨rfl, _, _, (leads_ren [(900, 1)] (l := [(4, .c (.own 900 false))]) (st' := [(0, .rc [.int .i64 o0]), (1, .dead), (900, .sl 3 (.int .i64) s_ .shallow)]) rfl rfl ⟨⟨rfl, trivial⟩, trivial, ⟨rfl, rfl⟩, trivial⟩ ⟨⟨⟨rfl, rfl⟩, trivial⟩, trivial⟩), he⟩
  · have he := ok_f he hb
    refine seq_model mixed tys_ok t_slices_DeleteFunc_int__impl_without_1 (S := Int × (List Int)) (I := (fun (i1, s_2) => (envOf [(0, .c (.own 1 false)), (5, .c (.int .i64 i1))], [(0, .rc [.int .i64 o0]), (1, .sl 3 (.int .i64) s_2 .shallow)]))) (B := fun s => Ok (slices_DeleteFunc_int__impl_without_1_j1 s) (fun r => k (.c (.own 900 false)) [(0, .rc [.int .i64 o0]), (1, .dead), (900, .sl 3 (.int .i64) r .shallow)])) ?_ ?_
    · rintro ⟨i1, s_2⟩ he
      have he := ok_rq he
      refine And.intro he.1 ?_
      have he := he.2
      have he := ok_rq he
      refine And.intro he.1 ?_
      have he := he.2
      have he := ok_some he
      exact ⟨rfl, _, _, (leads_ren [(900, 41)] (l := [(4, .c (.own 900 false))]) (st' := [(0, .rc [.int .i64 o0]), (1, .dead), (900, .sl 3 (.int .i64) ((s_2.take i1.toNat ++ List.replicate (s_2.length - i1.toNat) (0:Int)).take i1.toNat) .shallow)]) rfl rfl ⟨⟨rfl, trivial⟩, trivial, ⟨rfl, rfl⟩, trivial⟩ ⟨⟨⟨rfl, rfl⟩, trivial⟩, trivial⟩), he⟩
    · skip
      have he := ok_rq he
      refine And.intro he.1 ?_
      have he := he.2
      refine loop_model mixed tys_ok t_slices_DeleteFunc_int__impl_without_1 (S := Int × Int × (List Int)) (I := (fun (i, j, s_1) => (envOf [(0, .c (.own 1 false)), (1, .c (.fn 141 [0])), (5, .c (.int .i64 i)), (6, .c (.int .i64 j))], [(0, .rc [.int .i64 o0]), (1, .sl 3 (.int .i64) s_1 .shallow)]))) (f := slices_DeleteFunc_int__impl_without_1_l1 o0) (K := (fun r => k (.c (.own 900 false)) [(0, .rc [.int .i64 o0]), (1, .dead), (900, .sl 3 (.int .i64) r .shallow)])) he (leads_ren [] (l := [(0, .c (.own 1 false)), (1, .c (.fn 141 [0])), (5, .c (.int .i64 r1_)), (6, .c (.int .i64 (r1_ + (1:Int))))]) (st' := [(0, .rc [.int .i64 o0]), (1, .sl 3 (.int .i64) s_ .shallow)]) rfl rfl ⟨⟨rfl, trivial⟩, ⟨rfl, rfl⟩, trivial⟩ ⟨⟨⟨rfl, rfl⟩, trivial⟩, ⟨rfl, ⟨⟨rfl, rfl⟩, trivial⟩⟩, rfl, rfl, trivial⟩) ?_
      rintro ⟨i, j, s_1⟩ J1 he
      refine And.intro (fun hb => ?_) (fun hb => ?_)
      · have he := ok_t he hb
        have he := ok_rq he
        refine And.intro he.1 ?_
        have he := he.2
        obtain ⟨r3_, hr, he⟩ := ok_bind he
        refine ⟨r3_, hr, ?_⟩
        refine And.intro (fun hb => ?_) (fun hb => ?_)
        · have he := ok_t he hb
          have he := ok_rq he
          refine And.intro he.1 ?_
          have he := he.2
          have he := ok_rq he
          refine And.intro he.1 ?_
          have he := he.2
          have he := ok_rq he
          refine And.intro he.1 ?_
          have he := he.2
          have he := ok_some he
          exact ⟨((i + (1:Int)), (j + (1:Int)), (s_1.set i.toNat (s_1.getD j.toNat 0))), he, (leads_ren [] (l := [(0, .c (.own 1 false)), (1, .c (.fn 141 [0])), (5, .c (.int .i64 (i + (1:Int)))), (6, .c (.int .i64 (j + (1:Int))))]) (st' := [(0, .rc [.int .i64 o0]), (1, .sl 3 (.int .i64) (s_1.set i.toNat (s_1.getD j.toNat 0)) .shallow)]) rfl rfl ⟨⟨rfl, trivial⟩, ⟨rfl, rfl⟩, trivial⟩ ⟨⟨⟨rfl, rfl⟩, trivial⟩, ⟨rfl, ⟨⟨rfl, rfl⟩, trivial⟩⟩, rfl, rfl, trivial⟩)⟩
        · have he := ok_f he hb
          have he := ok_rq he
          refine And.intro he.1 ?_
          have he := he.2
          have he := ok_some he
          exact ⟨(i, (j + (1:Int)), s_1), he, (leads_ren [] (l := [(0, .c (.own 1 false)), (1, .c (.fn 141 [0])), (5, .c (.int .i64 i)), (6, .c (.int .i64 (j + (1:Int))))]) (st' := [(0, .rc [.int .i64 o0]), (1, .sl 3 (.int .i64) s_1 .shallow)]) rfl rfl ⟨⟨rfl, trivial⟩, ⟨rfl, rfl⟩, trivial⟩ ⟨⟨⟨rfl, rfl⟩, trivial⟩, ⟨rfl, ⟨⟨rfl, rfl⟩, trivial⟩⟩, rfl, rfl, trivial⟩)⟩
      · have he := ok_f he hb
        exact ⟨(i, s_1), ok_up he, (leads_ren [] (l := [(0, .c (.own 1 false)), (5, .c (.int .i64 i))]) (st' := [(0, .rc [.int .i64 o0]), (1, .sl 3 (.int .i64) s_1 .shallow)]) rfl rfl ⟨⟨rfl, trivial⟩, ⟨rfl, rfl⟩, trivial⟩ ⟨⟨⟨rfl, rfl⟩, trivial⟩, rfl, trivial⟩)⟩

noncomputable def c_impl_without : Con := fun args st => match args, st with
  | [.c (.imm (.int .i64) list_), .c (.int .i64 k_)], [] => .opt ((List Int)) (impl_without list_ k_) (fun r => .ret (.c (.own 900 false)) [(900, .sl 3 (.int .i64) r .shallow)])
  | _, _ => .fail

noncomputable def C_impl_without : Cfg := { y := tys, n := 9, h := 0, tab := [(119, c_slices_Clone_int), (140, c_slices_DeleteFunc_int__impl_without_1)], cut := [], hand := [(140, [0])], good := [], deep := [], sched := [] }

theorem t_impl_without : TabOk Try.prog C_impl_without := by
  refine tabOk_of ?_
  simp only [C_impl_without, List.forall_mem_cons]
  exact ⟨k_slices_Clone_int, k_slices_DeleteFunc_int__impl_without_1, fun p h => by cases h⟩

theorem k_impl_without : Entry Try.prog 79 c_impl_without := by
  refine entry_by (C := C_impl_without) mixed tys_ok t_impl_without (fn := Try.f79) (c := bd Try.f79) (by kernel_rfl) (by kernel_rfl) (by kernel_rfl) (by kernel_rfl) ?_
  intro args st k he
  unfold c_impl_without at he
  split at he
  rotate_left
  · exact he.elim
  rename_i list_ k_
  have he : Ok (impl_without list_ k_) (fun r => k (.c (.own 900 false)) [(900, .sl 3 (.int .i64) r .shallow)]) := he
  refine ⟨rfl, rfl, ?_⟩
  obtain ⟨r1_, hr, he⟩ := ok_bind he
  refine ⟨r1_, hr, ?_⟩
  obtain ⟨r2_, hr, he⟩ := ok_bind he
  refine ⟨r2_, hr, ?_⟩
  have he := ok_some he
  exact ⟨rfl, _, _, (leads_ren [(900, 9900)] (l := [(4, .c (.own 900 false))]) (st' := [(900, .sl 3 (.int .i64) r2_ .shallow)]) rfl rfl ⟨⟨rfl, rfl⟩, trivial⟩ ⟨⟨⟨rfl, rfl⟩, trivial⟩, trivial⟩), he⟩

noncomputable def c_impl_partOf : Con := fun args st => match args, st with
  | [.c (.imm (.pair (.sl (.pair (.int .i64) (.int .i64))) (.int .i64)) list_), .c (.imm (.int .i64) keep)], [] => .opt ((List ((List (Int × Int)) × Int))) (impl_partOf list_ keep) (fun r => .ret (.c (.own 900 false)) [(900, .sl 134 (.pair (.sl (.pair (.int .i64) (.int .i64))) (.int .i64)) r .shallow)])
  | _, _ => .fail

noncomputable def C_impl_partOf : Cfg := { y := tys, n := 23, h := 0, tab := [], cut := [], hand := [], good := [], deep := [], sched := [] }

theorem t_impl_partOf : TabOk Try.prog C_impl_partOf := tabOk_of (fun p h => by cases h)

theorem k_impl_partOf : Entry Try.prog 80 c_impl_partOf := by
  refine entry_by (C := C_impl_partOf) mixed tys_ok t_impl_partOf (fn := Try.f80) (c := bd Try.f80) (by kernel_rfl) (by kernel_rfl) (by kernel_rfl) (by kernel_rfl) ?_
  intro args st k he
  unfold c_impl_partOf at he
  split at he
  rotate_left
  · exact he.elim
  rename_i list_ keep
  have he : Ok (impl_partOf list_ keep) (fun r => k (.c (.own 900 false)) [(900, .sl 134 (.pair (.sl (.pair (.int .i64) (.int .i64))) (.int .i64)) r .shallow)]) := he
  refine ⟨rfl, rfl, ?_⟩
  refine loop_model mixed tys_ok t_impl_partOf (S := Int × (List ((List (Int × Int)) × Int))) (I := (fun (i, out) => (envOf [(0, .c (.imm (.pair (.sl (.pair (.int .i64) (.int .i64))) (.int .i64)) list_)), (5, .c (.own 10000000 false)), (8, .c (.imm (.int .i64) keep)), (9, .c (.int .i64 (keep.length:Int))), (10, .c (.int .i64 i))], [(10000000, .sl 134 (.pair (.sl (.pair (.int .i64) (.int .i64))) (.int .i64)) out .shallow)]))) (f := impl_partOf_l1 list_ keep) (K := (fun r => k (.c (.own 900 false)) [(900, .sl 134 (.pair (.sl (.pair (.int .i64) (.int .i64))) (.int .i64)) r .shallow)])) he (leads_ren [] (l := [(0, .c (.imm (.pair (.sl (.pair (.int .i64) (.int .i64))) (.int .i64)) list_)), (5, .c (.own 10000000 false)), (8, .c (.imm (.int .i64) keep)), (9, .c (.int .i64 (keep.length:Int))), (10, .c (.int .i64 (0:Int)))]) (st' := [(10000000, .sl 134 (.pair (.sl (.pair (.int .i64) (.int .i64))) (.int .i64)) ([] : List ((List (Int × Int)) × Int)) .shallow)]) rfl rfl ⟨trivial, trivial⟩ ⟨.inl rfl, ⟨rfl, trivial⟩, .inl rfl, rfl, rfl, trivial⟩) ?_
  rintro ⟨i, out⟩ J1 he
  refine And.intro (fun hb => ?_) (fun hb => ?_)
  · have he := ok_t he hb
    have he := ok_rq he
    refine And.intro he.1 ?_
    have he := he.2
    have he := ok_rq he
    refine And.intro he.1 ?_
    have he := he.2
    have he := ok_rq he
    refine And.intro he.1 ?_
    have he := he.2
    have he := ok_rq he
    refine And.intro he.1 ?_
    have he := he.2
    have he := ok_some he
    exact ⟨((i + (1:Int)), (out ++ [(list_.getD (keep.getD i.toNat 0).toNat ([], 0))])), he, (leads_ren [(10000000, 20)] (l := [(0, .c (.imm (.pair (.sl (.pair (.int .i64) (.int .i64))) (.int .i64)) list_)), (5, .c (.own 10000000 false)), (8, .c (.imm (.int .i64) keep)), (9, .c (.int .i64 (keep.length:Int))), (10, .c (.int .i64 (i + (1:Int))))]) (st' := [(10000000, .sl 134 (.pair (.sl (.pair (.int .i64) (.int .i64))) (.int .i64)) (out ++ [(list_.getD (keep.getD i.toNat 0).toNat ([], 0))]) .shallow)]) rfl rfl ⟨⟨rfl, rfl⟩, trivial⟩ ⟨.inl rfl, ⟨⟨rfl, rfl⟩, trivial⟩, .inl rfl, rfl, rfl, trivial⟩)⟩
  · have he := ok_f he hb
    have he := ok_some he
    exact ⟨rfl, _, _, (leads_ren [(900, 10000000)] (l := [(4, .c (.own 900 false))]) (st' := [(900, .sl 134 (.pair (.sl (.pair (.int .i64) (.int .i64))) (.int .i64)) out .shallow)]) rfl rfl ⟨⟨rfl, rfl⟩, trivial⟩ ⟨⟨⟨rfl, rfl⟩, trivial⟩, trivial⟩), he⟩

noncomputable def c_impl_partOf__s : Con := fun args st => match args, st with
  | [.c (.imm (.pair (.sl (.pair (.int .i64) (.int .i64))) (.int .i64)) list_), .c (.own 0 false)], [(0, .sl 3 (.int .i64) keep .shallow)] => .opt ((List ((List (Int × Int)) × Int))) (impl_partOf__s list_ keep) (fun r => .ret (.c (.own 900 false)) [(0, .sl 3 (.int .i64) keep .shallow), (900, .sl 134 (.pair (.sl (.pair (.int .i64) (.int .i64))) (.int .i64)) r .shallow)])
  | _, _ => .fail

noncomputable def C_impl_partOf__s : Cfg := { y := tys, n := 23, h := 1, tab := [], cut := [], hand := [], good := [], deep := [], sched := [] }

theorem t_impl_partOf__s : TabOk Try.prog C_impl_partOf__s := tabOk_of (fun p h => by cases h)

theorem k_impl_partOf__s : Entry Try.prog 80 c_impl_partOf__s := by
  refine entry_by (C := C_impl_partOf__s) mixed tys_ok t_impl_partOf__s (fn := Try.f80) (c := bd Try.f80) (by kernel_rfl) (by kernel_rfl) (by kernel_rfl) (by kernel_rfl) ?_
  intro args st k he
  unfold c_impl_partOf__s at he
  split at he
  rotate_left
  · exact he.elim
  rename_i list_ keep
  have he : Ok (impl_partOf__s list_ keep) (fun r => k (.c (.own 900 false)) [(0, .sl 3 (.int .i64) keep .shallow), (900, .sl 134 (.pair (.sl (.pair (.int .i64) (.int .i64))) (.int .i64)) r .shallow)]) := he
  refine ⟨rfl, rfl, ?_⟩
  refine loop_model mixed tys_ok t_impl_partOf__s (S := Int × (List ((List (Int × Int)) × Int))) (I := (fun (i, out) => (envOf [(0, .c (.imm (.pair (.sl (.pair (.int .i64) (.int .i64))) (.int .i64)) list_)), (5, .c (.own 10000000 false)), (8, .c (.own 0 false)), (9, .c (.int .i64 (keep.length:Int))), (10, .c (.int .i64 i))], [(0, .sl 3 (.int .i64) keep .shallow), (10000000, .sl 134 (.pair (.sl (.pair (.int .i64) (.int .i64))) (.int .i64)) out .shallow)]))) (f := impl_partOf__s_l1 list_ keep) (K := (fun r => k (.c (.own 900 false)) [(0, .sl 3 (.int .i64) keep .shallow), (900, .sl 134 (.pair (.sl (.pair (.int .i64) (.int .i64))) (.int .i64)) r .shallow)])) he (leads_ren [] (l := [(0, .c (.imm (.pair (.sl (.pair (.int .i64) (.int .i64))) (.int .i64)) list_)), (5, .c (.own 10000000 false)), (8, .c (.own 0 false)), (9, .c (.int .i64 (keep.length:Int))), (10, .c (.int .i64 (0:Int)))]) (st' := [(0, .sl 3 (.int .i64) keep .shallow), (10000000, .sl 134 (.pair (.sl (.pair (.int .i64) (.int .i64))) (.int .i64)) ([] : List ((List (Int × Int)) × Int)) .shallow)]) rfl rfl ⟨⟨rfl, rfl⟩, trivial, trivial⟩ ⟨.inl rfl, ⟨rfl, trivial⟩, ⟨⟨rfl, rfl⟩, trivial⟩, rfl, rfl, trivial⟩) ?_
  rintro ⟨i, out⟩ J1 he
  refine And.intro (fun hb => ?_) (fun hb => ?_)
  · have he := ok_t he hb
    have he := ok_rq he
    refine And.intro he.1 ?_
    have he := he.2
    have he := ok_rq he
    refine And.intro he.1 ?_
    have he := he.2
    have he := ok_rq he
    refine And.intro he.1 ?_
    have he := he.2
    have he := ok_rq he
    refine And.intro he.1 ?_
    have he := he.2
    have he := ok_some he
    exact ⟨((i + (1:Int)), (out ++ [(list_.getD (keep.getD i.toNat 0).toNat ([], 0))])), he, (leads_ren [(10000000, 20)] (l := [(0, .c (.imm (.pair (.sl (.pair (.int .i64) (.int .i64))) (.int .i64)) list_)), (5, .c (.own 10000000 false)), (8, .c (.own 0 false)), (9, .c (.int .i64 (keep.length:Int))), (10, .c (.int .i64 (i + (1:Int))))]) (st' := [(0, .sl 3 (.int .i64) keep .shallow), (10000000, .sl 134 (.pair (.sl (.pair (.int .i64) (.int .i64))) (.int .i64)) (out ++ [(list_.getD (keep.getD i.toNat 0).toNat ([], 0))]) .shallow)]) rfl rfl ⟨⟨rfl, rfl⟩, ⟨rfl, rfl⟩, trivial⟩ ⟨.inl rfl, ⟨⟨rfl, rfl⟩, trivial⟩, ⟨⟨rfl, rfl⟩, trivial⟩, rfl, rfl, trivial⟩)⟩
  · have he := ok_f he hb
    have he := ok_some he
    exact ⟨rfl, _, _, (leads_ren [(900, 10000000)] (l := [(4, .c (.own 900 false))]) (st' := [(0, .sl 3 (.int .i64) keep .shallow), (900, .sl 134 (.pair (.sl (.pair (.int .i64) (.int .i64))) (.int .i64)) out .shallow)]) rfl rfl ⟨⟨rfl, rfl⟩, ⟨rfl, rfl⟩, trivial⟩ ⟨⟨⟨rfl, rfl⟩, trivial⟩, trivial⟩), he⟩

noncomputable def c_impl_MinimalCore : Con := fun args st => match args, st with
  | [.c (.imm (.pair (.sl (.pair (.int .i64) (.int .i64))) (.int .i64)) list_)], [] => .opt (Bool × (List Int)) (impl_MinimalCore list_) (fun r => .ret (.tup [.c (.own 900 false), .c (.bool r.1)]) [(900, .sl 3 (.int .i64) r.2 .shallow)])
  | _, _ => .fail

noncomputable def C_impl_MinimalCore : Cfg := { y := tys, n := 34, h := 0, tab := [(27, c_impl_ProblemValid), (77, c_impl_solvable), (78, c_impl_indices), (79, c_impl_without), (80, c_impl_partOf__s)], cut := [], hand := [(80, [1])], good := [], deep := [], sched := [] }

theorem t_impl_MinimalCore : TabOk Try.prog C_impl_MinimalCore := by
  refine tabOk_of ?_
  simp only [C_impl_MinimalCore, List.forall_mem_cons]
  exact ⟨k_impl_ProblemValid, k_impl_solvable, k_impl_indices, k_impl_without, k_impl_partOf__s, fun p h => by cases h⟩

theorem k_impl_MinimalCore : Entry Try.prog 24 c_impl_MinimalCore := by
  refine entry_by (C := C_impl_MinimalCore) mixed tys_ok t_impl_MinimalCore (fn := Try.f24) (c := bd Try.f24) (by kernel_rfl) (by kernel_rfl) (by kernel_rfl) (by kernel_rfl) ?_
  intro args st k he
  unfold c_impl_MinimalCore at he
  split at he
  rotate_left
  · exact he.elim
  rename_i list_
  have he : Ok (impl_MinimalCore list_) (fun r => k (.tup [.c (.own 900 false), .c (.bool r.1)]) [(900, .sl 3 (.int .i64) r.2 .shallow)]) := he
  refine ⟨rfl, rfl, ?_⟩
  obtain ⟨r1_, hr, he⟩ := ok_bind he
  refine ⟨r1_, hr, ?_⟩
  refine And.intro (fun hb => ?_) (fun hb => ?_)
  · have he := ok_f he hb
    obtain ⟨r2_, hr, he⟩ := ok_bind he
    refine ⟨r2_, hr, ?_⟩
    refine And.intro (fun hb => ?_) (fun hb => ?_)
    · have he := ok_t he hb
      have he := ok_some he
      exact ⟨rfl, _, _, (leads_ren [] (l := [(2, .c (.own 900 false)), (3, .c (.bool false))]) (st' := [(900, .sl 3 (.int .i64) ([] : List Int) .shallow)]) rfl rfl ⟨trivial, trivial⟩ ⟨⟨rfl, trivial⟩, .inr rfl, trivial⟩), he⟩
    · have he := ok_f he hb
      obtain ⟨r3_, hr, he⟩ := ok_bind he
      refine ⟨r3_, hr, ?_⟩
      have he := ok_rq he
      refine And.intro he.1 ?_
      have he := he.2
      refine loop_model mixed tys_ok t_impl_MinimalCore (S := Int × (List Int)) (I := (fun (k_, out) => (envOf [(0, .c (.imm (.pair (.sl (.pair (.int .i64) (.int .i64))) (.int .i64)) list_)), (4, .c (.own 10000000 false)), (5, .c (.int .i64 k_))], [(10000000, .sl 3 (.int .i64) out .shallow)]))) (f := impl_MinimalCore_l1 list_) (K := (fun r => k (.tup [.c (.own 900 false), .c (.bool r.1)]) [(900, .sl 3 (.int .i64) r.2 .shallow)])) he (leads_ren [(10000000, 17900)] (l := [(0, .c (.imm (.pair (.sl (.pair (.int .i64) (.int .i64))) (.int .i64)) list_)), (4, .c (.own 10000000 false)), (5, .c (.int .i64 ((list_.length:Int) - (1:Int))))]) (st' := [(10000000, .sl 3 (.int .i64) r3_ .shallow)]) rfl rfl ⟨⟨rfl, rfl⟩, trivial⟩ ⟨.inl rfl, ⟨⟨rfl, rfl⟩, trivial⟩, rfl, trivial⟩) ?_
      rintro ⟨k_, out⟩ J1 he
      refine And.intro (fun hb => ?_) (fun hb => ?_)
      · have he := ok_t he hb
        obtain ⟨r7_, hr, he⟩ := ok_bind he
        refine ⟨r7_, hr, ?_⟩
        obtain ⟨r8_, hr, he⟩ := ok_bind he
        refine ⟨r8_, hr, ?_⟩
        obtain ⟨r9_, hr, he⟩ := ok_bind he
        refine ⟨r9_, hr, ?_⟩
        refine And.intro (fun hb => ?_) (fun hb => ?_)
        · have he := ok_t he hb
          have he := ok_rq he
          refine And.intro he.1 ?_
          have he := he.2
          have he := ok_some he
          exact ⟨((k_ - (1:Int)), r7_), he, (leads_ren [(10000000, 27900)] (l := [(0, .c (.imm (.pair (.sl (.pair (.int .i64) (.int .i64))) (.int .i64)) list_)), (4, .c (.own 10000000 false)), (5, .c (.int .i64 (k_ - (1:Int))))]) (st' := [(10000000, .sl 3 (.int .i64) r7_ .shallow)]) rfl rfl ⟨⟨rfl, rfl⟩, trivial⟩ ⟨.inl rfl, ⟨⟨rfl, rfl⟩, trivial⟩, rfl, trivial⟩)⟩
        · have he := ok_f he hb
          have he := ok_rq he
          refine And.intro he.1 ?_
          have he := he.2
          have he := ok_some he
          exact ⟨((k_ - (1:Int)), out), he, (leads_ren [] (l := [(0, .c (.imm (.pair (.sl (.pair (.int .i64) (.int .i64))) (.int .i64)) list_)), (4, .c (.own 10000000 false)), (5, .c (.int .i64 (k_ - (1:Int))))]) (st' := [(10000000, .sl 3 (.int .i64) out .shallow)]) rfl rfl ⟨⟨rfl, rfl⟩, trivial⟩ ⟨.inl rfl, ⟨⟨rfl, rfl⟩, trivial⟩, rfl, trivial⟩)⟩
      · have he := ok_f he hb
        have he := ok_some he
        exact ⟨rfl, _, _, (leads_ren [(900, 10000000)] (l := [(2, .c (.own 900 false)), (3, .c (.bool true))]) (st' := [(900, .sl 3 (.int .i64) out .shallow)]) rfl rfl ⟨⟨rfl, rfl⟩, trivial⟩ ⟨⟨⟨rfl, rfl⟩, trivial⟩, .inr rfl, trivial⟩), he⟩
  · have he := ok_t he hb
    have he := ok_some he
    exact ⟨rfl, _, _, (leads_ren [] (l := [(2, .c (.own 900 false)), (3, .c (.bool false))]) (st' := [(900, .sl 3 (.int .i64) ([] : List Int) .shallow)]) rfl rfl ⟨trivial, trivial⟩ ⟨⟨rfl, trivial⟩, .inr rfl, trivial⟩), he⟩

noncomputable def c_spec_l1Lit : Con := fun args st => match args, st with
  | [.c (.int .i64 n)], [] => .opt (Bool) (spec_l1Lit n) (fun r => .ret (.c (.bool r)) [])
  | _, _ => .fail

noncomputable def C_spec_l1Lit : Cfg := { y := tys, n := 13, h := 0, tab := [], cut := [], hand := [], good := [], deep := [], sched := [] }

theorem t_spec_l1Lit : TabOk Try.prog C_spec_l1Lit := tabOk_of (fun p h => by cases h)

theorem k_spec_l1Lit : Entry Try.prog 174 c_spec_l1Lit := by
  refine entry_by (C := C_spec_l1Lit) mixed tys_ok t_spec_l1Lit (fn := Try.f174) (c := bd Try.f174) (by kernel_rfl) (by kernel_rfl) (by kernel_rfl) (by kernel_rfl) ?_
  intro args st k he
  unfold c_spec_l1Lit at he
  split at he
  rotate_left
  · exact he.elim
  rename_i n
  have he : Ok (spec_l1Lit n) (fun r => k (.c (.bool r)) []) := he
  refine ⟨rfl, rfl, ?_⟩
  refine And.intro (fun hb => ?_) (fun hb => ?_)
  · have he := ok_t he hb
    refine And.intro (fun hb => ?_) (fun hb => ?_)
    · have he := ok_t he hb
      have he := ok_some he
      exact ⟨rfl, _, _, Leads.refl _ _, he⟩
    · have he := ok_f he hb
      have he := ok_some he
      exact ⟨rfl, _, _, Leads.refl _ _, he⟩
  · have he := ok_f he hb
    have he := ok_some he
    exact ⟨rfl, _, _, Leads.refl _ _, he⟩

noncomputable def c_spec_l1Abs : Con := fun args st => match args, st with
  | [.c (.int .i64 n)], [] => .opt (Int) (spec_l1Abs n) (fun r => .ret (.c (.int .i64 r)) [])
  | _, _ => .fail

noncomputable def C_spec_l1Abs : Cfg := { y := tys, n := 8, h := 0, tab := [], cut := [], hand := [], good := [], deep := [], sched := [] }

theorem t_spec_l1Abs : TabOk Try.prog C_spec_l1Abs := tabOk_of (fun p h => by cases h)

theorem k_spec_l1Abs : Entry Try.prog 175 c_spec_l1Abs := by
  refine entry_by (C := C_spec_l1Abs) mixed tys_ok t_spec_l1Abs (fn := Try.f175) (c := bd Try.f175) (by kernel_rfl) (by kernel_rfl) (by kernel_rfl) (by kernel_rfl) ?_
  intro args st k he
  unfold c_spec_l1Abs at he
  split at he
  rotate_left
  · exact he.elim
  rename_i n
  have he : Ok (spec_l1Abs n) (fun r => k (.c (.int .i64 r)) []) := he
  refine ⟨rfl, rfl, ?_⟩
  refine And.intro (fun hb => ?_) (fun hb => ?_)
  · have he := ok_t he hb
    have he := ok_rq he
    refine And.intro he.1 ?_
    have he := he.2
    have he := ok_some he
    exact ⟨rfl, _, _, Leads.refl _ _, he⟩
  · have he := ok_f he hb
    have he := ok_some he
    exact ⟨rfl, _, _, Leads.refl _ _, he⟩

end Go.AE.Y
