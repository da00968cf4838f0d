/-
  Walks: each function keeps the contract that its model gives. No conditions.
-/
import Derived.Test.YtmpjmcflooeigaaR2Tab
import Derived.Test.YtmpjmcflooeigaaR2W2
namespace Go.AE.Y
open Go Go.AE Go.Proofs
set_option linter.unusedVariables false
set_option maxHeartbeats 2000000
set_option maxRecDepth 100000

noncomputable def c_slices_IndexFunc_impl_Constraint__impl_satisfies_1 : Con := fun args st => match args, st with
  | [.c (.imm (.pair (.sl (.pair (.int .i64) (.int .i64))) (.int .i64)) s_), .c (.fn 132 [0])], [(0, .rc [.imm .bool o0])] => .opt (Int) (slices_IndexFunc_impl_Constraint__impl_satisfies_1 s_ o0) (fun r => .ret (.c (.int .i64 r)) [(0, .rc [.imm .bool o0])])
  | _, _ => .fail

noncomputable def C_slices_IndexFunc_impl_Constraint__impl_satisfies_1 : Cfg := { y := tys, n := 19, h := 1, tab := [(132, c_impl_satisfies_1)], cut := [], hand := [], good := [], deep := [], sched := [] }

theorem t_slices_IndexFunc_impl_Constraint__impl_satisfies_1 : TabOk Try.prog C_slices_IndexFunc_impl_Constraint__impl_satisfies_1 := by
  refine tabOk_of ?_
  simp only [C_slices_IndexFunc_impl_Constraint__impl_satisfies_1, List.forall_mem_cons]
  exact ⟨k_impl_satisfies_1, fun p h => by cases h⟩

theorem k_slices_IndexFunc_impl_Constraint__impl_satisfies_1 : Entry Try.prog 161 c_slices_IndexFunc_impl_Constraint__impl_satisfies_1 := by
  refine entry_by (C := C_slices_IndexFunc_impl_Constraint__impl_satisfies_1) mixed tys_ok t_slices_IndexFunc_impl_Constraint__impl_satisfies_1 (fn := Try.f161) (c := bd Try.f161) (by kernel_rfl) (by kernel_rfl) (by kernel_rfl) (by kernel_rfl) ?_
  intro args st k he
  unfold c_slices_IndexFunc_impl_Constraint__impl_satisfies_1 at he
  split at he
  rotate_left
  · exact he.elim
  rename_i s_ o0
  have he : Ok (slices_IndexFunc_impl_Constraint__impl_satisfies_1 s_ o0) (fun r => k (.c (.int .i64 r)) [(0, .rc [.imm .bool o0])]) := he
  refine ⟨rfl, rfl, ?_⟩
  refine loop_model mixed tys_ok t_slices_IndexFunc_impl_Constraint__impl_satisfies_1 (S := Int) (I := (fun i => (envOf [(0, .c (.imm (.pair (.sl (.pair (.int .i64) (.int .i64))) (.int .i64)) s_)), (1, .c (.fn 132 [0])), (7, .c (.int .i64 (s_.length:Int))), (8, .c (.int .i64 i))], [(0, .rc [.imm .bool o0])]))) (f := slices_IndexFunc_impl_Constraint__impl_satisfies_1_l1 s_ o0) (K := (fun r => k (.c (.int .i64 r)) [(0, .rc [.imm .bool o0])])) he (leads_ren [] (l := [(0, .c (.imm (.pair (.sl (.pair (.int .i64) (.int .i64))) (.int .i64)) s_)), (1, .c (.fn 132 [0])), (7, .c (.int .i64 (s_.length:Int))), (8, .c (.int .i64 (0:Int)))]) (st' := [(0, .rc [.imm .bool o0])]) rfl rfl ⟨⟨.inl rfl, trivial⟩, trivial⟩ ⟨.inl rfl, ⟨rfl, ⟨⟨rfl, rfl⟩, trivial⟩⟩, rfl, rfl, trivial⟩) ?_
  rintro i J1 he
  refine And.intro (fun hb => ?_) (fun hb => ?_)
  · have he := ok_t he hb
    have he := ok_rq he
    refine And.intro he.1 ?_
    have he := he.2
    obtain ⟨r1_, hr, he⟩ := ok_bind he
    refine ⟨r1_, hr, ?_⟩
    refine And.intro (fun hb => ?_) (fun hb => ?_)
    · have he := ok_t he hb
      have he := ok_some he
      exact ⟨rfl, _, _, (leads_ren [] (l := [(4, .c (.int .i64 i))]) (st' := [(0, .rc [.imm .bool o0])]) rfl rfl ⟨⟨.inl rfl, trivial⟩, trivial⟩ ⟨rfl, trivial⟩), he⟩
    · have he := ok_f he hb
      have he := ok_rq he
      refine And.intro he.1 ?_
      have he := he.2
      have he := ok_some he
      exact ⟨(i + (1:Int)), he, (leads_ren [] (l := [(0, .c (.imm (.pair (.sl (.pair (.int .i64) (.int .i64))) (.int .i64)) s_)), (1, .c (.fn 132 [0])), (7, .c (.int .i64 (s_.length:Int))), (8, .c (.int .i64 (i + (1:Int))))]) (st' := [(0, .rc [.imm .bool o0])]) rfl rfl ⟨⟨.inl rfl, trivial⟩, trivial⟩ ⟨.inl rfl, ⟨rfl, ⟨⟨rfl, rfl⟩, trivial⟩⟩, rfl, rfl, trivial⟩)⟩
  · have he := ok_f he hb
    have he := ok_some he
    exact ⟨rfl, _, _, (leads_ren [] (l := [(4, .c (.int .i64 (-1:Int)))]) (st' := [(0, .rc [.imm .bool o0])]) rfl rfl ⟨⟨.inl rfl, trivial⟩, trivial⟩ ⟨rfl, trivial⟩), he⟩

noncomputable def c_slices_ContainsFunc_impl_Constraint__impl_satisfies_1 : Con := fun args st => match args, st with
  | [.c (.imm (.pair (.sl (.pair (.int .i64) (.int .i64))) (.int .i64)) s_), .c (.fn 132 [0])], [(0, .rc [.imm .bool o0])] => .opt (Bool) (slices_ContainsFunc_impl_Constraint__impl_satisfies_1 s_ o0) (fun r => .ret (.c (.bool r)) [(0, .rc [.imm .bool o0])])
  | _, _ => .fail

noncomputable def C_slices_ContainsFunc_impl_Constraint__impl_satisfies_1 : Cfg := { y := tys, n := 9, h := 1, tab := [(161, c_slices_IndexFunc_impl_Constraint__impl_satisfies_1)], cut := [], hand := [], good := [], deep := [], sched := [] }

theorem t_slices_ContainsFunc_impl_Constraint__impl_satisfies_1 : TabOk Try.prog C_slices_ContainsFunc_impl_Constraint__impl_satisfies_1 := by
  refine tabOk_of ?_
  simp only [C_slices_ContainsFunc_impl_Constraint__impl_satisfies_1, List.forall_mem_cons]
  exact ⟨k_slices_IndexFunc_impl_Constraint__impl_satisfies_1, fun p h => by cases h⟩

theorem k_slices_ContainsFunc_impl_Constraint__impl_satisfies_1 : Entry Try.prog 131 c_slices_ContainsFunc_impl_Constraint__impl_satisfies_1 := by
  refine entry_by (C := C_slices_ContainsFunc_impl_Constraint__impl_satisfies_1) mixed tys_ok t_slices_ContainsFunc_impl_Constraint__impl_satisfies_1 (fn := Try.f131) (c := bd Try.f131) (by kernel_rfl) (by kernel_rfl) (by kernel_rfl) (by kernel_rfl) ?_
  intro args st k he
  unfold c_slices_ContainsFunc_impl_Constraint__impl_satisfies_1 at he
  split at he
  rotate_left
  · exact he.elim
  rename_i s_ o0
  have he : Ok (slices_ContainsFunc_impl_Constraint__impl_satisfies_1 s_ o0) (fun r => k (.c (.bool r)) [(0, .rc [.imm .bool o0])]) := he
  refine ⟨rfl, rfl, ?_⟩
  obtain ⟨r1_, hr, he⟩ := ok_bind he
  refine ⟨r1_, hr, ?_⟩
  have he := ok_some he
  exact ⟨rfl, _, _, (leads_ren [] (l := [(4, .c (.bool (decide ((0:Int) ≤ r1_))))]) (st' := [(0, .rc [.imm .bool o0])]) rfl rfl ⟨⟨.inl rfl, trivial⟩, trivial⟩ ⟨.inl rfl, trivial⟩), he⟩

noncomputable def c_impl_satisfies : Con := fun args st => match args, st with
  | [.c (.imm (.pair (.sl (.pair (.int .i64) (.int .i64))) (.int .i64)) list_), .c (.imm .bool values)], [] => .opt (Bool) (impl_satisfies list_ values) (fun r => .ret (.c (.bool r)) [])
  | _, _ => .fail

noncomputable def C_impl_satisfies : Cfg := { y := tys, n := 9, h := 0, tab := [(131, c_slices_ContainsFunc_impl_Constraint__impl_satisfies_1)], cut := [], hand := [], good := [], deep := [], sched := [] }

theorem t_impl_satisfies : TabOk Try.prog C_impl_satisfies := by
  refine tabOk_of ?_
  simp only [C_impl_satisfies, List.forall_mem_cons]
  exact ⟨k_slices_ContainsFunc_impl_Constraint__impl_satisfies_1, fun p h => by cases h⟩

theorem k_impl_satisfies : Entry Try.prog 77 c_impl_satisfies := by
  refine entry_by (C := C_impl_satisfies) mixed tys_ok t_impl_satisfies (fn := Try.f77) (c := bd Try.f77) (by kernel_rfl) (by kernel_rfl) (by kernel_rfl) (by kernel_rfl) ?_
  intro args st k he
  unfold c_impl_satisfies at he
  split at he
  rotate_left
  · exact he.elim
  rename_i list_ values
  have he : Ok (impl_satisfies list_ values) (fun r => k (.c (.bool r)) []) := he
  refine ⟨rfl, rfl, ?_⟩
  obtain ⟨r1_, hr, he⟩ := ok_bind he
  refine ⟨r1_, hr, ?_⟩
  have he := ok_some he
  exact ⟨rfl, _, _, (leads_ren [] (l := [(4, .c (.bool (!r1_)))]) (st' := []) rfl rfl trivial ⟨.inl rfl, trivial⟩), he⟩

noncomputable def c_impl_solvable : Con := fun args st => match args, st with
  | [.c (.imm (.pair (.sl (.pair (.int .i64) (.int .i64))) (.int .i64)) list_)], [] => .opt (Bool) (impl_solvable list_) (fun r => .ret (.c (.bool r)) [])
  | _, _ => .fail

noncomputable def C_impl_solvable : Cfg := { y := tys, n := 12, h := 0, tab := [(77, c_impl_satisfies), (78, c_impl_numbered)], cut := [], hand := [], good := [], deep := [], sched := [] }

theorem t_impl_solvable : TabOk Try.prog C_impl_solvable := by
  refine tabOk_of ?_
  simp only [C_impl_solvable, List.forall_mem_cons]
  exact ⟨k_impl_satisfies, k_impl_numbered, fun p h => by cases h⟩

theorem k_impl_solvable : Entry Try.prog 95 c_impl_solvable := by
  refine entry_by (C := C_impl_solvable) mixed tys_ok t_impl_solvable (fn := Try.f95) (c := bd Try.f95) (by kernel_rfl) (by kernel_rfl) (by kernel_rfl) (by kernel_rfl) ?_
  intro args st k he
  unfold c_impl_solvable at he
  split at he
  rotate_left
  · exact he.elim
  rename_i list_
  have he : Ok (impl_solvable list_) (fun r => k (.c (.bool r)) []) := he
  refine ⟨rfl, rfl, ?_⟩
  refine loop_model mixed tys_ok t_impl_solvable (S := Int) (I := (fun i => (envOf [(0, .c (.imm (.pair (.sl (.pair (.int .i64) (.int .i64))) (.int .i64)) list_)), (4, .c (.int .i64 i))], []))) (f := impl_solvable_l1 list_) (K := (fun r => k (.c (.bool r)) [])) he (leads_ren [] (l := [(0, .c (.imm (.pair (.sl (.pair (.int .i64) (.int .i64))) (.int .i64)) list_)), (4, .c (.int .i64 (0:Int)))]) (st' := []) rfl rfl trivial ⟨.inl rfl, rfl, trivial⟩) ?_
  rintro i J1 he
  refine And.intro (fun hb => ?_) (fun hb => ?_)
  · have he := ok_t he hb
    obtain ⟨r1_, hr, he⟩ := ok_bind he
    refine ⟨r1_, hr, ?_⟩
    obtain ⟨r2_, hr, he⟩ := ok_bind he
    refine ⟨r2_, hr, ?_⟩
    refine And.intro (fun hb => ?_) (fun hb => ?_)
    · have he := ok_t he hb
      have he := ok_some he
      exact ⟨rfl, _, _, (leads_ren [] (l := [(2, .c (.bool true))]) (st' := []) rfl rfl trivial ⟨.inr rfl, trivial⟩), he⟩
    · have he := ok_f he hb
      have he := ok_rq he
      refine And.intro he.1 ?_
      have he := he.2
      have he := ok_some he
      exact ⟨(i + (1:Int)), he, (leads_ren [] (l := [(0, .c (.imm (.pair (.sl (.pair (.int .i64) (.int .i64))) (.int .i64)) list_)), (4, .c (.int .i64 (i + (1:Int))))]) (st' := []) rfl rfl trivial ⟨.inl rfl, rfl, trivial⟩)⟩
  · have he := ok_f he hb
    have he := ok_some he
    exact ⟨rfl, _, _, Leads.refl _ _, he⟩

noncomputable def c_impl_indices : Con := fun args st => match args, st with
  | [.c (.int .i64 count)], [] => .opt ((List Int)) (impl_indices count) (fun r => .ret (.c (.own 900 false)) [(900, .sl 3 (.int .i64) r .shallow)])
  | _, _ => .fail

noncomputable def C_impl_indices : Cfg := { y := tys, n := 15, h := 0, tab := [], cut := [], hand := [], good := [], deep := [], sched := [] }

theorem t_impl_indices : TabOk Try.prog C_impl_indices := tabOk_of (fun p h => by cases h)

theorem k_impl_indices : Entry Try.prog 96 c_impl_indices := by
  refine entry_by (C := C_impl_indices) mixed tys_ok t_impl_indices (fn := Try.f96) (c := bd Try.f96) (by kernel_rfl) (by kernel_rfl) (by kernel_rfl) (by kernel_rfl) ?_
  intro args st k he
  unfold c_impl_indices at he
  split at he
  rotate_left
  · exact he.elim
  rename_i count
  have he : Ok (impl_indices count) (fun r => k (.c (.own 900 false)) [(900, .sl 3 (.int .i64) r .shallow)]) := he
  refine ⟨rfl, rfl, ?_⟩
  refine loop_model mixed tys_ok t_impl_indices (S := Int × (List Int)) (I := (fun (i, out) => (envOf [(3, .c (.own 10000000 false)), (5, .c (.int .i64 count)), (6, .c (.int .i64 i))], [(10000000, .sl 3 (.int .i64) out .shallow)]))) (f := impl_indices_l1 count) (K := (fun r => k (.c (.own 900 false)) [(900, .sl 3 (.int .i64) r .shallow)])) he (leads_ren [] (l := [(3, .c (.own 10000000 false)), (5, .c (.int .i64 count)), (6, .c (.int .i64 (0:Int)))]) (st' := [(10000000, .sl 3 (.int .i64) ([] : List Int) .shallow)]) rfl rfl ⟨trivial, trivial⟩ ⟨⟨rfl, trivial⟩, rfl, rfl, trivial⟩) ?_
  rintro ⟨i, out⟩ J1 he
  refine And.intro (fun hb => ?_) (fun hb => ?_)
  · have he := ok_t he hb
    have he := ok_rq he
    refine And.intro he.1 ?_
    have he := he.2
    have he := ok_rq he
    refine And.intro he.1 ?_
    have he := he.2
    have he := ok_some he
    exact ⟨((i + (1:Int)), (out ++ [i])), he, (leads_ren [(10000000, 12)] (l := [(3, .c (.own 10000000 false)), (5, .c (.int .i64 count)), (6, .c (.int .i64 (i + (1:Int))))]) (st' := [(10000000, .sl 3 (.int .i64) (out ++ [i]) .shallow)]) rfl rfl ⟨⟨rfl, rfl⟩, trivial⟩ ⟨⟨⟨rfl, rfl⟩, trivial⟩, rfl, rfl, trivial⟩)⟩
  · have he := ok_f he hb
    have he := ok_some he
    exact ⟨rfl, _, _, (leads_ren [(900, 10000000)] (l := [(2, .c (.own 900 false))]) (st' := [(900, .sl 3 (.int .i64) out .shallow)]) rfl rfl ⟨⟨rfl, rfl⟩, trivial⟩ ⟨⟨⟨rfl, rfl⟩, trivial⟩, trivial⟩), he⟩

noncomputable def c_slices_Clone_int : Con := fun args st => match args, st with
  | [.c (.imm (.int .i64) s_)], [] => .opt ((List Int)) (slices_Clone_int s_) (fun r => .ret (.c (.own 900 false)) [(900, .sl 3 (.int .i64) r .shallow)])
  | _, _ => .fail

noncomputable def C_slices_Clone_int : Cfg := { y := tys, n := 8, h := 0, tab := [], cut := [], hand := [], good := [], deep := [], sched := [] }

theorem t_slices_Clone_int : TabOk Try.prog C_slices_Clone_int := tabOk_of (fun p h => by cases h)

theorem k_slices_Clone_int : Entry Try.prog 109 c_slices_Clone_int := by
  refine entry_by (C := C_slices_Clone_int) mixed tys_ok t_slices_Clone_int (fn := Try.f109) (c := bd Try.f109) (by kernel_rfl) (by kernel_rfl) (by kernel_rfl) (by kernel_rfl) ?_
  intro args st k he
  unfold c_slices_Clone_int at he
  split at he
  rotate_left
  · exact he.elim
  rename_i s_
  have he : Ok (slices_Clone_int s_) (fun r => k (.c (.own 900 false)) [(900, .sl 3 (.int .i64) r .shallow)]) := he
  refine ⟨rfl, rfl, ?_⟩
  refine fun b1_ hb1_ => ?_
  have he := ok_nt he hb1_
  refine And.intro (fun hb => ?_) (fun hb => ?_)
  · have he := ok_t he hb
    have he := ok_some he
    exact ⟨rfl, _, _, (leads_ren [] (l := [(2, .c (.own 900 false))]) (st' := [(900, .sl 3 (.int .i64) ([] : List Int) .shallow)]) rfl rfl ⟨trivial, trivial⟩ ⟨⟨rfl, trivial⟩, trivial⟩), he⟩
  · have he := ok_f he hb
    have he := ok_rq he
    refine And.intro he.1 ?_
    have he := he.2
    have he := ok_some he
    exact ⟨rfl, _, _, (leads_ren [(900, 7)] (l := [(2, .c (.own 900 false))]) (st' := [(900, .sl 3 (.int .i64) (([] : List Int) ++ s_) .shallow)]) rfl rfl ⟨⟨rfl, rfl⟩, trivial⟩ ⟨⟨⟨rfl, rfl⟩, trivial⟩, trivial⟩), he⟩

noncomputable def c_impl_without_1 : Con := fun args st => match args, st with
  | [.c (.int .i64 n), .c (.ptr 0 0)], [(0, .rc [.int .i64 o0])] => .opt (Bool) (impl_without_1 n o0) (fun r => .ret (.c (.bool r)) [(0, .rc [.int .i64 o0])])
  | _, _ => .fail

noncomputable def C_impl_without_1 : Cfg := { y := tys, n := 7, h := 1, tab := [], cut := [], hand := [], good := [], deep := [], sched := [] }

theorem t_impl_without_1 : TabOk Try.prog C_impl_without_1 := tabOk_of (fun p h => by cases h)

theorem k_impl_without_1 : Entry Try.prog 147 c_impl_without_1 := by
  refine entry_by (C := C_impl_without_1) mixed tys_ok t_impl_without_1 (fn := Try.f147) (c := bd Try.f147) (by kernel_rfl) (by kernel_rfl) (by kernel_rfl) (by kernel_rfl) ?_
  intro args st k he
  unfold c_impl_without_1 at he
  split at he
  rotate_left
  · exact he.elim
  rename_i n o0
  have he : Ok (impl_without_1 n o0) (fun r => k (.c (.bool r)) [(0, .rc [.int .i64 o0])]) := he
  refine ⟨rfl, rfl, ?_⟩
  have he := ok_some he
  exact ⟨rfl, _, _, (leads_ren [] (l := [(3, .c (.bool (n == o0)))]) (st' := [(0, .rc [.int .i64 o0])]) rfl rfl ⟨⟨rfl, trivial⟩, trivial⟩ ⟨.inl rfl, trivial⟩), he⟩

noncomputable def c_slices_IndexFunc_int__impl_without_1 : Con := fun args st => match args, st with
  | [.c (.imm (.int .i64) s_), .c (.fn 147 [0])], [(0, .rc [.int .i64 o0])] => .opt (Int) (slices_IndexFunc_int__impl_without_1 s_ o0) (fun r => .ret (.c (.int .i64 r)) [(0, .rc [.int .i64 o0])])
  | _, _ => .fail

noncomputable def C_slices_IndexFunc_int__impl_without_1 : Cfg := { y := tys, n := 19, h := 1, tab := [(147, c_impl_without_1)], cut := [], hand := [], good := [], deep := [], sched := [] }

theorem t_slices_IndexFunc_int__impl_without_1 : TabOk Try.prog C_slices_IndexFunc_int__impl_without_1 := by
  refine tabOk_of ?_
  simp only [C_slices_IndexFunc_int__impl_without_1, List.forall_mem_cons]
  exact ⟨k_impl_without_1, fun p h => by cases h⟩

theorem k_slices_IndexFunc_int__impl_without_1 : Entry Try.prog 145 c_slices_IndexFunc_int__impl_without_1 := by
  refine entry_by (C := C_slices_IndexFunc_int__impl_without_1) mixed tys_ok t_slices_IndexFunc_int__impl_without_1 (fn := Try.f145) (c := bd Try.f145) (by kernel_rfl) (by kernel_rfl) (by kernel_rfl) (by kernel_rfl) ?_
  intro args st k he
  unfold c_slices_IndexFunc_int__impl_without_1 at he
  split at he
  rotate_left
  · exact he.elim
  rename_i s_ o0
  have he : Ok (slices_IndexFunc_int__impl_without_1 s_ o0) (fun r => k (.c (.int .i64 r)) [(0, .rc [.int .i64 o0])]) := he
  refine ⟨rfl, rfl, ?_⟩
  refine loop_model mixed tys_ok t_slices_IndexFunc_int__impl_without_1 (S := Int) (I := (fun i => (envOf [(0, .c (.imm (.int .i64) s_)), (1, .c (.fn 147 [0])), (7, .c (.int .i64 (s_.length:Int))), (8, .c (.int .i64 i))], [(0, .rc [.int .i64 o0])]))) (f := slices_IndexFunc_int__impl_without_1_l1 s_ o0) (K := (fun r => k (.c (.int .i64 r)) [(0, .rc [.int .i64 o0])])) he (leads_ren [] (l := [(0, .c (.imm (.int .i64) s_)), (1, .c (.fn 147 [0])), (7, .c (.int .i64 (s_.length:Int))), (8, .c (.int .i64 (0:Int)))]) (st' := [(0, .rc [.int .i64 o0])]) rfl rfl ⟨⟨rfl, trivial⟩, trivial⟩ ⟨.inl rfl, ⟨rfl, ⟨⟨rfl, rfl⟩, trivial⟩⟩, rfl, rfl, trivial⟩) ?_
  rintro i J1 he
  refine And.intro (fun hb => ?_) (fun hb => ?_)
  · have he := ok_t he hb
    have he := ok_rq he
    refine And.intro he.1 ?_
    have he := he.2
    obtain ⟨r1_, hr, he⟩ := ok_bind he
    refine ⟨r1_, hr, ?_⟩
    refine And.intro (fun hb => ?_) (fun hb => ?_)
    · have he := ok_t he hb
      have he := ok_some he
      exact ⟨rfl, _, _, (leads_ren [] (l := [(4, .c (.int .i64 i))]) (st' := [(0, .rc [.int .i64 o0])]) rfl rfl ⟨⟨rfl, trivial⟩, trivial⟩ ⟨rfl, trivial⟩), he⟩
    · have he := ok_f he hb
      have he := ok_rq he
      refine And.intro he.1 ?_
      have he := he.2
      have he := ok_some he
      exact ⟨(i + (1:Int)), he, (leads_ren [] (l := [(0, .c (.imm (.int .i64) s_)), (1, .c (.fn 147 [0])), (7, .c (.int .i64 (s_.length:Int))), (8, .c (.int .i64 (i + (1:Int))))]) (st' := [(0, .rc [.int .i64 o0])]) rfl rfl ⟨⟨rfl, trivial⟩, trivial⟩ ⟨.inl rfl, ⟨rfl, ⟨⟨rfl, rfl⟩, trivial⟩⟩, rfl, rfl, trivial⟩)⟩
  · have he := ok_f he hb
    have he := ok_some he
    exact ⟨rfl, _, _, (leads_ren [] (l := [(4, .c (.int .i64 (-1:Int)))]) (st' := [(0, .rc [.int .i64 o0])]) rfl rfl ⟨⟨rfl, trivial⟩, trivial⟩ ⟨rfl, trivial⟩), he⟩

noncomputable def c_slices_DeleteFunc_int__impl_without_1 : Con := fun args st => match args, st with
  | [.c (.own 1 false), .c (.fn 147 [0])], [(0, .rc [.int .i64 o0]), (1, .sl 3 (.int .i64) s_ .shallow)] => .opt ((List Int)) (slices_DeleteFunc_int__impl_without_1 o0 s_) (fun r => .ret (.c (.own 900 false)) [(0, .rc [.int .i64 o0]), (1, .dead), (900, .sl 3 (.int .i64) r .shallow)])
  | _, _ => .fail

noncomputable def C_slices_DeleteFunc_int__impl_without_1 : Cfg := { y := tys, n := 42, h := 2, tab := [(145, c_slices_IndexFunc_int__impl_without_1), (147, c_impl_without_1)], cut := [11], hand := [], good := [], deep := [], sched := [] }

theorem t_slices_DeleteFunc_int__impl_without_1 : TabOk Try.prog C_slices_DeleteFunc_int__impl_without_1 := by
  refine tabOk_of ?_
  simp only [C_slices_DeleteFunc_int__impl_without_1, List.forall_mem_cons]
  exact ⟨k_slices_IndexFunc_int__impl_without_1, k_impl_without_1, fun p h => by cases h⟩

theorem k_slices_DeleteFunc_int__impl_without_1 : Entry Try.prog 146 c_slices_DeleteFunc_int__impl_without_1 := by
  refine entry_by (C := C_slices_DeleteFunc_int__impl_without_1) mixed tys_ok t_slices_DeleteFunc_int__impl_without_1 (fn := Try.f146) (c := bd Try.f146) (by kernel_rfl) (by kernel_rfl) (by kernel_rfl) (by kernel_rfl) ?_
  intro args st k he
  unfold c_slices_DeleteFunc_int__impl_without_1 at he
  split at he
  rotate_left
  · exact he.elim
  rename_i o0 s_
  have he : Ok (slices_DeleteFunc_int__impl_without_1 o0 s_) (fun r => k (.c (.own 900 false)) [(0, .rc [.int .i64 o0]), (1, .dead), (900, .sl 3 (.int .i64) r .shallow)]) := he
  refine ⟨rfl, rfl, ?_⟩
  obtain ⟨r1_, hr, he⟩ := ok_bind he
  refine ⟨r1_, hr, ?_⟩
  refine And.intro (fun hb => ?_) (fun hb => ?_)
  · have he := ok_t he hb
    have he := ok_some he
    exact ⟨rfl, _, _, (leads_ren [(900, 1)] (l := [(4, .c (.own 900 false))]) (st' := [(0, .rc [.int .i64 o0]), (1, .dead), (900, .sl 3 (.int .i64) s_ .shallow)]) rfl rfl ⟨⟨rfl, trivial⟩, trivial, ⟨rfl, rfl⟩, trivial⟩ ⟨⟨⟨rfl, rfl⟩, trivial⟩, trivial⟩), he⟩
  · have he := ok_f he hb
    refine seq_model mixed tys_ok t_slices_DeleteFunc_int__impl_without_1 (S := Int × (List Int)) (I := (fun (i1, s_2) => (envOf [(0, .c (.own 1 false)), (5, .c (.int .i64 i1))], [(0, .rc [.int .i64 o0]), (1, .sl 3 (.int .i64) s_2 .shallow)]))) (B := fun s => Ok (slices_DeleteFunc_int__impl_without_1_j1 s) (fun r => k (.c (.own 900 false)) [(0, .rc [.int .i64 o0]), (1, .dead), (900, .sl 3 (.int .i64) r .shallow)])) ?_ ?_
    · rintro ⟨i1, s_2⟩ he
      have he := ok_rq he
      refine And.intro he.1 ?_
      have he := he.2
      have he := ok_rq he
      refine And.intro he.1 ?_
      have he := he.2
      have he := ok_some he
      exact ⟨rfl, _, _, (leads_ren [(900, 41)] (l := [(4, .c (.own 900 false))]) (st' := [(0, .rc [.int .i64 o0]), (1, .dead), (900, .sl 3 (.int .i64) ((s_2.take i1.toNat ++ List.replicate (s_2.length - i1.toNat) (0:Int)).take i1.toNat) .shallow)]) rfl rfl ⟨⟨rfl, trivial⟩, trivial, ⟨rfl, rfl⟩, trivial⟩ ⟨⟨⟨rfl, rfl⟩, trivial⟩, trivial⟩), he⟩
    · skip
      have he := ok_rq he
      refine And.intro he.1 ?_
      have he := he.2
      refine loop_model mixed tys_ok t_slices_DeleteFunc_int__impl_without_1 (S := Int × Int × (List Int)) (I := (fun (i, j, s_1) => (envOf [(0, .c (.own 1 false)), (1, .c (.fn 147 [0])), (5, .c (.int .i64 i)), (6, .c (.int .i64 j))], [(0, .rc [.int .i64 o0]), (1, .sl 3 (.int .i64) s_1 .shallow)]))) (f := slices_DeleteFunc_int__impl_without_1_l1 o0) (K := (fun r => k (.c (.own 900 false)) [(0, .rc [.int .i64 o0]), (1, .dead), (900, .sl 3 (.int .i64) r .shallow)])) he (leads_ren [] (l := [(0, .c (.own 1 false)), (1, .c (.fn 147 [0])), (5, .c (.int .i64 r1_)), (6, .c (.int .i64 (r1_ + (1:Int))))]) (st' := [(0, .rc [.int .i64 o0]), (1, .sl 3 (.int .i64) s_ .shallow)]) rfl rfl ⟨⟨rfl, trivial⟩, ⟨rfl, rfl⟩, trivial⟩ ⟨⟨⟨rfl, rfl⟩, trivial⟩, ⟨rfl, ⟨⟨rfl, rfl⟩, trivial⟩⟩, rfl, rfl, trivial⟩) ?_
      rintro ⟨i, j, s_1⟩ J1 he
      refine And.intro (fun hb => ?_) (fun hb => ?_)
      · have he := ok_t he hb
        have he := ok_rq he
        refine And.intro he.1 ?_
        have he := he.2
        obtain ⟨r3_, hr, he⟩ := ok_bind he
        refine ⟨r3_, hr, ?_⟩
        refine And.intro (fun hb => ?_) (fun hb => ?_)
        · have he := ok_t he hb
          have he := ok_rq he
          refine And.intro he.1 ?_
          have he := he.2
          have he := ok_rq he
          refine And.intro he.1 ?_
          have he := he.2
          have he := ok_rq he
          refine And.intro he.1 ?_
          have he := he.2
          have he := ok_some he
          exact ⟨((i + (1:Int)), (j + (1:Int)), (s_1.set i.toNat (s_1.getD j.toNat 0))), he, (leads_ren [] (l := [(0, .c (.own 1 false)), (1, .c (.fn 147 [0])), (5, .c (.int .i64 (i + (1:Int)))), (6, .c (.int .i64 (j + (1:Int))))]) (st' := [(0, .rc [.int .i64 o0]), (1, .sl 3 (.int .i64) (s_1.set i.toNat (s_1.getD j.toNat 0)) .shallow)]) rfl rfl ⟨⟨rfl, trivial⟩, ⟨rfl, rfl⟩, trivial⟩ ⟨⟨⟨rfl, rfl⟩, trivial⟩, ⟨rfl, ⟨⟨rfl, rfl⟩, trivial⟩⟩, rfl, rfl, trivial⟩)⟩
        · have he := ok_f he hb
          have he := ok_rq he
          refine And.intro he.1 ?_
          have he := he.2
          have he := ok_some he
          exact ⟨(i, (j + (1:Int)), s_1), he, (leads_ren [] (l := [(0, .c (.own 1 false)), (1, .c (.fn 147 [0])), (5, .c (.int .i64 i)), (6, .c (.int .i64 (j + (1:Int))))]) (st' := [(0, .rc [.int .i64 o0]), (1, .sl 3 (.int .i64) s_1 .shallow)]) rfl rfl ⟨⟨rfl, trivial⟩, ⟨rfl, rfl⟩, trivial⟩ ⟨⟨⟨rfl, rfl⟩, trivial⟩, ⟨rfl, ⟨⟨rfl, rfl⟩, trivial⟩⟩, rfl, rfl, trivial⟩)⟩
      · have he := ok_f he hb
        exact ⟨(i, s_1), ok_up he, (leads_ren [] (l := [(0, .c (.own 1 false)), (5, .c (.int .i64 i))]) (st' := [(0, .rc [.int .i64 o0]), (1, .sl 3 (.int .i64) s_1 .shallow)]) rfl rfl ⟨⟨rfl, trivial⟩, ⟨rfl, rfl⟩, trivial⟩ ⟨⟨⟨rfl, rfl⟩, trivial⟩, rfl, trivial⟩)⟩

noncomputable def c_impl_without : Con := fun args st => match args, st with
  | [.c (.imm (.int .i64) list_), .c (.int .i64 k_)], [] => .opt ((List Int)) (impl_without list_ k_) (fun r => .ret (.c (.own 900 false)) [(900, .sl 3 (.int .i64) r .shallow)])
  | _, _ => .fail

noncomputable def C_impl_without : Cfg := { y := tys, n := 9, h := 0, tab := [(109, c_slices_Clone_int), (146, c_slices_DeleteFunc_int__impl_without_1)], cut := [], hand := [(146, [0])], good := [], deep := [], sched := [] }

theorem t_impl_without : TabOk Try.prog C_impl_without := by
  refine tabOk_of ?_
  simp only [C_impl_without, List.forall_mem_cons]
  exact ⟨k_slices_Clone_int, k_slices_DeleteFunc_int__impl_without_1, fun p h => by cases h⟩

theorem k_impl_without : Entry Try.prog 99 c_impl_without := by
  refine entry_by (C := C_impl_without) mixed tys_ok t_impl_without (fn := Try.f99) (c := bd Try.f99) (by kernel_rfl) (by kernel_rfl) (by kernel_rfl) (by kernel_rfl) ?_
  intro args st k he
  unfold c_impl_without at he
  split at he
  rotate_left
  · exact he.elim
  rename_i list_ k_
  have he : Ok (impl_without list_ k_) (fun r => k (.c (.own 900 false)) [(900, .sl 3 (.int .i64) r .shallow)]) := he
  refine ⟨rfl, rfl, ?_⟩
  obtain ⟨r1_, hr, he⟩ := ok_bind he
  refine ⟨r1_, hr, ?_⟩
  obtain ⟨r2_, hr, he⟩ := ok_bind he
  refine ⟨r2_, hr, ?_⟩
  have he := ok_some he
  exact ⟨rfl, _, _, (leads_ren [(900, 9900)] (l := [(4, .c (.own 900 false))]) (st' := [(900, .sl 3 (.int .i64) r2_ .shallow)]) rfl rfl ⟨⟨rfl, rfl⟩, trivial⟩ ⟨⟨⟨rfl, rfl⟩, trivial⟩, trivial⟩), he⟩

noncomputable def c_impl_partOf : Con := fun args st => match args, st with
  | [.c (.imm (.pair (.sl (.pair (.int .i64) (.int .i64))) (.int .i64)) list_), .c (.imm (.int .i64) keep)], [] => .opt ((List ((List (Int × Int)) × Int))) (impl_partOf list_ keep) (fun r => .ret (.c (.own 900 false)) [(900, .sl 73 (.pair (.sl (.pair (.int .i64) (.int .i64))) (.int .i64)) r .shallow)])
  | _, _ => .fail

noncomputable def C_impl_partOf : Cfg := { y := tys, n := 23, h := 0, tab := [], cut := [], hand := [], good := [], deep := [], sched := [] }

theorem t_impl_partOf : TabOk Try.prog C_impl_partOf := tabOk_of (fun p h => by cases h)

theorem k_impl_partOf : Entry Try.prog 73 c_impl_partOf := by
  refine entry_by (C := C_impl_partOf) mixed tys_ok t_impl_partOf (fn := Try.f73) (c := bd Try.f73) (by kernel_rfl) (by kernel_rfl) (by kernel_rfl) (by kernel_rfl) ?_
  intro args st k he
  unfold c_impl_partOf at he
  split at he
  rotate_left
  · exact he.elim
  rename_i list_ keep
  have he : Ok (impl_partOf list_ keep) (fun r => k (.c (.own 900 false)) [(900, .sl 73 (.pair (.sl (.pair (.int .i64) (.int .i64))) (.int .i64)) r .shallow)]) := he
  refine ⟨rfl, rfl, ?_⟩
  refine loop_model mixed tys_ok t_impl_partOf (S := Int × (List ((List (Int × Int)) × Int))) (I := (fun (i, out) => (envOf [(0, .c (.imm (.pair (.sl (.pair (.int .i64) (.int .i64))) (.int .i64)) list_)), (5, .c (.own 10000000 false)), (8, .c (.imm (.int .i64) keep)), (9, .c (.int .i64 (keep.length:Int))), (10, .c (.int .i64 i))], [(10000000, .sl 73 (.pair (.sl (.pair (.int .i64) (.int .i64))) (.int .i64)) out .shallow)]))) (f := impl_partOf_l1 list_ keep) (K := (fun r => k (.c (.own 900 false)) [(900, .sl 73 (.pair (.sl (.pair (.int .i64) (.int .i64))) (.int .i64)) r .shallow)])) he (leads_ren [] (l := [(0, .c (.imm (.pair (.sl (.pair (.int .i64) (.int .i64))) (.int .i64)) list_)), (5, .c (.own 10000000 false)), (8, .c (.imm (.int .i64) keep)), (9, .c (.int .i64 (keep.length:Int))), (10, .c (.int .i64 (0:Int)))]) (st' := [(10000000, .sl 73 (.pair (.sl (.pair (.int .i64) (.int .i64))) (.int .i64)) ([] : List ((List (Int × Int)) × Int)) .shallow)]) rfl rfl ⟨trivial, trivial⟩ ⟨.inl rfl, ⟨rfl, trivial⟩, .inl rfl, rfl, rfl, trivial⟩) ?_
  rintro ⟨i, out⟩ J1 he
  refine And.intro (fun hb => ?_) (fun hb => ?_)
  · have he := ok_t he hb
    have he := ok_rq he
    refine And.intro he.1 ?_
    have he := he.2
    have he := ok_rq he
    refine And.intro he.1 ?_
    have he := he.2
    have he := ok_rq he
    refine And.intro he.1 ?_
    have he := he.2
    have he := ok_rq he
    refine And.intro he.1 ?_
    have he := he.2
    have he := ok_some he
    exact ⟨((i + (1:Int)), (out ++ [(list_.getD (keep.getD i.toNat 0).toNat ([], 0))])), he, (leads_ren [(10000000, 20)] (l := [(0, .c (.imm (.pair (.sl (.pair (.int .i64) (.int .i64))) (.int .i64)) list_)), (5, .c (.own 10000000 false)), (8, .c (.imm (.int .i64) keep)), (9, .c (.int .i64 (keep.length:Int))), (10, .c (.int .i64 (i + (1:Int))))]) (st' := [(10000000, .sl 73 (.pair (.sl (.pair (.int .i64) (.int .i64))) (.int .i64)) (out ++ [(list_.getD (keep.getD i.toNat 0).toNat ([], 0))]) .shallow)]) rfl rfl ⟨⟨rfl, rfl⟩, trivial⟩ ⟨.inl rfl, ⟨⟨rfl, rfl⟩, trivial⟩, .inl rfl, rfl, rfl, trivial⟩)⟩
  · have he := ok_f he hb
    have he := ok_some he
    exact ⟨rfl, _, _, (leads_ren [(900, 10000000)] (l := [(4, .c (.own 900 false))]) (st' := [(900, .sl 73 (.pair (.sl (.pair (.int .i64) (.int .i64))) (.int .i64)) out .shallow)]) rfl rfl ⟨⟨rfl, rfl⟩, trivial⟩ ⟨⟨⟨rfl, rfl⟩, trivial⟩, trivial⟩), he⟩

noncomputable def c_impl_CoreMinimal_1__rRs : Con := fun args st => match args, st with
  | [.c (.int .i64 k_), .c (.ptr 0 0), .c (.ptr 1 0)], [(0, .rc [.imm (.pair (.sl (.pair (.int .i64) (.int .i64))) (.int .i64)) o0]), (1, .rc [.own 2 false]), (2, .sl 3 (.int .i64) o2 .shallow)] => .opt (Bool) (impl_CoreMinimal_1__rRs k_ o0 o2) (fun r => .ret (.c (.bool r)) [(0, .rc [.imm (.pair (.sl (.pair (.int .i64) (.int .i64))) (.int .i64)) o0]), (1, .rc [.own 2 false]), (2, .sl 3 (.int .i64) o2 .shallow)])
  | _, _ => .fail

noncomputable def C_impl_CoreMinimal_1__rRs : Cfg := { y := tys, n := 12, h := 3, tab := [(73, c_impl_partOf), (95, c_impl_solvable), (99, c_impl_without)], cut := [], hand := [], good := [73], deep := [], sched := [(1, (.first 2 (.alt 0 (.alt 1 (.alt 3 (.alt 4 (.alt 5 (.first 6 (.first 7 .done)) .stop) .stop) .stop) .stop) (.alt 1 (.alt 0 (.alt 3 (.alt 4 (.alt 5 (.first 6 (.first 7 .done)) .stop) .stop) .stop) (.alt 3 (.alt 0 (.alt 4 (.alt 5 (.first 6 (.first 7 .done)) .stop) .stop) .stop) .stop)) .stop))))] }

theorem t_impl_CoreMinimal_1__rRs : TabOk Try.prog C_impl_CoreMinimal_1__rRs := by
  refine tabOk_of ?_
  simp only [C_impl_CoreMinimal_1__rRs, List.forall_mem_cons]
  exact ⟨k_impl_partOf, k_impl_solvable, k_impl_without, fun p h => by cases h⟩

theorem k_impl_CoreMinimal_1__rRs : Entry Try.prog 98 c_impl_CoreMinimal_1__rRs := by
  refine entry_by (C := C_impl_CoreMinimal_1__rRs) mixed tys_ok t_impl_CoreMinimal_1__rRs (fn := Try.f98) (c := bd Try.f98) (by kernel_rfl) (by kernel_rfl) (by kernel_rfl) (by kernel_rfl) ?_
  intro args st k he
  unfold c_impl_CoreMinimal_1__rRs at he
  split at he
  rotate_left
  · exact he.elim
  rename_i k_ o0 o2
  have he : Ok (impl_CoreMinimal_1__rRs k_ o0 o2) (fun r => k (.c (.bool r)) [(0, .rc [.imm (.pair (.sl (.pair (.int .i64) (.int .i64))) (.int .i64)) o0]), (1, .rc [.own 2 false]), (2, .sl 3 (.int .i64) o2 .shallow)]) := he
  refine ⟨rfl, rfl, ?_⟩
  refine And.intro (by kernel_rfl) ?_
  obtain ⟨r4_, hq1, he⟩ := ok_bind he
  obtain ⟨r5_, hq2, he⟩ := ok_bind he
  obtain ⟨r6_, hq3, he⟩ := ok_bind he
  refine And.intro ?_ (And.intro ?_ (trivial))
  · skip
    refine And.intro ?_ trivial
    refine And.intro ?_ trivial
    refine ⟨r4_, hq1, ?_⟩
    refine And.intro ?_ trivial
    refine ⟨r5_, hq2, ?_⟩
    refine And.intro ?_ trivial
    refine ⟨r6_, hq3, ?_⟩
    have he := ok_some he
    exact ⟨rfl, _, _, (leads_ren [] (l := [(4, .c (.bool (!r6_)))]) (st' := [(0, .rc [.imm (.pair (.sl (.pair (.int .i64) (.int .i64))) (.int .i64)) o0]), (1, .rc [.own 2 false]), (2, .sl 3 (.int .i64) o2 .shallow)]) rfl rfl ⟨⟨.inl rfl, trivial⟩, ⟨⟨⟨rfl, rfl⟩, trivial⟩, trivial⟩, ⟨rfl, rfl⟩, trivial⟩ ⟨.inl rfl, trivial⟩), he⟩
  · skip
    refine And.intro ?_ (And.intro ?_ (trivial))
    · skip
      refine And.intro ?_ trivial
      refine ⟨r4_, hq1, ?_⟩
      refine And.intro ?_ trivial
      refine ⟨r5_, hq2, ?_⟩
      refine And.intro ?_ trivial
      refine ⟨r6_, hq3, ?_⟩
      have he := ok_some he
      exact ⟨rfl, _, _, (leads_ren [] (l := [(4, .c (.bool (!r6_)))]) (st' := [(0, .rc [.imm (.pair (.sl (.pair (.int .i64) (.int .i64))) (.int .i64)) o0]), (1, .rc [.own 2 false]), (2, .sl 3 (.int .i64) o2 .shallow)]) rfl rfl ⟨⟨.inl rfl, trivial⟩, ⟨⟨⟨rfl, rfl⟩, trivial⟩, trivial⟩, ⟨rfl, rfl⟩, trivial⟩ ⟨.inl rfl, trivial⟩), he⟩
    · skip
      refine ⟨r4_, hq1, ?_⟩
      refine And.intro ?_ trivial
      refine And.intro ?_ trivial
      refine ⟨r5_, hq2, ?_⟩
      refine And.intro ?_ trivial
      refine ⟨r6_, hq3, ?_⟩
      have he := ok_some he
      exact ⟨rfl, _, _, (leads_ren [] (l := [(4, .c (.bool (!r6_)))]) (st' := [(0, .rc [.imm (.pair (.sl (.pair (.int .i64) (.int .i64))) (.int .i64)) o0]), (1, .rc [.own 2 false]), (2, .sl 3 (.int .i64) o2 .shallow)]) rfl rfl ⟨⟨.inl rfl, trivial⟩, ⟨⟨⟨rfl, rfl⟩, trivial⟩, trivial⟩, ⟨rfl, rfl⟩, trivial⟩ ⟨.inl rfl, trivial⟩), he⟩

noncomputable def c_slices_IndexFunc_int__impl_CoreMinimal_1__rRs : Con := fun args st => match args, st with
  | [.c (.own 2 false), .c (.fn 98 [0, 1])], [(0, .rc [.imm (.pair (.sl (.pair (.int .i64) (.int .i64))) (.int .i64)) o0]), (1, .rc [.own 2 false]), (2, .sl 3 (.int .i64) s_ .shallow)] => .opt (Int) (slices_IndexFunc_int__impl_CoreMinimal_1__rRs o0 s_) (fun r => .ret (.c (.int .i64 r)) [(0, .rc [.imm (.pair (.sl (.pair (.int .i64) (.int .i64))) (.int .i64)) o0]), (1, .rc [.own 2 false]), (2, .sl 3 (.int .i64) s_ .shallow)])
  | _, _ => .fail

noncomputable def C_slices_IndexFunc_int__impl_CoreMinimal_1__rRs : Cfg := { y := tys, n := 19, h := 3, tab := [(98, c_impl_CoreMinimal_1__rRs)], cut := [], hand := [], good := [], deep := [], sched := [] }

theorem t_slices_IndexFunc_int__impl_CoreMinimal_1__rRs : TabOk Try.prog C_slices_IndexFunc_int__impl_CoreMinimal_1__rRs := by
  refine tabOk_of ?_
  simp only [C_slices_IndexFunc_int__impl_CoreMinimal_1__rRs, List.forall_mem_cons]
  exact ⟨k_impl_CoreMinimal_1__rRs, fun p h => by cases h⟩

theorem k_slices_IndexFunc_int__impl_CoreMinimal_1__rRs : Entry Try.prog 145 c_slices_IndexFunc_int__impl_CoreMinimal_1__rRs := by
  refine entry_by (C := C_slices_IndexFunc_int__impl_CoreMinimal_1__rRs) mixed tys_ok t_slices_IndexFunc_int__impl_CoreMinimal_1__rRs (fn := Try.f145) (c := bd Try.f145) (by kernel_rfl) (by kernel_rfl) (by kernel_rfl) (by kernel_rfl) ?_
  intro args st k he
  unfold c_slices_IndexFunc_int__impl_CoreMinimal_1__rRs at he
  split at he
  rotate_left
  · exact he.elim
  rename_i o0 s_
  have he : Ok (slices_IndexFunc_int__impl_CoreMinimal_1__rRs o0 s_) (fun r => k (.c (.int .i64 r)) [(0, .rc [.imm (.pair (.sl (.pair (.int .i64) (.int .i64))) (.int .i64)) o0]), (1, .rc [.own 2 false]), (2, .sl 3 (.int .i64) s_ .shallow)]) := he
  refine ⟨rfl, rfl, ?_⟩
  refine loop_model mixed tys_ok t_slices_IndexFunc_int__impl_CoreMinimal_1__rRs (S := Int) (I := (fun i => (envOf [(0, .c (.own 2 false)), (1, .c (.fn 98 [0, 1])), (7, .c (.int .i64 (s_.length:Int))), (8, .c (.int .i64 i))], [(0, .rc [.imm (.pair (.sl (.pair (.int .i64) (.int .i64))) (.int .i64)) o0]), (1, .rc [.own 2 false]), (2, .sl 3 (.int .i64) s_ .shallow)]))) (f := slices_IndexFunc_int__impl_CoreMinimal_1__rRs_l1 o0 s_) (K := (fun r => k (.c (.int .i64 r)) [(0, .rc [.imm (.pair (.sl (.pair (.int .i64) (.int .i64))) (.int .i64)) o0]), (1, .rc [.own 2 false]), (2, .sl 3 (.int .i64) s_ .shallow)])) he (leads_ren [] (l := [(0, .c (.own 2 false)), (1, .c (.fn 98 [0, 1])), (7, .c (.int .i64 (s_.length:Int))), (8, .c (.int .i64 (0:Int)))]) (st' := [(0, .rc [.imm (.pair (.sl (.pair (.int .i64) (.int .i64))) (.int .i64)) o0]), (1, .rc [.own 2 false]), (2, .sl 3 (.int .i64) s_ .shallow)]) rfl rfl ⟨⟨.inl rfl, trivial⟩, ⟨⟨⟨rfl, rfl⟩, trivial⟩, trivial⟩, ⟨rfl, rfl⟩, trivial⟩ ⟨⟨⟨rfl, rfl⟩, trivial⟩, ⟨rfl, ⟨⟨rfl, rfl⟩, ⟨⟨rfl, rfl⟩, trivial⟩⟩⟩, rfl, rfl, trivial⟩) ?_
  rintro i J1 he
  refine And.intro (fun hb => ?_) (fun hb => ?_)
  · have he := ok_t he hb
    have he := ok_rq he
    refine And.intro he.1 ?_
    have he := he.2
    obtain ⟨r1_, hr, he⟩ := ok_bind he
    refine ⟨r1_, hr, ?_⟩
    refine And.intro (fun hb => ?_) (fun hb => ?_)
    · have he := ok_t he hb
      have he := ok_some he
      exact ⟨rfl, _, _, (leads_ren [] (l := [(4, .c (.int .i64 i))]) (st' := [(0, .rc [.imm (.pair (.sl (.pair (.int .i64) (.int .i64))) (.int .i64)) o0]), (1, .rc [.own 2 false]), (2, .sl 3 (.int .i64) s_ .shallow)]) rfl rfl ⟨⟨.inl rfl, trivial⟩, ⟨⟨⟨rfl, rfl⟩, trivial⟩, trivial⟩, ⟨rfl, rfl⟩, trivial⟩ ⟨rfl, trivial⟩), he⟩
    · have he := ok_f he hb
      have he := ok_rq he
      refine And.intro he.1 ?_
      have he := he.2
      have he := ok_some he
      exact ⟨(i + (1:Int)), he, (leads_ren [] (l := [(0, .c (.own 2 false)), (1, .c (.fn 98 [0, 1])), (7, .c (.int .i64 (s_.length:Int))), (8, .c (.int .i64 (i + (1:Int))))]) (st' := [(0, .rc [.imm (.pair (.sl (.pair (.int .i64) (.int .i64))) (.int .i64)) o0]), (1, .rc [.own 2 false]), (2, .sl 3 (.int .i64) s_ .shallow)]) rfl rfl ⟨⟨.inl rfl, trivial⟩, ⟨⟨⟨rfl, rfl⟩, trivial⟩, trivial⟩, ⟨rfl, rfl⟩, trivial⟩ ⟨⟨⟨rfl, rfl⟩, trivial⟩, ⟨rfl, ⟨⟨rfl, rfl⟩, ⟨⟨rfl, rfl⟩, trivial⟩⟩⟩, rfl, rfl, trivial⟩)⟩
  · have he := ok_f he hb
    have he := ok_some he
    exact ⟨rfl, _, _, (leads_ren [] (l := [(4, .c (.int .i64 (-1:Int)))]) (st' := [(0, .rc [.imm (.pair (.sl (.pair (.int .i64) (.int .i64))) (.int .i64)) o0]), (1, .rc [.own 2 false]), (2, .sl 3 (.int .i64) s_ .shallow)]) rfl rfl ⟨⟨.inl rfl, trivial⟩, ⟨⟨⟨rfl, rfl⟩, trivial⟩, trivial⟩, ⟨rfl, rfl⟩, trivial⟩ ⟨rfl, trivial⟩), he⟩

noncomputable def c_slices_ContainsFunc_int__impl_CoreMinimal_1__rRs : Con := fun args st => match args, st with
  | [.c (.own 2 false), .c (.fn 98 [0, 1])], [(0, .rc [.imm (.pair (.sl (.pair (.int .i64) (.int .i64))) (.int .i64)) o0]), (1, .rc [.own 2 false]), (2, .sl 3 (.int .i64) s_ .shallow)] => .opt (Bool) (slices_ContainsFunc_int__impl_CoreMinimal_1__rRs o0 s_) (fun r => .ret (.c (.bool r)) [(0, .rc [.imm (.pair (.sl (.pair (.int .i64) (.int .i64))) (.int .i64)) o0]), (1, .rc [.own 2 false]), (2, .sl 3 (.int .i64) s_ .shallow)])
  | _, _ => .fail

noncomputable def C_slices_ContainsFunc_int__impl_CoreMinimal_1__rRs : Cfg := { y := tys, n := 9, h := 3, tab := [(145, c_slices_IndexFunc_int__impl_CoreMinimal_1__rRs)], cut := [], hand := [], good := [], deep := [], sched := [] }

theorem t_slices_ContainsFunc_int__impl_CoreMinimal_1__rRs : TabOk Try.prog C_slices_ContainsFunc_int__impl_CoreMinimal_1__rRs := by
  refine tabOk_of ?_
  simp only [C_slices_ContainsFunc_int__impl_CoreMinimal_1__rRs, List.forall_mem_cons]
  exact ⟨k_slices_IndexFunc_int__impl_CoreMinimal_1__rRs, fun p h => by cases h⟩

theorem k_slices_ContainsFunc_int__impl_CoreMinimal_1__rRs : Entry Try.prog 97 c_slices_ContainsFunc_int__impl_CoreMinimal_1__rRs := by
  refine entry_by (C := C_slices_ContainsFunc_int__impl_CoreMinimal_1__rRs) mixed tys_ok t_slices_ContainsFunc_int__impl_CoreMinimal_1__rRs (fn := Try.f97) (c := bd Try.f97) (by kernel_rfl) (by kernel_rfl) (by kernel_rfl) (by kernel_rfl) ?_
  intro args st k he
  unfold c_slices_ContainsFunc_int__impl_CoreMinimal_1__rRs at he
  split at he
  rotate_left
  · exact he.elim
  rename_i o0 s_
  have he : Ok (slices_ContainsFunc_int__impl_CoreMinimal_1__rRs o0 s_) (fun r => k (.c (.bool r)) [(0, .rc [.imm (.pair (.sl (.pair (.int .i64) (.int .i64))) (.int .i64)) o0]), (1, .rc [.own 2 false]), (2, .sl 3 (.int .i64) s_ .shallow)]) := he
  refine ⟨rfl, rfl, ?_⟩
  obtain ⟨r1_, hr, he⟩ := ok_bind he
  refine ⟨r1_, hr, ?_⟩
  have he := ok_some he
  exact ⟨rfl, _, _, (leads_ren [] (l := [(4, .c (.bool (decide ((0:Int) ≤ r1_))))]) (st' := [(0, .rc [.imm (.pair (.sl (.pair (.int .i64) (.int .i64))) (.int .i64)) o0]), (1, .rc [.own 2 false]), (2, .sl 3 (.int .i64) s_ .shallow)]) rfl rfl ⟨⟨.inl rfl, trivial⟩, ⟨⟨⟨rfl, rfl⟩, trivial⟩, trivial⟩, ⟨rfl, rfl⟩, trivial⟩ ⟨.inl rfl, trivial⟩), he⟩

noncomputable def c_impl_CoreMinimal : Con := fun args st => match args, st with
  | [.c (.imm (.pair (.sl (.pair (.int .i64) (.int .i64))) (.int .i64)) list_)], [] => .opt (Bool) (impl_CoreMinimal list_) (fun r => .ret (.c (.bool r)) [])
  | _, _ => .fail

noncomputable def C_impl_CoreMinimal : Cfg := { y := tys, n := 18, h := 0, tab := [(61, c_impl_ProblemValid), (95, c_impl_solvable), (96, c_impl_indices), (97, c_slices_ContainsFunc_int__impl_CoreMinimal_1__rRs)], cut := [], hand := [], good := [], deep := [], sched := [] }

theorem t_impl_CoreMinimal : TabOk Try.prog C_impl_CoreMinimal := by
  refine tabOk_of ?_
  simp only [C_impl_CoreMinimal, List.forall_mem_cons]
  exact ⟨k_impl_ProblemValid, k_impl_solvable, k_impl_indices, k_slices_ContainsFunc_int__impl_CoreMinimal_1__rRs, fun p h => by cases h⟩

theorem k_impl_CoreMinimal : Entry Try.prog 41 c_impl_CoreMinimal := by
  refine entry_by (C := C_impl_CoreMinimal) mixed tys_ok t_impl_CoreMinimal (fn := Try.f41) (c := bd Try.f41) (by kernel_rfl) (by kernel_rfl) (by kernel_rfl) (by kernel_rfl) ?_
  intro args st k he
  unfold c_impl_CoreMinimal at he
  split at he
  rotate_left
  · exact he.elim
  rename_i list_
  have he : Ok (impl_CoreMinimal list_) (fun r => k (.c (.bool r)) []) := he
  refine ⟨rfl, rfl, ?_⟩
  obtain ⟨r1_, hr, he⟩ := ok_bind he
  refine ⟨r1_, hr, ?_⟩
  refine And.intro (fun hb => ?_) (fun hb => ?_)
  · have he := ok_f he hb
    obtain ⟨r2_, hr, he⟩ := ok_bind he
    refine ⟨r2_, hr, ?_⟩
    refine And.intro (fun hb => ?_) (fun hb => ?_)
    · have he := ok_t he hb
      have he := ok_some he
      exact ⟨rfl, _, _, (leads_ren [] (l := [(2, .c (.bool false))]) (st' := []) rfl rfl trivial ⟨.inr rfl, trivial⟩), he⟩
    · have he := ok_f he hb
      obtain ⟨r3_, hr, he⟩ := ok_bind he
      refine ⟨r3_, hr, ?_⟩
      obtain ⟨r4_, hr, he⟩ := ok_bind he
      refine ⟨r4_, hr, ?_⟩
      have he := ok_some he
      exact ⟨rfl, _, _, (leads_ren [] (l := [(2, .c (.bool (!r4_)))]) (st' := []) rfl rfl trivial ⟨.inl rfl, trivial⟩), he⟩
  · have he := ok_t he hb
    have he := ok_some he
    exact ⟨rfl, _, _, (leads_ren [] (l := [(2, .c (.bool false))]) (st' := []) rfl rfl trivial ⟨.inr rfl, trivial⟩), he⟩

noncomputable def c_spec_CoreMinimal : Con := fun args st => match args, st with
  | [.c (.imm (.pair (.sl (.pair (.int .i64) (.int .i64))) (.int .i64)) list_)], [] => .opt (Bool) (spec_CoreMinimal list_) (fun r => .ret (.c (.bool r)) [])
  | _, _ => .fail

noncomputable def C_spec_CoreMinimal : Cfg := { y := tys, n := 28, h := 0, tab := [(64, c_spec_ProblemValid), (75, c_spec_l11Sub), (92, c_spec_l11Open), (93, c_spec_l11Count), (94, c_spec_l11Without)], cut := [], hand := [], good := [], deep := [], sched := [] }

theorem t_spec_CoreMinimal : TabOk Try.prog C_spec_CoreMinimal := by
  refine tabOk_of ?_
  simp only [C_spec_CoreMinimal, List.forall_mem_cons]
  exact ⟨k_spec_ProblemValid, k_spec_l11Sub, k_spec_l11Open, k_spec_l11Count, k_spec_l11Without, fun p h => by cases h⟩

theorem k_spec_CoreMinimal : Entry Try.prog 40 c_spec_CoreMinimal := by
  refine entry_by (C := C_spec_CoreMinimal) mixed tys_ok t_spec_CoreMinimal (fn := Try.f40) (c := bd Try.f40) (by kernel_rfl) (by kernel_rfl) (by kernel_rfl) (by kernel_rfl) ?_
  intro args st k he
  unfold c_spec_CoreMinimal at he
  split at he
  rotate_left
  · exact he.elim
  rename_i list_
  have he : Ok (spec_CoreMinimal list_) (fun r => k (.c (.bool r)) []) := he
  refine ⟨rfl, rfl, ?_⟩
  obtain ⟨r1_, hr, he⟩ := ok_bind he
  refine ⟨r1_, hr, ?_⟩
  refine And.intro (fun hb => ?_) (fun hb => ?_)
  · have he := ok_f he hb
    obtain ⟨r2_, hr, he⟩ := ok_bind he
    refine ⟨r2_, hr, ?_⟩
    refine And.intro (fun hb => ?_) (fun hb => ?_)
    · have he := ok_t he hb
      have he := ok_some he
      exact ⟨rfl, _, _, Leads.refl _ _, he⟩
    · have he := ok_f he hb
      obtain ⟨r3_, hr, he⟩ := ok_bind he
      refine ⟨r3_, hr, ?_⟩
      refine loop_model mixed tys_ok t_spec_CoreMinimal (S := Int) (I := (fun k_ => (envOf [(0, .c (.imm (.pair (.sl (.pair (.int .i64) (.int .i64))) (.int .i64)) list_)), (3, .c (.own 10000000 false)), (4, .c (.int .i64 k_))], [(10000000, .sl 3 (.int .i64) r3_ .shallow)]))) (f := spec_CoreMinimal_l1 list_ r3_) (K := (fun r => k (.c (.bool r)) [])) he (leads_ren [(10000000, 15900)] (l := [(0, .c (.imm (.pair (.sl (.pair (.int .i64) (.int .i64))) (.int .i64)) list_)), (3, .c (.own 10000000 false)), (4, .c (.int .i64 (0:Int)))]) (st' := [(10000000, .sl 3 (.int .i64) r3_ .shallow)]) rfl rfl ⟨⟨rfl, rfl⟩, trivial⟩ ⟨.inl rfl, ⟨⟨rfl, rfl⟩, trivial⟩, rfl, trivial⟩) ?_
      rintro k_ J1 he
      refine And.intro (fun hb => ?_) (fun hb => ?_)
      · have he := ok_t he hb
        obtain ⟨r4_, hr, he⟩ := ok_bind he
        refine ⟨r4_, hr, ?_⟩
        obtain ⟨r5_, hr, he⟩ := ok_bind he
        refine ⟨r5_, hr, ?_⟩
        obtain ⟨r6_, hr, he⟩ := ok_bind he
        refine ⟨r6_, hr, ?_⟩
        refine And.intro (fun hb => ?_) (fun hb => ?_)
        · have he := ok_t he hb
          have he := ok_some he
          exact ⟨rfl, _, _, (leads_ren [] (l := [(2, .c (.bool false))]) (st' := []) rfl rfl trivial ⟨.inr rfl, trivial⟩), he⟩
        · have he := ok_f he hb
          have he := ok_rq he
          refine And.intro he.1 ?_
          have he := he.2
          have he := ok_some he
          exact ⟨(k_ + (1:Int)), he, (leads_ren [] (l := [(0, .c (.imm (.pair (.sl (.pair (.int .i64) (.int .i64))) (.int .i64)) list_)), (3, .c (.own 10000000 false)), (4, .c (.int .i64 (k_ + (1:Int))))]) (st' := [(10000000, .sl 3 (.int .i64) r3_ .shallow)]) rfl rfl ⟨⟨rfl, rfl⟩, trivial⟩ ⟨.inl rfl, ⟨⟨rfl, rfl⟩, trivial⟩, rfl, trivial⟩)⟩
      · have he := ok_f he hb
        have he := ok_some he
        exact ⟨rfl, _, _, (leads_ren [] (l := [(2, .c (.bool true))]) (st' := []) rfl rfl trivial ⟨.inr rfl, trivial⟩), he⟩
  · have he := ok_t he hb
    have he := ok_some he
    exact ⟨rfl, _, _, Leads.refl _ _, he⟩

noncomputable def c_impl_partOf__s : Con := fun args st => match args, st with
  | [.c (.imm (.pair (.sl (.pair (.int .i64) (.int .i64))) (.int .i64)) list_), .c (.own 0 false)], [(0, .sl 3 (.int .i64) keep .shallow)] => .opt ((List ((List (Int × Int)) × Int))) (impl_partOf__s list_ keep) (fun r => .ret (.c (.own 900 false)) [(0, .sl 3 (.int .i64) keep .shallow), (900, .sl 73 (.pair (.sl (.pair (.int .i64) (.int .i64))) (.int .i64)) r .shallow)])
  | _, _ => .fail

noncomputable def C_impl_partOf__s : Cfg := { y := tys, n := 23, h := 1, tab := [], cut := [], hand := [], good := [], deep := [], sched := [] }

theorem t_impl_partOf__s : TabOk Try.prog C_impl_partOf__s := tabOk_of (fun p h => by cases h)

theorem k_impl_partOf__s : Entry Try.prog 73 c_impl_partOf__s := by
  refine entry_by (C := C_impl_partOf__s) mixed tys_ok t_impl_partOf__s (fn := Try.f73) (c := bd Try.f73) (by kernel_rfl) (by kernel_rfl) (by kernel_rfl) (by kernel_rfl) ?_
  intro args st k he
  unfold c_impl_partOf__s at he
  split at he
  rotate_left
  · exact he.elim
  rename_i list_ keep
  have he : Ok (impl_partOf__s list_ keep) (fun r => k (.c (.own 900 false)) [(0, .sl 3 (.int .i64) keep .shallow), (900, .sl 73 (.pair (.sl (.pair (.int .i64) (.int .i64))) (.int .i64)) r .shallow)]) := he
  refine ⟨rfl, rfl, ?_⟩
  refine loop_model mixed tys_ok t_impl_partOf__s (S := Int × (List ((List (Int × Int)) × Int))) (I := (fun (i, out) => (envOf [(0, .c (.imm (.pair (.sl (.pair (.int .i64) (.int .i64))) (.int .i64)) list_)), (5, .c (.own 10000000 false)), (8, .c (.own 0 false)), (9, .c (.int .i64 (keep.length:Int))), (10, .c (.int .i64 i))], [(0, .sl 3 (.int .i64) keep .shallow), (10000000, .sl 73 (.pair (.sl (.pair (.int .i64) (.int .i64))) (.int .i64)) out .shallow)]))) (f := impl_partOf__s_l1 list_ keep) (K := (fun r => k (.c (.own 900 false)) [(0, .sl 3 (.int .i64) keep .shallow), (900, .sl 73 (.pair (.sl (.pair (.int .i64) (.int .i64))) (.int .i64)) r .shallow)])) he (leads_ren [] (l := [(0, .c (.imm (.pair (.sl (.pair (.int .i64) (.int .i64))) (.int .i64)) list_)), (5, .c (.own 10000000 false)), (8, .c (.own 0 false)), (9, .c (.int .i64 (keep.length:Int))), (10, .c (.int .i64 (0:Int)))]) (st' := [(0, .sl 3 (.int .i64) keep .shallow), (10000000, .sl 73 (.pair (.sl (.pair (.int .i64) (.int .i64))) (.int .i64)) ([] : List ((List (Int × Int)) × Int)) .shallow)]) rfl rfl ⟨⟨rfl, rfl⟩, trivial, trivial⟩ ⟨.inl rfl, ⟨rfl, trivial⟩, ⟨⟨rfl, rfl⟩, trivial⟩, rfl, rfl, trivial⟩) ?_
  rintro ⟨i, out⟩ J1 he
  refine And.intro (fun hb => ?_) (fun hb => ?_)
  · have he := ok_t he hb
    have he := ok_rq he
    refine And.intro he.1 ?_
    have he := he.2
    have he := ok_rq he
    refine And.intro he.1 ?_
    have he := he.2
    have he := ok_rq he
    refine And.intro he.1 ?_
    have he := he.2
    have he := ok_rq he
    refine And.intro he.1 ?_
    have he := he.2
    have he := ok_some he
    exact ⟨((i + (1:Int)), (out ++ [(list_.getD (keep.getD i.toNat 0).toNat ([], 0))])), he, (leads_ren [(10000000, 20)] (l := [(0, .c (.imm (.pair (.sl (.pair (.int .i64) (.int .i64))) (.int .i64)) list_)), (5, .c (.own 10000000 false)), (8, .c (.own 0 false)), (9, .c (.int .i64 (keep.length:Int))), (10, .c (.int .i64 (i + (1:Int))))]) (st' := [(0, .sl 3 (.int .i64) keep .shallow), (10000000, .sl 73 (.pair (.sl (.pair (.int .i64) (.int .i64))) (.int .i64)) (out ++ [(list_.getD (keep.getD i.toNat 0).toNat ([], 0))]) .shallow)]) rfl rfl ⟨⟨rfl, rfl⟩, ⟨rfl, rfl⟩, trivial⟩ ⟨.inl rfl, ⟨⟨rfl, rfl⟩, trivial⟩, ⟨⟨rfl, rfl⟩, trivial⟩, rfl, rfl, trivial⟩)⟩
  · have he := ok_f he hb
    have he := ok_some he
    exact ⟨rfl, _, _, (leads_ren [(900, 10000000)] (l := [(4, .c (.own 900 false))]) (st' := [(0, .sl 3 (.int .i64) keep .shallow), (900, .sl 73 (.pair (.sl (.pair (.int .i64) (.int .i64))) (.int .i64)) out .shallow)]) rfl rfl ⟨⟨rfl, rfl⟩, ⟨rfl, rfl⟩, trivial⟩ ⟨⟨⟨rfl, rfl⟩, trivial⟩, trivial⟩), he⟩

noncomputable def c_impl_MinimalCore : Con := fun args st => match args, st with
  | [.c (.imm (.pair (.sl (.pair (.int .i64) (.int .i64))) (.int .i64)) list_)], [] => .opt (Bool × (List Int)) (impl_MinimalCore list_) (fun r => .ret (.tup [.c (.own 900 false), .c (.bool r.1)]) [(900, .sl 3 (.int .i64) r.2 .shallow)])
  | _, _ => .fail

noncomputable def C_impl_MinimalCore : Cfg := { y := tys, n := 34, h := 0, tab := [(61, c_impl_ProblemValid), (73, c_impl_partOf__s), (95, c_impl_solvable), (96, c_impl_indices), (99, c_impl_without)], cut := [], hand := [(73, [1])], good := [], deep := [], sched := [] }

theorem t_impl_MinimalCore : TabOk Try.prog C_impl_MinimalCore := by
  refine tabOk_of ?_
  simp only [C_impl_MinimalCore, List.forall_mem_cons]
  exact ⟨k_impl_ProblemValid, k_impl_partOf__s, k_impl_solvable, k_impl_indices, k_impl_without, fun p h => by cases h⟩

theorem k_impl_MinimalCore : Entry Try.prog 57 c_impl_MinimalCore := by
  refine entry_by (C := C_impl_MinimalCore) mixed tys_ok t_impl_MinimalCore (fn := Try.f57) (c := bd Try.f57) (by kernel_rfl) (by kernel_rfl) (by kernel_rfl) (by kernel_rfl) ?_
  intro args st k he
  unfold c_impl_MinimalCore at he
  split at he
  rotate_left
  · exact he.elim
  rename_i list_
  have he : Ok (impl_MinimalCore list_) (fun r => k (.tup [.c (.own 900 false), .c (.bool r.1)]) [(900, .sl 3 (.int .i64) r.2 .shallow)]) := he
  refine ⟨rfl, rfl, ?_⟩
  obtain ⟨r1_, hr, he⟩ := ok_bind he
  refine ⟨r1_, hr, ?_⟩
  refine And.intro (fun hb => ?_) (fun hb => ?_)
  · have he := ok_f he hb
    obtain ⟨r2_, hr, he⟩ := ok_bind he
    refine ⟨r2_, hr, ?_⟩
    refine And.intro (fun hb => ?_) (fun hb => ?_)
    · have he := ok_t he hb
      have he := ok_some he
      exact ⟨rfl, _, _, (leads_ren [] (l := [(2, .c (.own 900 false)), (3, .c (.bool false))]) (st' := [(900, .sl 3 (.int .i64) ([] : List Int) .shallow)]) rfl rfl ⟨trivial, trivial⟩ ⟨⟨rfl, trivial⟩, .inr rfl, trivial⟩), he⟩
    · have he := ok_f he hb
      obtain ⟨r3_, hr, he⟩ := ok_bind he
      refine ⟨r3_, hr, ?_⟩
      have he := ok_rq he
      refine And.intro he.1 ?_
      have he := he.2
      refine loop_model mixed tys_ok t_impl_MinimalCore (S := Int × (List Int)) (I := (fun (k_, out) => (envOf [(0, .c (.imm (.pair (.sl (.pair (.int .i64) (.int .i64))) (.int .i64)) list_)), (4, .c (.own 10000000 false)), (5, .c (.int .i64 k_))], [(10000000, .sl 3 (.int .i64) out .shallow)]))) (f := impl_MinimalCore_l1 list_) (K := (fun r => k (.tup [.c (.own 900 false), .c (.bool r.1)]) [(900, .sl 3 (.int .i64) r.2 .shallow)])) he (leads_ren [(10000000, 17900)] (l := [(0, .c (.imm (.pair (.sl (.pair (.int .i64) (.int .i64))) (.int .i64)) list_)), (4, .c (.own 10000000 false)), (5, .c (.int .i64 ((list_.length:Int) - (1:Int))))]) (st' := [(10000000, .sl 3 (.int .i64) r3_ .shallow)]) rfl rfl ⟨⟨rfl, rfl⟩, trivial⟩ ⟨.inl rfl, ⟨⟨rfl, rfl⟩, trivial⟩, rfl, trivial⟩) ?_
      rintro ⟨k_, out⟩ J1 he
      refine And.intro (fun hb => ?_) (fun hb => ?_)
      · have he := ok_t he hb
        obtain ⟨r7_, hr, he⟩ := ok_bind he
        refine ⟨r7_, hr, ?_⟩
        obtain ⟨r8_, hr, he⟩ := ok_bind he
        refine ⟨r8_, hr, ?_⟩
        obtain ⟨r9_, hr, he⟩ := ok_bind he
        refine ⟨r9_, hr, ?_⟩
        refine And.intro (fun hb => ?_) (fun hb => ?_)
        · have he := ok_t he hb
          have he := ok_rq he
          refine And.intro he.1 ?_
          have he := he.2
          have he := ok_some he
          exact ⟨((k_ - (1:Int)), r7_), he, (leads_ren [(10000000, 27900)] (l := [(0, .c (.imm (.pair (.sl (.pair (.int .i64) (.int .i64))) (.int .i64)) list_)), (4, .c (.own 10000000 false)), (5, .c (.int .i64 (k_ - (1:Int))))]) (st' := [(10000000, .sl 3 (.int .i64) r7_ .shallow)]) rfl rfl ⟨⟨rfl, rfl⟩, trivial⟩ ⟨.inl rfl, ⟨⟨rfl, rfl⟩, trivial⟩, rfl, trivial⟩)⟩
        · have he := ok_f he hb
          have he := ok_rq he
          refine And.intro he.1 ?_
          have he := he.2
          have he := ok_some he
          exact ⟨((k_ - (1:Int)), out), he, (leads_ren [] (l := [(0, .c (.imm (.pair (.sl (.pair (.int .i64) (.int .i64))) (.int .i64)) list_)), (4, .c (.own 10000000 false)), (5, .c (.int .i64 (k_ - (1:Int))))]) (st' := [(10000000, .sl 3 (.int .i64) out .shallow)]) rfl rfl ⟨⟨rfl, rfl⟩, trivial⟩ ⟨.inl rfl, ⟨⟨rfl, rfl⟩, trivial⟩, rfl, trivial⟩)⟩
      · have he := ok_f he hb
        have he := ok_some he
        exact ⟨rfl, _, _, (leads_ren [(900, 10000000)] (l := [(2, .c (.own 900 false)), (3, .c (.bool true))]) (st' := [(900, .sl 3 (.int .i64) out .shallow)]) rfl rfl ⟨⟨rfl, rfl⟩, trivial⟩ ⟨⟨⟨rfl, rfl⟩, trivial⟩, .inr rfl, trivial⟩), he⟩
  · have he := ok_t he hb
    have he := ok_some he
    exact ⟨rfl, _, _, (leads_ren [] (l := [(2, .c (.own 900 false)), (3, .c (.bool false))]) (st' := [(900, .sl 3 (.int .i64) ([] : List Int) .shallow)]) rfl rfl ⟨trivial, trivial⟩ ⟨⟨rfl, trivial⟩, .inr rfl, trivial⟩), he⟩

noncomputable def c_laws_FnCoreMinimal : Con := fun args st => match args, st with
  | [.c (.imm (.int .u8) code)], [] => .opt (Bool) (laws_FnCoreMinimal code) (fun r => .ret (.c (.bool r)) [])
  | _, _ => .fail

noncomputable def C_laws_FnCoreMinimal : Cfg := { y := tys, n := 39, h := 0, tab := [(40, c_spec_CoreMinimal), (41, c_impl_CoreMinimal), (56, c_spec_DrawCoreMinimal), (57, c_impl_MinimalCore)], cut := [], hand := [], good := [], deep := [], sched := [] }

theorem t_laws_FnCoreMinimal : TabOk Try.prog C_laws_FnCoreMinimal := by
  refine tabOk_of ?_
  simp only [C_laws_FnCoreMinimal, List.forall_mem_cons]
  exact ⟨k_spec_CoreMinimal, k_impl_CoreMinimal, k_spec_DrawCoreMinimal, k_impl_MinimalCore, fun p h => by cases h⟩

theorem k_laws_FnCoreMinimal : Entry Try.prog 12 c_laws_FnCoreMinimal := by
  refine entry_by (C := C_laws_FnCoreMinimal) mixed tys_ok t_laws_FnCoreMinimal (fn := Try.f12) (c := bd Try.f12) (by kernel_rfl) (by kernel_rfl) (by kernel_rfl) (by kernel_rfl) ?_
  intro args st k he
  unfold c_laws_FnCoreMinimal at he
  split at he
  rotate_left
  · exact he.elim
  rename_i code
  have he : Ok (laws_FnCoreMinimal code) (fun r => k (.c (.bool r)) []) := he
  refine ⟨rfl, rfl, ?_⟩
  refine And.intro (fun hb => ?_) (fun hb => ?_)
  · have he := ok_t he hb
    have he := ok_some he
    exact ⟨rfl, _, _, Leads.refl _ _, he⟩
  · have he := ok_f he hb
    obtain ⟨r1_, hr, he⟩ := ok_bind he
    refine ⟨r1_, hr, ?_⟩
    obtain ⟨r2_, hr, he⟩ := ok_bind he
    refine ⟨r2_, hr, ?_⟩
    obtain ⟨r3_, hr, he⟩ := ok_bind he
    refine ⟨r3_, hr, ?_⟩
    refine And.intro (fun hb => ?_) (fun hb => ?_)
    · have he := ok_f he hb
      refine And.intro (fun hb => ?_) (fun hb => ?_)
      · have he := ok_t he hb
        obtain ⟨r4_, hr, he⟩ := ok_bind he
        refine ⟨r4_, hr, ?_⟩
        have he := ok_some he
        exact ⟨rfl, _, _, (leads_ren [] (l := [(2, .c (.bool (r2_ == r4_)))]) (st' := []) rfl rfl trivial ⟨.inl rfl, trivial⟩), he⟩
      · have he := ok_f he hb
        obtain ⟨r6_, hr, he⟩ := ok_bind he
        refine ⟨r6_, hr, ?_⟩
        refine And.intro (fun hb => ?_) (fun hb => ?_)
        · have he := ok_t he hb
          have he := ok_some he
          exact ⟨rfl, _, _, (leads_ren [] (l := [(2, .c (.bool ((r6_.2.length:Int) == (r1_.length:Int))))]) (st' := []) rfl rfl trivial ⟨.inl rfl, trivial⟩), he⟩
        · have he := ok_f he hb
          have he := ok_some he
          exact ⟨rfl, _, _, (leads_ren [] (l := [(2, .c (.bool false))]) (st' := []) rfl rfl trivial ⟨.inr rfl, trivial⟩), he⟩
    · have he := ok_t he hb
      obtain ⟨r5_, hr, he⟩ := ok_bind he
      refine ⟨r5_, hr, ?_⟩
      have he := ok_some he
      exact ⟨rfl, _, _, (leads_ren [] (l := [(2, .c (.bool (r2_ == r5_)))]) (st' := []) rfl rfl trivial ⟨.inl rfl, trivial⟩), he⟩

end Go.AE.Y
