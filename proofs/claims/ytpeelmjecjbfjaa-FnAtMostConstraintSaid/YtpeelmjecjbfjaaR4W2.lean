/-
  Walks: each function keeps the contract that its model gives. No conditions.
-/
import Derived.Test.YtpeelmjecjbfjaaR4Tab
import Derived.Test.YtpeelmjecjbfjaaR4W1
namespace Go.AE.Y
open Go Go.AE Go.Proofs
set_option linter.unusedVariables false
set_option maxHeartbeats 2000000
set_option maxRecDepth 100000

noncomputable def c_slices_ContainsFunc_int__impl_ruleValid_2_1 : Con := fun args st => match args, st with
  | [.c (.imm (.int .i64) s_), .c (.fn 219 [])], [] => .opt (Bool) (slices_ContainsFunc_int__impl_ruleValid_2_1 s_) (fun r => .ret (.c (.bool r)) [])
  | _, _ => .fail

noncomputable def C_slices_ContainsFunc_int__impl_ruleValid_2_1 : Cfg := { y := tys, n := 9, h := 0, tab := [(237, c_slices_IndexFunc_int__impl_ruleValid_2_1)], cut := [], hand := [], good := [], deep := [], sched := [] }

theorem t_slices_ContainsFunc_int__impl_ruleValid_2_1 : TabOk Try.prog C_slices_ContainsFunc_int__impl_ruleValid_2_1 := by
  refine tabOk_of ?_
  simp only [C_slices_ContainsFunc_int__impl_ruleValid_2_1, List.forall_mem_cons]
  exact ⟨k_slices_IndexFunc_int__impl_ruleValid_2_1, fun p h => by cases h⟩

theorem k_slices_ContainsFunc_int__impl_ruleValid_2_1 : Entry Try.prog 174 c_slices_ContainsFunc_int__impl_ruleValid_2_1 := by
  refine entry_by (C := C_slices_ContainsFunc_int__impl_ruleValid_2_1) mixed tys_ok t_slices_ContainsFunc_int__impl_ruleValid_2_1 (fn := Try.f174) (c := bd Try.f174) (by kernel_rfl) (by kernel_rfl) (by kernel_rfl) (by kernel_rfl) ?_
  intro args st k he
  unfold c_slices_ContainsFunc_int__impl_ruleValid_2_1 at he
  split at he
  rotate_left
  · exact he.elim
  rename_i s_
  have he : Ok (slices_ContainsFunc_int__impl_ruleValid_2_1 s_) (fun r => k (.c (.bool r)) []) := he
  refine ⟨rfl, rfl, ?_⟩
  obtain ⟨r1_, hr, he⟩ := ok_bind he
  refine ⟨r1_, hr, ?_⟩
  have he := ok_some he
  exact ⟨rfl, _, _, Leads.refl _ _, he⟩

noncomputable def c_impl_ruleValid_2 : Con := fun args st => match args, st with
  | [.c (.imm (.int .i64) row), .c (.ptr 0 0)], [(0, .rc [.int .i64 o0_0, .imm (.int .i64) o0_1, .imm (.int .i64) o0_2, .int .i64 o0_3, .imm (.sl (.int .i64)) o0_4])] => .opt (Bool) (impl_ruleValid_2 row (o0_0, (o0_1, (o0_2, (o0_3, o0_4))))) (fun r => .ret (.c (.bool r)) [(0, .rc [.int .i64 o0_0, .imm (.int .i64) o0_1, .imm (.int .i64) o0_2, .int .i64 o0_3, .imm (.sl (.int .i64)) o0_4])])
  | _, _ => .fail

noncomputable def C_impl_ruleValid_2 : Cfg := { y := tys, n := 14, h := 1, tab := [(174, c_slices_ContainsFunc_int__impl_ruleValid_2_1)], cut := [], hand := [], good := [], deep := [], sched := [] }

theorem t_impl_ruleValid_2 : TabOk Try.prog C_impl_ruleValid_2 := by
  refine tabOk_of ?_
  simp only [C_impl_ruleValid_2, List.forall_mem_cons]
  exact ⟨k_slices_ContainsFunc_int__impl_ruleValid_2_1, fun p h => by cases h⟩

theorem k_impl_ruleValid_2 : Entry Try.prog 218 c_impl_ruleValid_2 := by
  refine entry_by (C := C_impl_ruleValid_2) mixed tys_ok t_impl_ruleValid_2 (fn := Try.f218) (c := bd Try.f218) (by kernel_rfl) (by kernel_rfl) (by kernel_rfl) (by kernel_rfl) ?_
  intro args st k he
  unfold c_impl_ruleValid_2 at he
  split at he
  rotate_left
  · exact he.elim
  rename_i row o0_0 o0_1 o0_2 o0_3 o0_4
  have he : Ok (impl_ruleValid_2 row (o0_0, (o0_1, (o0_2, (o0_3, o0_4))))) (fun r => k (.c (.bool r)) [(0, .rc [.int .i64 o0_0, .imm (.int .i64) o0_1, .imm (.int .i64) o0_2, .int .i64 o0_3, .imm (.sl (.int .i64)) o0_4])]) := he
  refine ⟨rfl, rfl, ?_⟩
  refine And.intro (fun hb => ?_) (fun hb => ?_)
  · have he := ok_f he hb
    obtain ⟨r1_, hr, he⟩ := ok_bind he
    refine ⟨r1_, hr, ?_⟩
    have he := ok_some he
    exact ⟨rfl, _, _, (leads_ren [] (l := [(3, .c (.bool r1_))]) (st' := [(0, .rc [.int .i64 o0_0, .imm (.int .i64) o0_1, .imm (.int .i64) o0_2, .int .i64 o0_3, .imm (.sl (.int .i64)) o0_4])]) rfl rfl ⟨⟨rfl, .inl rfl, .inl rfl, rfl, .inl rfl, trivial⟩, trivial⟩ ⟨.inl rfl, trivial⟩), he⟩
  · have he := ok_t he hb
    have he := ok_some he
    exact ⟨rfl, _, _, (leads_ren [] (l := [(3, .c (.bool true))]) (st' := [(0, .rc [.int .i64 o0_0, .imm (.int .i64) o0_1, .imm (.int .i64) o0_2, .int .i64 o0_3, .imm (.sl (.int .i64)) o0_4])]) rfl rfl ⟨⟨rfl, .inl rfl, .inl rfl, rfl, .inl rfl, trivial⟩, trivial⟩ ⟨.inr rfl, trivial⟩), he⟩

noncomputable def c_slices_IndexFunc_s_int__impl_ruleValid_2 : Con := fun args st => match args, st with
  | [.c (.imm (.sl (.int .i64)) s_), .c (.fn 218 [0])], [(0, .rc [.int .i64 o0_0, .imm (.int .i64) o0_1, .imm (.int .i64) o0_2, .int .i64 o0_3, .imm (.sl (.int .i64)) o0_4])] => .opt (Int) (slices_IndexFunc_s_int__impl_ruleValid_2 s_ (o0_0, (o0_1, (o0_2, (o0_3, o0_4))))) (fun r => .ret (.c (.int .i64 r)) [(0, .rc [.int .i64 o0_0, .imm (.int .i64) o0_1, .imm (.int .i64) o0_2, .int .i64 o0_3, .imm (.sl (.int .i64)) o0_4])])
  | _, _ => .fail

noncomputable def C_slices_IndexFunc_s_int__impl_ruleValid_2 : Cfg := { y := tys, n := 19, h := 1, tab := [(218, c_impl_ruleValid_2)], cut := [], hand := [], good := [], deep := [], sched := [] }

theorem t_slices_IndexFunc_s_int__impl_ruleValid_2 : TabOk Try.prog C_slices_IndexFunc_s_int__impl_ruleValid_2 := by
  refine tabOk_of ?_
  simp only [C_slices_IndexFunc_s_int__impl_ruleValid_2, List.forall_mem_cons]
  exact ⟨k_impl_ruleValid_2, fun p h => by cases h⟩

theorem k_slices_IndexFunc_s_int__impl_ruleValid_2 : Entry Try.prog 263 c_slices_IndexFunc_s_int__impl_ruleValid_2 := by
  refine entry_by (C := C_slices_IndexFunc_s_int__impl_ruleValid_2) mixed tys_ok t_slices_IndexFunc_s_int__impl_ruleValid_2 (fn := Try.f263) (c := bd Try.f263) (by kernel_rfl) (by kernel_rfl) (by kernel_rfl) (by kernel_rfl) ?_
  intro args st k he
  unfold c_slices_IndexFunc_s_int__impl_ruleValid_2 at he
  split at he
  rotate_left
  · exact he.elim
  rename_i s_ o0_0 o0_1 o0_2 o0_3 o0_4
  have he : Ok (slices_IndexFunc_s_int__impl_ruleValid_2 s_ (o0_0, (o0_1, (o0_2, (o0_3, o0_4))))) (fun r => k (.c (.int .i64 r)) [(0, .rc [.int .i64 o0_0, .imm (.int .i64) o0_1, .imm (.int .i64) o0_2, .int .i64 o0_3, .imm (.sl (.int .i64)) o0_4])]) := he
  refine ⟨rfl, rfl, ?_⟩
  refine loop_model mixed tys_ok t_slices_IndexFunc_s_int__impl_ruleValid_2 (S := Int) (I := (fun i => (envOf [(0, .c (.imm (.sl (.int .i64)) s_)), (1, .c (.fn 218 [0])), (7, .c (.int .i64 (s_.length:Int))), (8, .c (.int .i64 i))], [(0, .rc [.int .i64 (o0_0, (o0_1, (o0_2, (o0_3, o0_4)))).1, .imm (.int .i64) (o0_0, (o0_1, (o0_2, (o0_3, o0_4)))).2.1, .imm (.int .i64) (o0_0, (o0_1, (o0_2, (o0_3, o0_4)))).2.2.1, .int .i64 (o0_0, (o0_1, (o0_2, (o0_3, o0_4)))).2.2.2.1, .imm (.sl (.int .i64)) (o0_0, (o0_1, (o0_2, (o0_3, o0_4)))).2.2.2.2])]))) (f := slices_IndexFunc_s_int__impl_ruleValid_2_l1 s_ (o0_0, (o0_1, (o0_2, (o0_3, o0_4))))) (K := (fun r => k (.c (.int .i64 r)) [(0, .rc [.int .i64 o0_0, .imm (.int .i64) o0_1, .imm (.int .i64) o0_2, .int .i64 o0_3, .imm (.sl (.int .i64)) o0_4])])) he (leads_ren [] (l := [(0, .c (.imm (.sl (.int .i64)) s_)), (1, .c (.fn 218 [0])), (7, .c (.int .i64 (s_.length:Int))), (8, .c (.int .i64 (0:Int)))]) (st' := [(0, .rc [.int .i64 (o0_0, (o0_1, (o0_2, (o0_3, o0_4)))).1, .imm (.int .i64) (o0_0, (o0_1, (o0_2, (o0_3, o0_4)))).2.1, .imm (.int .i64) (o0_0, (o0_1, (o0_2, (o0_3, o0_4)))).2.2.1, .int .i64 (o0_0, (o0_1, (o0_2, (o0_3, o0_4)))).2.2.2.1, .imm (.sl (.int .i64)) (o0_0, (o0_1, (o0_2, (o0_3, o0_4)))).2.2.2.2])]) rfl rfl ⟨⟨rfl, .inl rfl, .inl rfl, rfl, .inl rfl, trivial⟩, trivial⟩ ⟨.inl rfl, ⟨rfl, ⟨⟨rfl, rfl⟩, trivial⟩⟩, rfl, rfl, trivial⟩) ?_
  rintro i J1 he
  refine And.intro (fun hb => ?_) (fun hb => ?_)
  · have he := ok_t he hb
    have he := ok_rq he
    refine And.intro he.1 ?_
    have he := he.2
    obtain ⟨r1_, hr, he⟩ := ok_bind he
    refine ⟨r1_, hr, ?_⟩
    refine And.intro (fun hb => ?_) (fun hb => ?_)
    · have he := ok_t he hb
      have he := ok_some he
      exact ⟨rfl, _, _, (leads_ren [] (l := [(4, .c (.int .i64 i))]) (st' := [(0, .rc [.int .i64 o0_0, .imm (.int .i64) o0_1, .imm (.int .i64) o0_2, .int .i64 o0_3, .imm (.sl (.int .i64)) o0_4])]) rfl rfl ⟨⟨rfl, .inl rfl, .inl rfl, rfl, .inl rfl, trivial⟩, trivial⟩ ⟨rfl, trivial⟩), he⟩
    · have he := ok_f he hb
      have he := ok_rq he
      refine And.intro he.1 ?_
      have he := he.2
      have he := ok_some he
      exact ⟨(i + (1:Int)), he, (leads_ren [] (l := [(0, .c (.imm (.sl (.int .i64)) s_)), (1, .c (.fn 218 [0])), (7, .c (.int .i64 (s_.length:Int))), (8, .c (.int .i64 (i + (1:Int))))]) (st' := [(0, .rc [.int .i64 (o0_0, (o0_1, (o0_2, (o0_3, o0_4)))).1, .imm (.int .i64) (o0_0, (o0_1, (o0_2, (o0_3, o0_4)))).2.1, .imm (.int .i64) (o0_0, (o0_1, (o0_2, (o0_3, o0_4)))).2.2.1, .int .i64 (o0_0, (o0_1, (o0_2, (o0_3, o0_4)))).2.2.2.1, .imm (.sl (.int .i64)) (o0_0, (o0_1, (o0_2, (o0_3, o0_4)))).2.2.2.2])]) rfl rfl ⟨⟨rfl, .inl rfl, .inl rfl, rfl, .inl rfl, trivial⟩, trivial⟩ ⟨.inl rfl, ⟨rfl, ⟨⟨rfl, rfl⟩, trivial⟩⟩, rfl, rfl, trivial⟩)⟩
  · have he := ok_f he hb
    have he := ok_some he
    exact ⟨rfl, _, _, (leads_ren [] (l := [(4, .c (.int .i64 (-1:Int)))]) (st' := [(0, .rc [.int .i64 o0_0, .imm (.int .i64) o0_1, .imm (.int .i64) o0_2, .int .i64 o0_3, .imm (.sl (.int .i64)) o0_4])]) rfl rfl ⟨⟨rfl, .inl rfl, .inl rfl, rfl, .inl rfl, trivial⟩, trivial⟩ ⟨rfl, trivial⟩), he⟩

noncomputable def c_slices_ContainsFunc_s_int__impl_ruleValid_2 : Con := fun args st => match args, st with
  | [.c (.imm (.sl (.int .i64)) s_), .c (.fn 218 [0])], [(0, .rc [.int .i64 o0_0, .imm (.int .i64) o0_1, .imm (.int .i64) o0_2, .int .i64 o0_3, .imm (.sl (.int .i64)) o0_4])] => .opt (Bool) (slices_ContainsFunc_s_int__impl_ruleValid_2 s_ (o0_0, (o0_1, (o0_2, (o0_3, o0_4))))) (fun r => .ret (.c (.bool r)) [(0, .rc [.int .i64 o0_0, .imm (.int .i64) o0_1, .imm (.int .i64) o0_2, .int .i64 o0_3, .imm (.sl (.int .i64)) o0_4])])
  | _, _ => .fail

noncomputable def C_slices_ContainsFunc_s_int__impl_ruleValid_2 : Cfg := { y := tys, n := 9, h := 1, tab := [(263, c_slices_IndexFunc_s_int__impl_ruleValid_2)], cut := [], hand := [], good := [], deep := [], sched := [] }

theorem t_slices_ContainsFunc_s_int__impl_ruleValid_2 : TabOk Try.prog C_slices_ContainsFunc_s_int__impl_ruleValid_2 := by
  refine tabOk_of ?_
  simp only [C_slices_ContainsFunc_s_int__impl_ruleValid_2, List.forall_mem_cons]
  exact ⟨k_slices_IndexFunc_s_int__impl_ruleValid_2, fun p h => by cases h⟩

theorem k_slices_ContainsFunc_s_int__impl_ruleValid_2 : Entry Try.prog 217 c_slices_ContainsFunc_s_int__impl_ruleValid_2 := by
  refine entry_by (C := C_slices_ContainsFunc_s_int__impl_ruleValid_2) mixed tys_ok t_slices_ContainsFunc_s_int__impl_ruleValid_2 (fn := Try.f217) (c := bd Try.f217) (by kernel_rfl) (by kernel_rfl) (by kernel_rfl) (by kernel_rfl) ?_
  intro args st k he
  unfold c_slices_ContainsFunc_s_int__impl_ruleValid_2 at he
  split at he
  rotate_left
  · exact he.elim
  rename_i s_ o0_0 o0_1 o0_2 o0_3 o0_4
  have he : Ok (slices_ContainsFunc_s_int__impl_ruleValid_2 s_ (o0_0, (o0_1, (o0_2, (o0_3, o0_4))))) (fun r => k (.c (.bool r)) [(0, .rc [.int .i64 o0_0, .imm (.int .i64) o0_1, .imm (.int .i64) o0_2, .int .i64 o0_3, .imm (.sl (.int .i64)) o0_4])]) := he
  refine ⟨rfl, rfl, ?_⟩
  obtain ⟨r1_, hr, he⟩ := ok_bind he
  refine ⟨r1_, hr, ?_⟩
  have he := ok_some he
  exact ⟨rfl, _, _, (leads_ren [] (l := [(4, .c (.bool (decide ((0:Int) ≤ r1_))))]) (st' := [(0, .rc [.int .i64 o0_0, .imm (.int .i64) o0_1, .imm (.int .i64) o0_2, .int .i64 o0_3, .imm (.sl (.int .i64)) o0_4])]) rfl rfl ⟨⟨rfl, .inl rfl, .inl rfl, rfl, .inl rfl, trivial⟩, trivial⟩ ⟨.inl rfl, trivial⟩), he⟩

noncomputable def c_impl_ruleValid : Con := fun args st => match args, st with
  | [.agg [.int .i64 a0_0, .imm (.int .i64) a0_1, .imm (.int .i64) a0_2, .int .i64 a0_3, .imm (.sl (.int .i64)) a0_4], .c (.int .i64 a1)], [] => .opt (Bool) (impl_ruleValid (a0_0, (a0_1, (a0_2, (a0_3, a0_4)))) a1) (fun r => .ret (.c (.bool r)) [])
  | _, _ => .fail

noncomputable def C_impl_ruleValid : Cfg := { y := tys, n := 104, h := 0, tab := [(101, c_impl_within), (174, c_slices_ContainsFunc_int__impl_ruleValid_1), (211, c_slices_Contains_int), (217, c_slices_ContainsFunc_s_int__impl_ruleValid_2)], cut := [9], hand := [], good := [], deep := [], sched := [] }

theorem t_impl_ruleValid : TabOk Try.prog C_impl_ruleValid := by
  refine tabOk_of ?_
  simp only [C_impl_ruleValid, List.forall_mem_cons]
  exact ⟨k_impl_within, k_slices_ContainsFunc_int__impl_ruleValid_1, k_slices_Contains_int, k_slices_ContainsFunc_s_int__impl_ruleValid_2, fun p h => by cases h⟩

theorem k_impl_ruleValid : Entry Try.prog 132 c_impl_ruleValid := by
  refine entry_by (C := C_impl_ruleValid) mixed tys_ok t_impl_ruleValid (fn := Try.f132) (c := bd Try.f132) (by kernel_rfl) (by kernel_rfl) (by kernel_rfl) (by kernel_rfl) ?_
  intro args st k he
  unfold c_impl_ruleValid at he
  split at he
  rotate_left
  · exact he.elim
  rename_i a0_0 a0_1 a0_2 a0_3 a0_4 a1
  have he : Ok (impl_ruleValid (a0_0, (a0_1, (a0_2, (a0_3, a0_4)))) a1) (fun r => k (.c (.bool r)) []) := he
  refine ⟨rfl, rfl, ?_⟩
  refine loop_model mixed tys_ok t_impl_ruleValid (S := Int) (I := (fun i => (envOf [(1, .c (.int .i64 a1)), (2, .c (.ptr 10000000 0)), (8, .c (.imm (.int .i64) (a0_0, (a0_1, (a0_2, (a0_3, a0_4)))).2.1)), (9, .c (.int .i64 ((a0_0, (a0_1, (a0_2, (a0_3, a0_4)))).2.1.length:Int))), (10, .c (.int .i64 i))], [(10000000, .rc [.int .i64 (a0_0, (a0_1, (a0_2, (a0_3, a0_4)))).1, .imm (.int .i64) (a0_0, (a0_1, (a0_2, (a0_3, a0_4)))).2.1, .imm (.int .i64) (a0_0, (a0_1, (a0_2, (a0_3, a0_4)))).2.2.1, .int .i64 (a0_0, (a0_1, (a0_2, (a0_3, a0_4)))).2.2.2.1, .imm (.sl (.int .i64)) (a0_0, (a0_1, (a0_2, (a0_3, a0_4)))).2.2.2.2])]))) (f := impl_ruleValid_l1 (a0_0, (a0_1, (a0_2, (a0_3, a0_4)))) a1) (K := (fun r => k (.c (.bool r)) [])) he (leads_ren [(10000000, 2)] (l := [(1, .c (.int .i64 a1)), (2, .c (.ptr 10000000 0)), (8, .c (.imm (.int .i64) (a0_0, (a0_1, (a0_2, (a0_3, a0_4)))).2.1)), (9, .c (.int .i64 ((a0_0, (a0_1, (a0_2, (a0_3, a0_4)))).2.1.length:Int))), (10, .c (.int .i64 (0:Int)))]) (st' := [(10000000, .rc [.int .i64 (a0_0, (a0_1, (a0_2, (a0_3, a0_4)))).1, .imm (.int .i64) (a0_0, (a0_1, (a0_2, (a0_3, a0_4)))).2.1, .imm (.int .i64) (a0_0, (a0_1, (a0_2, (a0_3, a0_4)))).2.2.1, .int .i64 (a0_0, (a0_1, (a0_2, (a0_3, a0_4)))).2.2.2.1, .imm (.sl (.int .i64)) (a0_0, (a0_1, (a0_2, (a0_3, a0_4)))).2.2.2.2])]) rfl rfl ⟨⟨rfl, .inl rfl, .inl rfl, rfl, .inl rfl, trivial⟩, trivial⟩ ⟨rfl, ⟨⟨rfl, rfl⟩, rfl⟩, .inl rfl, rfl, rfl, trivial⟩) ?_
  rintro i J1 he
  refine And.intro (fun hb => ?_) (fun hb => ?_)
  · have he := ok_t he hb
    have he := ok_rq he
    refine And.intro he.1 ?_
    have he := he.2
    have he := ok_rq he
    refine And.intro he.1 ?_
    have he := he.2
    obtain ⟨r1_, hr, he⟩ := ok_bind he
    refine ⟨r1_, hr, ?_⟩
    refine And.intro (fun hb => ?_) (fun hb => ?_)
    · have he := ok_f he hb
      have he := ok_rq he
      refine And.intro he.1 ?_
      have he := he.2
      obtain ⟨r2_, hr, he⟩ := ok_bind he
      refine ⟨r2_, hr, ?_⟩
      refine And.intro (fun hb => ?_) (fun hb => ?_)
      · have he := ok_t he hb
        have he := ok_some he
        exact ⟨rfl, _, _, (leads_ren [] (l := [(4, .c (.bool false))]) (st' := []) rfl rfl trivial ⟨.inr rfl, trivial⟩), he⟩
      · have he := ok_f he hb
        have he := ok_rq he
        refine And.intro he.1 ?_
        have he := he.2
        have he := ok_some he
        exact ⟨(i + (1:Int)), he, (leads_ren [] (l := [(1, .c (.int .i64 a1)), (2, .c (.ptr 10000000 0)), (8, .c (.imm (.int .i64) (a0_0, (a0_1, (a0_2, (a0_3, a0_4)))).2.1)), (9, .c (.int .i64 ((a0_0, (a0_1, (a0_2, (a0_3, a0_4)))).2.1.length:Int))), (10, .c (.int .i64 (i + (1:Int))))]) (st' := [(10000000, .rc [.int .i64 (a0_0, (a0_1, (a0_2, (a0_3, a0_4)))).1, .imm (.int .i64) (a0_0, (a0_1, (a0_2, (a0_3, a0_4)))).2.1, .imm (.int .i64) (a0_0, (a0_1, (a0_2, (a0_3, a0_4)))).2.2.1, .int .i64 (a0_0, (a0_1, (a0_2, (a0_3, a0_4)))).2.2.2.1, .imm (.sl (.int .i64)) (a0_0, (a0_1, (a0_2, (a0_3, a0_4)))).2.2.2.2])]) rfl rfl ⟨⟨rfl, .inl rfl, .inl rfl, rfl, .inl rfl, trivial⟩, trivial⟩ ⟨rfl, ⟨⟨rfl, rfl⟩, rfl⟩, .inl rfl, rfl, rfl, trivial⟩)⟩
    · have he := ok_t he hb
      have he := ok_some he
      exact ⟨rfl, _, _, (leads_ren [] (l := [(4, .c (.bool false))]) (st' := []) rfl rfl trivial ⟨.inr rfl, trivial⟩), he⟩
  · have he := ok_f he hb
    refine seq_model mixed tys_ok t_impl_ruleValid (S := Unit) (I := (fun _ => (envOf [(2, .c (.ptr 10001000 0))], [(10001000, .rc [.int .i64 (a0_0, (a0_1, (a0_2, (a0_3, a0_4)))).1, .imm (.int .i64) (a0_0, (a0_1, (a0_2, (a0_3, a0_4)))).2.1, .imm (.int .i64) (a0_0, (a0_1, (a0_2, (a0_3, a0_4)))).2.2.1, .int .i64 (a0_0, (a0_1, (a0_2, (a0_3, a0_4)))).2.2.2.1, .imm (.sl (.int .i64)) (a0_0, (a0_1, (a0_2, (a0_3, a0_4)))).2.2.2.2])]))) (B := fun s => Ok (impl_ruleValid_j1 (a0_0, (a0_1, (a0_2, (a0_3, a0_4)))) s) (LK J1 (fun r => k (.c (.bool r)) []))) ?_ ?_
    · rintro ⟨⟩ he
      refine And.intro (fun hb => ?_) (fun hb => ?_)
      · have he := ok_t he hb
        refine And.intro (fun hb => ?_) (fun hb => ?_)
        · have he := ok_t he hb
          obtain ⟨r3_, hr, he⟩ := ok_bind he
          refine ⟨r3_, hr, ?_⟩
          refine And.intro (fun hb => ?_) (fun hb => ?_)
          · have he := ok_t he hb
            obtain ⟨r4_, hr, he⟩ := ok_bind he
            refine ⟨r4_, hr, ?_⟩
            have he := ok_some he
            exact ⟨rfl, _, _, (leads_ren [] (l := [(4, .c (.bool (!r4_)))]) (st' := []) rfl rfl trivial ⟨.inl rfl, trivial⟩), he⟩
          · have he := ok_f he hb
            have he := ok_some he
            exact ⟨rfl, _, _, (leads_ren [] (l := [(4, .c (.bool false))]) (st' := []) rfl rfl trivial ⟨.inr rfl, trivial⟩), he⟩
        · have he := ok_f he hb
          have he := ok_some he
          exact ⟨rfl, _, _, (leads_ren [] (l := [(4, .c (.bool false))]) (st' := []) rfl rfl trivial ⟨.inr rfl, trivial⟩), he⟩
      · have he := ok_f he hb
        refine And.intro (fun hb => ?_) (fun hb => ?_)
        · have he := ok_t he hb
          refine And.intro (fun hb => ?_) (fun hb => ?_)
          · have he := ok_t he hb
            obtain ⟨r5_, hr, he⟩ := ok_bind he
            refine ⟨r5_, hr, ?_⟩
            have he := ok_some he
            exact ⟨rfl, _, _, (leads_ren [] (l := [(4, .c (.bool (!r5_)))]) (st' := []) rfl rfl trivial ⟨.inl rfl, trivial⟩), he⟩
          · have he := ok_f he hb
            have he := ok_some he
            exact ⟨rfl, _, _, (leads_ren [] (l := [(4, .c (.bool false))]) (st' := []) rfl rfl trivial ⟨.inr rfl, trivial⟩), he⟩
        · have he := ok_f he hb
          refine And.intro (fun hb => ?_) (fun hb => ?_)
          · have he := ok_t he hb
            have he := ok_some he
            exact ⟨rfl, _, _, (leads_ren [] (l := [(4, .c (.bool (((a0_0, (a0_1, (a0_2, (a0_3, a0_4)))).2.1.length:Int) == (2:Int))))]) (st' := []) rfl rfl trivial ⟨.inl rfl, trivial⟩), he⟩
          · have he := ok_f he hb
            have he := ok_some he
            exact ⟨rfl, _, _, (leads_ren [] (l := [(4, .c (.bool ((a0_0, (a0_1, (a0_2, (a0_3, a0_4)))).1 == (2:Int))))]) (st' := []) rfl rfl trivial ⟨.inl rfl, trivial⟩), he⟩
    · skip
      refine And.intro (fun hb => ?_) (fun hb => ?_)
      · have he := ok_f he hb
        refine And.intro (fun hb => ?_) (fun hb => ?_)
        · have he := ok_t he hb
          refine And.intro (fun hb => ?_) (fun hb => ?_)
          · have he := ok_f he hb
            refine And.intro (fun hb => ?_) (fun hb => ?_)
            · have he := ok_f he hb
              refine And.intro (fun hb => ?_) (fun hb => ?_)
              · have he := ok_t he hb
                refine And.intro (fun hb => ?_) (fun hb => ?_)
                · have he := ok_t he hb
                  have he := ok_some he
                  exact ⟨rfl, _, _, (leads_ren [] (l := [(4, .c (.bool false))]) (st' := []) rfl rfl trivial ⟨.inr rfl, trivial⟩), he⟩
                · have he := ok_f he hb
                  exact ⟨(), he, (leads_ren [(10001000, 10000000)] (l := [(2, .c (.ptr 10001000 0))]) (st' := [(10001000, .rc [.int .i64 (a0_0, (a0_1, (a0_2, (a0_3, a0_4)))).1, .imm (.int .i64) (a0_0, (a0_1, (a0_2, (a0_3, a0_4)))).2.1, .imm (.int .i64) (a0_0, (a0_1, (a0_2, (a0_3, a0_4)))).2.2.1, .int .i64 (a0_0, (a0_1, (a0_2, (a0_3, a0_4)))).2.2.2.1, .imm (.sl (.int .i64)) (a0_0, (a0_1, (a0_2, (a0_3, a0_4)))).2.2.2.2])]) rfl rfl ⟨⟨rfl, .inl rfl, .inl rfl, rfl, .inl rfl, trivial⟩, trivial⟩ ⟨⟨⟨rfl, rfl⟩, rfl⟩, trivial⟩)⟩
              · have he := ok_f he hb
                exact ⟨(), he, (leads_ren [(10001000, 10000000)] (l := [(2, .c (.ptr 10001000 0))]) (st' := [(10001000, .rc [.int .i64 (a0_0, (a0_1, (a0_2, (a0_3, a0_4)))).1, .imm (.int .i64) (a0_0, (a0_1, (a0_2, (a0_3, a0_4)))).2.1, .imm (.int .i64) (a0_0, (a0_1, (a0_2, (a0_3, a0_4)))).2.2.1, .int .i64 (a0_0, (a0_1, (a0_2, (a0_3, a0_4)))).2.2.2.1, .imm (.sl (.int .i64)) (a0_0, (a0_1, (a0_2, (a0_3, a0_4)))).2.2.2.2])]) rfl rfl ⟨⟨rfl, .inl rfl, .inl rfl, rfl, .inl rfl, trivial⟩, trivial⟩ ⟨⟨⟨rfl, rfl⟩, rfl⟩, trivial⟩)⟩
            · have he := ok_t he hb
              have he := ok_some he
              exact ⟨rfl, _, _, (leads_ren [] (l := [(4, .c (.bool false))]) (st' := []) rfl rfl trivial ⟨.inr rfl, trivial⟩), he⟩
          · have he := ok_t he hb
            have he := ok_some he
            exact ⟨rfl, _, _, (leads_ren [] (l := [(4, .c (.bool false))]) (st' := []) rfl rfl trivial ⟨.inr rfl, trivial⟩), he⟩
        · have he := ok_f he hb
          refine And.intro (fun hb => ?_) (fun hb => ?_)
          · have he := ok_t he hb
            refine And.intro (fun hb => ?_) (fun hb => ?_)
            · have he := ok_t he hb
              have he := ok_some he
              exact ⟨rfl, _, _, (leads_ren [] (l := [(4, .c (.bool false))]) (st' := []) rfl rfl trivial ⟨.inr rfl, trivial⟩), he⟩
            · have he := ok_f he hb
              exact ⟨(), he, (leads_ren [(10001000, 10000000)] (l := [(2, .c (.ptr 10001000 0))]) (st' := [(10001000, .rc [.int .i64 (a0_0, (a0_1, (a0_2, (a0_3, a0_4)))).1, .imm (.int .i64) (a0_0, (a0_1, (a0_2, (a0_3, a0_4)))).2.1, .imm (.int .i64) (a0_0, (a0_1, (a0_2, (a0_3, a0_4)))).2.2.1, .int .i64 (a0_0, (a0_1, (a0_2, (a0_3, a0_4)))).2.2.2.1, .imm (.sl (.int .i64)) (a0_0, (a0_1, (a0_2, (a0_3, a0_4)))).2.2.2.2])]) rfl rfl ⟨⟨rfl, .inl rfl, .inl rfl, rfl, .inl rfl, trivial⟩, trivial⟩ ⟨⟨⟨rfl, rfl⟩, rfl⟩, trivial⟩)⟩
          · have he := ok_f he hb
            exact ⟨(), he, (leads_ren [(10001000, 10000000)] (l := [(2, .c (.ptr 10001000 0))]) (st' := [(10001000, .rc [.int .i64 (a0_0, (a0_1, (a0_2, (a0_3, a0_4)))).1, .imm (.int .i64) (a0_0, (a0_1, (a0_2, (a0_3, a0_4)))).2.1, .imm (.int .i64) (a0_0, (a0_1, (a0_2, (a0_3, a0_4)))).2.2.1, .int .i64 (a0_0, (a0_1, (a0_2, (a0_3, a0_4)))).2.2.2.1, .imm (.sl (.int .i64)) (a0_0, (a0_1, (a0_2, (a0_3, a0_4)))).2.2.2.2])]) rfl rfl ⟨⟨rfl, .inl rfl, .inl rfl, rfl, .inl rfl, trivial⟩, trivial⟩ ⟨⟨⟨rfl, rfl⟩, rfl⟩, trivial⟩)⟩
      · have he := ok_t he hb
        have he := ok_some he
        exact ⟨rfl, _, _, (leads_ren [] (l := [(4, .c (.bool false))]) (st' := []) rfl rfl trivial ⟨.inr rfl, trivial⟩), he⟩

noncomputable def c_impl_ModelValid_1 : Con := fun args st => match args, st with
  | [.agg [.int .i64 r__0, .imm (.int .i64) r__1, .imm (.int .i64) r__2, .int .i64 r__3, .imm (.sl (.int .i64)) r__4], .c (.ptr 0 0)], [(0, .rc [.imm (.int .i64) o0_0, .imm (.pair (.int .i64) (.pair (.sl (.int .i64)) (.pair (.sl (.int .i64)) (.pair (.int .i64) (.sl (.sl (.int .i64))))))) o0_1])] => .opt (Bool) (impl_ModelValid_1 (r__0, (r__1, (r__2, (r__3, r__4)))) (o0_0, o0_1)) (fun r => .ret (.c (.bool r)) [(0, .rc [.imm (.int .i64) o0_0, .imm (.pair (.int .i64) (.pair (.sl (.int .i64)) (.pair (.sl (.int .i64)) (.pair (.int .i64) (.sl (.sl (.int .i64))))))) o0_1])])
  | _, _ => .fail

noncomputable def C_impl_ModelValid_1 : Cfg := { y := tys, n := 10, h := 1, tab := [(132, c_impl_ruleValid)], cut := [], hand := [], good := [], deep := [], sched := [] }

theorem t_impl_ModelValid_1 : TabOk Try.prog C_impl_ModelValid_1 := by
  refine tabOk_of ?_
  simp only [C_impl_ModelValid_1, List.forall_mem_cons]
  exact ⟨k_impl_ruleValid, fun p h => by cases h⟩

theorem k_impl_ModelValid_1 : Entry Try.prog 131 c_impl_ModelValid_1 := by
  refine entry_by (C := C_impl_ModelValid_1) mixed tys_ok t_impl_ModelValid_1 (fn := Try.f131) (c := bd Try.f131) (by kernel_rfl) (by kernel_rfl) (by kernel_rfl) (by kernel_rfl) ?_
  intro args st k he
  unfold c_impl_ModelValid_1 at he
  split at he
  rotate_left
  · exact he.elim
  rename_i r__0 r__1 r__2 r__3 r__4 o0_0 o0_1
  have he : Ok (impl_ModelValid_1 (r__0, (r__1, (r__2, (r__3, r__4)))) (o0_0, o0_1)) (fun r => k (.c (.bool r)) [(0, .rc [.imm (.int .i64) o0_0, .imm (.pair (.int .i64) (.pair (.sl (.int .i64)) (.pair (.sl (.int .i64)) (.pair (.int .i64) (.sl (.sl (.int .i64))))))) o0_1])]) := he
  refine ⟨rfl, rfl, ?_⟩
  obtain ⟨r1_, hr, he⟩ := ok_bind he
  refine ⟨r1_, hr, ?_⟩
  have he := ok_some he
  exact ⟨rfl, _, _, (leads_ren [] (l := [(3, .c (.bool (!r1_)))]) (st' := [(0, .rc [.imm (.int .i64) o0_0, .imm (.pair (.int .i64) (.pair (.sl (.int .i64)) (.pair (.sl (.int .i64)) (.pair (.int .i64) (.sl (.sl (.int .i64))))))) o0_1])]) rfl rfl ⟨⟨.inl rfl, .inl rfl, trivial⟩, trivial⟩ ⟨.inl rfl, trivial⟩), he⟩

noncomputable def c_slices_IndexFunc_impl_Rule__impl_ModelValid_1 : Con := fun args st => match args, st with
  | [.c (.imm (.pair (.int .i64) (.pair (.sl (.int .i64)) (.pair (.sl (.int .i64)) (.pair (.int .i64) (.sl (.sl (.int .i64))))))) s_), .c (.fn 131 [0])], [(0, .rc [.imm (.int .i64) o0_0, .imm (.pair (.int .i64) (.pair (.sl (.int .i64)) (.pair (.sl (.int .i64)) (.pair (.int .i64) (.sl (.sl (.int .i64))))))) o0_1])] => .opt (Int) (slices_IndexFunc_impl_Rule__impl_ModelValid_1 s_ (o0_0, o0_1)) (fun r => .ret (.c (.int .i64 r)) [(0, .rc [.imm (.int .i64) o0_0, .imm (.pair (.int .i64) (.pair (.sl (.int .i64)) (.pair (.sl (.int .i64)) (.pair (.int .i64) (.sl (.sl (.int .i64))))))) o0_1])])
  | _, _ => .fail

noncomputable def C_slices_IndexFunc_impl_Rule__impl_ModelValid_1 : Cfg := { y := tys, n := 19, h := 1, tab := [(131, c_impl_ModelValid_1)], cut := [], hand := [], good := [], deep := [], sched := [] }

theorem t_slices_IndexFunc_impl_Rule__impl_ModelValid_1 : TabOk Try.prog C_slices_IndexFunc_impl_Rule__impl_ModelValid_1 := by
  refine tabOk_of ?_
  simp only [C_slices_IndexFunc_impl_Rule__impl_ModelValid_1, List.forall_mem_cons]
  exact ⟨k_impl_ModelValid_1, fun p h => by cases h⟩

theorem k_slices_IndexFunc_impl_Rule__impl_ModelValid_1 : Entry Try.prog 215 c_slices_IndexFunc_impl_Rule__impl_ModelValid_1 := by
  refine entry_by (C := C_slices_IndexFunc_impl_Rule__impl_ModelValid_1) mixed tys_ok t_slices_IndexFunc_impl_Rule__impl_ModelValid_1 (fn := Try.f215) (c := bd Try.f215) (by kernel_rfl) (by kernel_rfl) (by kernel_rfl) (by kernel_rfl) ?_
  intro args st k he
  unfold c_slices_IndexFunc_impl_Rule__impl_ModelValid_1 at he
  split at he
  rotate_left
  · exact he.elim
  rename_i s_ o0_0 o0_1
  have he : Ok (slices_IndexFunc_impl_Rule__impl_ModelValid_1 s_ (o0_0, o0_1)) (fun r => k (.c (.int .i64 r)) [(0, .rc [.imm (.int .i64) o0_0, .imm (.pair (.int .i64) (.pair (.sl (.int .i64)) (.pair (.sl (.int .i64)) (.pair (.int .i64) (.sl (.sl (.int .i64))))))) o0_1])]) := he
  refine ⟨rfl, rfl, ?_⟩
  refine loop_model mixed tys_ok t_slices_IndexFunc_impl_Rule__impl_ModelValid_1 (S := Int) (I := (fun i => (envOf [(0, .c (.imm (.pair (.int .i64) (.pair (.sl (.int .i64)) (.pair (.sl (.int .i64)) (.pair (.int .i64) (.sl (.sl (.int .i64))))))) s_)), (1, .c (.fn 131 [0])), (7, .c (.int .i64 (s_.length:Int))), (8, .c (.int .i64 i))], [(0, .rc [.imm (.int .i64) (o0_0, o0_1).1, .imm (.pair (.int .i64) (.pair (.sl (.int .i64)) (.pair (.sl (.int .i64)) (.pair (.int .i64) (.sl (.sl (.int .i64))))))) (o0_0, o0_1).2])]))) (f := slices_IndexFunc_impl_Rule__impl_ModelValid_1_l1 s_ (o0_0, o0_1)) (K := (fun r => k (.c (.int .i64 r)) [(0, .rc [.imm (.int .i64) o0_0, .imm (.pair (.int .i64) (.pair (.sl (.int .i64)) (.pair (.sl (.int .i64)) (.pair (.int .i64) (.sl (.sl (.int .i64))))))) o0_1])])) he (leads_ren [] (l := [(0, .c (.imm (.pair (.int .i64) (.pair (.sl (.int .i64)) (.pair (.sl (.int .i64)) (.pair (.int .i64) (.sl (.sl (.int .i64))))))) s_)), (1, .c (.fn 131 [0])), (7, .c (.int .i64 (s_.length:Int))), (8, .c (.int .i64 (0:Int)))]) (st' := [(0, .rc [.imm (.int .i64) (o0_0, o0_1).1, .imm (.pair (.int .i64) (.pair (.sl (.int .i64)) (.pair (.sl (.int .i64)) (.pair (.int .i64) (.sl (.sl (.int .i64))))))) (o0_0, o0_1).2])]) rfl rfl ⟨⟨.inl rfl, .inl rfl, trivial⟩, trivial⟩ ⟨.inl rfl, ⟨rfl, ⟨⟨rfl, rfl⟩, trivial⟩⟩, rfl, rfl, trivial⟩) ?_
  rintro i J1 he
  refine And.intro (fun hb => ?_) (fun hb => ?_)
  · have he := ok_t he hb
    have he := ok_rq he
    refine And.intro he.1 ?_
    have he := he.2
    obtain ⟨r1_, hr, he⟩ := ok_bind he
    refine ⟨r1_, hr, ?_⟩
    refine And.intro (fun hb => ?_) (fun hb => ?_)
    · have he := ok_t he hb
      have he := ok_some he
      exact ⟨rfl, _, _, (leads_ren [] (l := [(4, .c (.int .i64 i))]) (st' := [(0, .rc [.imm (.int .i64) o0_0, .imm (.pair (.int .i64) (.pair (.sl (.int .i64)) (.pair (.sl (.int .i64)) (.pair (.int .i64) (.sl (.sl (.int .i64))))))) o0_1])]) rfl rfl ⟨⟨.inl rfl, .inl rfl, trivial⟩, trivial⟩ ⟨rfl, trivial⟩), he⟩
    · have he := ok_f he hb
      have he := ok_rq he
      refine And.intro he.1 ?_
      have he := he.2
      have he := ok_some he
      exact ⟨(i + (1:Int)), he, (leads_ren [] (l := [(0, .c (.imm (.pair (.int .i64) (.pair (.sl (.int .i64)) (.pair (.sl (.int .i64)) (.pair (.int .i64) (.sl (.sl (.int .i64))))))) s_)), (1, .c (.fn 131 [0])), (7, .c (.int .i64 (s_.length:Int))), (8, .c (.int .i64 (i + (1:Int))))]) (st' := [(0, .rc [.imm (.int .i64) (o0_0, o0_1).1, .imm (.pair (.int .i64) (.pair (.sl (.int .i64)) (.pair (.sl (.int .i64)) (.pair (.int .i64) (.sl (.sl (.int .i64))))))) (o0_0, o0_1).2])]) rfl rfl ⟨⟨.inl rfl, .inl rfl, trivial⟩, trivial⟩ ⟨.inl rfl, ⟨rfl, ⟨⟨rfl, rfl⟩, trivial⟩⟩, rfl, rfl, trivial⟩)⟩
  · have he := ok_f he hb
    have he := ok_some he
    exact ⟨rfl, _, _, (leads_ren [] (l := [(4, .c (.int .i64 (-1:Int)))]) (st' := [(0, .rc [.imm (.int .i64) o0_0, .imm (.pair (.int .i64) (.pair (.sl (.int .i64)) (.pair (.sl (.int .i64)) (.pair (.int .i64) (.sl (.sl (.int .i64))))))) o0_1])]) rfl rfl ⟨⟨.inl rfl, .inl rfl, trivial⟩, trivial⟩ ⟨rfl, trivial⟩), he⟩

noncomputable def c_slices_ContainsFunc_impl_Rule__impl_ModelValid_1 : Con := fun args st => match args, st with
  | [.c (.imm (.pair (.int .i64) (.pair (.sl (.int .i64)) (.pair (.sl (.int .i64)) (.pair (.int .i64) (.sl (.sl (.int .i64))))))) s_), .c (.fn 131 [0])], [(0, .rc [.imm (.int .i64) o0_0, .imm (.pair (.int .i64) (.pair (.sl (.int .i64)) (.pair (.sl (.int .i64)) (.pair (.int .i64) (.sl (.sl (.int .i64))))))) o0_1])] => .opt (Bool) (slices_ContainsFunc_impl_Rule__impl_ModelValid_1 s_ (o0_0, o0_1)) (fun r => .ret (.c (.bool r)) [(0, .rc [.imm (.int .i64) o0_0, .imm (.pair (.int .i64) (.pair (.sl (.int .i64)) (.pair (.sl (.int .i64)) (.pair (.int .i64) (.sl (.sl (.int .i64))))))) o0_1])])
  | _, _ => .fail

noncomputable def C_slices_ContainsFunc_impl_Rule__impl_ModelValid_1 : Cfg := { y := tys, n := 9, h := 1, tab := [(215, c_slices_IndexFunc_impl_Rule__impl_ModelValid_1)], cut := [], hand := [], good := [], deep := [], sched := [] }

theorem t_slices_ContainsFunc_impl_Rule__impl_ModelValid_1 : TabOk Try.prog C_slices_ContainsFunc_impl_Rule__impl_ModelValid_1 := by
  refine tabOk_of ?_
  simp only [C_slices_ContainsFunc_impl_Rule__impl_ModelValid_1, List.forall_mem_cons]
  exact ⟨k_slices_IndexFunc_impl_Rule__impl_ModelValid_1, fun p h => by cases h⟩

theorem k_slices_ContainsFunc_impl_Rule__impl_ModelValid_1 : Entry Try.prog 130 c_slices_ContainsFunc_impl_Rule__impl_ModelValid_1 := by
  refine entry_by (C := C_slices_ContainsFunc_impl_Rule__impl_ModelValid_1) mixed tys_ok t_slices_ContainsFunc_impl_Rule__impl_ModelValid_1 (fn := Try.f130) (c := bd Try.f130) (by kernel_rfl) (by kernel_rfl) (by kernel_rfl) (by kernel_rfl) ?_
  intro args st k he
  unfold c_slices_ContainsFunc_impl_Rule__impl_ModelValid_1 at he
  split at he
  rotate_left
  · exact he.elim
  rename_i s_ o0_0 o0_1
  have he : Ok (slices_ContainsFunc_impl_Rule__impl_ModelValid_1 s_ (o0_0, o0_1)) (fun r => k (.c (.bool r)) [(0, .rc [.imm (.int .i64) o0_0, .imm (.pair (.int .i64) (.pair (.sl (.int .i64)) (.pair (.sl (.int .i64)) (.pair (.int .i64) (.sl (.sl (.int .i64))))))) o0_1])]) := he
  refine ⟨rfl, rfl, ?_⟩
  obtain ⟨r1_, hr, he⟩ := ok_bind he
  refine ⟨r1_, hr, ?_⟩
  have he := ok_some he
  exact ⟨rfl, _, _, (leads_ren [] (l := [(4, .c (.bool (decide ((0:Int) ≤ r1_))))]) (st' := [(0, .rc [.imm (.int .i64) o0_0, .imm (.pair (.int .i64) (.pair (.sl (.int .i64)) (.pair (.sl (.int .i64)) (.pair (.int .i64) (.sl (.sl (.int .i64))))))) o0_1])]) rfl rfl ⟨⟨.inl rfl, .inl rfl, trivial⟩, trivial⟩ ⟨.inl rfl, trivial⟩), he⟩

noncomputable def c_impl_ModelValid : Con := fun args st => match args, st with
  | [.agg [.imm (.int .i64) m_0, .imm (.pair (.int .i64) (.pair (.sl (.int .i64)) (.pair (.sl (.int .i64)) (.pair (.int .i64) (.sl (.sl (.int .i64))))))) m_1]], [] => .opt (Bool) (impl_ModelValid (m_0, m_1)) (fun r => .ret (.c (.bool r)) [])
  | _, _ => .fail

noncomputable def C_impl_ModelValid : Cfg := { y := tys, n := 41, h := 0, tab := [(101, c_impl_within), (130, c_slices_ContainsFunc_impl_Rule__impl_ModelValid_1)], cut := [], hand := [], good := [], deep := [], sched := [] }

theorem t_impl_ModelValid : TabOk Try.prog C_impl_ModelValid := by
  refine tabOk_of ?_
  simp only [C_impl_ModelValid, List.forall_mem_cons]
  exact ⟨k_impl_within, k_slices_ContainsFunc_impl_Rule__impl_ModelValid_1, fun p h => by cases h⟩

theorem k_impl_ModelValid : Entry Try.prog 39 c_impl_ModelValid := by
  refine entry_by (C := C_impl_ModelValid) mixed tys_ok t_impl_ModelValid (fn := Try.f39) (c := bd Try.f39) (by kernel_rfl) (by kernel_rfl) (by kernel_rfl) (by kernel_rfl) ?_
  intro args st k he
  unfold c_impl_ModelValid at he
  split at he
  rotate_left
  · exact he.elim
  rename_i m_0 m_1
  have he : Ok (impl_ModelValid (m_0, m_1)) (fun r => k (.c (.bool r)) []) := he
  refine ⟨rfl, rfl, ?_⟩
  obtain ⟨r1_, hr, he⟩ := ok_bind he
  refine ⟨r1_, hr, ?_⟩
  refine And.intro (fun hb => ?_) (fun hb => ?_)
  · have he := ok_f he hb
    refine And.intro (fun hb => ?_) (fun hb => ?_)
    · have he := ok_t he hb
      have he := ok_some he
      exact ⟨rfl, _, _, (leads_ren [] (l := [(2, .c (.bool false))]) (st' := []) rfl rfl trivial ⟨.inr rfl, trivial⟩), he⟩
    · have he := ok_f he hb
      refine loop_model mixed tys_ok t_impl_ModelValid (S := Int × Int) (I := (fun (count, i) => (envOf [(1, .c (.ptr 10000000 0)), (3, .c (.int .i64 count)), (18, .c (.imm (.int .i64) (m_0, m_1).1)), (19, .c (.int .i64 ((m_0, m_1).1.length:Int))), (20, .c (.int .i64 i))], [(10000000, .rc [.imm (.int .i64) (m_0, m_1).1, .imm (.pair (.int .i64) (.pair (.sl (.int .i64)) (.pair (.sl (.int .i64)) (.pair (.int .i64) (.sl (.sl (.int .i64))))))) (m_0, m_1).2])]))) (f := impl_ModelValid_l1 (m_0, m_1)) (K := (fun r => k (.c (.bool r)) [])) he (leads_ren [(10000000, 1)] (l := [(1, .c (.ptr 10000000 0)), (3, .c (.int .i64 (0:Int))), (18, .c (.imm (.int .i64) (m_0, m_1).1)), (19, .c (.int .i64 ((m_0, m_1).1.length:Int))), (20, .c (.int .i64 (0:Int)))]) (st' := [(10000000, .rc [.imm (.int .i64) (m_0, m_1).1, .imm (.pair (.int .i64) (.pair (.sl (.int .i64)) (.pair (.sl (.int .i64)) (.pair (.int .i64) (.sl (.sl (.int .i64))))))) (m_0, m_1).2])]) rfl rfl ⟨⟨.inl rfl, .inl rfl, trivial⟩, trivial⟩ ⟨⟨⟨rfl, rfl⟩, rfl⟩, rfl, .inl rfl, rfl, rfl, trivial⟩) ?_
      rintro ⟨count, i⟩ J1 he
      refine And.intro (fun hb => ?_) (fun hb => ?_)
      · have he := ok_t he hb
        have he := ok_rq he
        refine And.intro he.1 ?_
        have he := he.2
        obtain ⟨r2_, hr, he⟩ := ok_bind he
        refine ⟨r2_, hr, ?_⟩
        refine And.intro (fun hb => ?_) (fun hb => ?_)
        · have he := ok_t he hb
          have he := ok_some he
          exact ⟨rfl, _, _, (leads_ren [] (l := [(2, .c (.bool false))]) (st' := []) rfl rfl trivial ⟨.inr rfl, trivial⟩), he⟩
        · have he := ok_f he hb
          have he := ok_rq he
          refine And.intro he.1 ?_
          have he := he.2
          have he := ok_rq he
          refine And.intro he.1 ?_
          have he := he.2
          have he := ok_rq he
          refine And.intro he.1 ?_
          have he := he.2
          have he := ok_some he
          exact ⟨((count + (((m_0, m_1).1.getD i.toNat 0) + (1:Int))), (i + (1:Int))), he, (leads_ren [] (l := [(1, .c (.ptr 10000000 0)), (3, .c (.int .i64 (count + (((m_0, m_1).1.getD i.toNat 0) + (1:Int))))), (18, .c (.imm (.int .i64) (m_0, m_1).1)), (19, .c (.int .i64 ((m_0, m_1).1.length:Int))), (20, .c (.int .i64 (i + (1:Int))))]) (st' := [(10000000, .rc [.imm (.int .i64) (m_0, m_1).1, .imm (.pair (.int .i64) (.pair (.sl (.int .i64)) (.pair (.sl (.int .i64)) (.pair (.int .i64) (.sl (.sl (.int .i64))))))) (m_0, m_1).2])]) rfl rfl ⟨⟨.inl rfl, .inl rfl, trivial⟩, trivial⟩ ⟨⟨⟨rfl, rfl⟩, rfl⟩, rfl, .inl rfl, rfl, rfl, trivial⟩)⟩
      · have he := ok_f he hb
        refine And.intro (fun hb => ?_) (fun hb => ?_)
        · have he := ok_t he hb
          obtain ⟨r3_, hr, he⟩ := ok_bind he
          refine ⟨r3_, hr, ?_⟩
          have he := ok_some he
          exact ⟨rfl, _, _, (leads_ren [] (l := [(2, .c (.bool (!r3_)))]) (st' := []) rfl rfl trivial ⟨.inl rfl, trivial⟩), he⟩
        · have he := ok_f he hb
          have he := ok_some he
          exact ⟨rfl, _, _, (leads_ren [] (l := [(2, .c (.bool false))]) (st' := []) rfl rfl trivial ⟨.inr rfl, trivial⟩), he⟩
  · have he := ok_t he hb
    have he := ok_some he
    exact ⟨rfl, _, _, (leads_ren [] (l := [(2, .c (.bool false))]) (st' := []) rfl rfl trivial ⟨.inr rfl, trivial⟩), he⟩

noncomputable def c_impl_isObjective_1 : Con := fun args st => match args, st with
  | [.c (.int .i64 n)], [] => .opt (Bool) (impl_isObjective_1 n) (fun r => .ret (.c (.bool r)) [])
  | _, _ => .fail

noncomputable def C_impl_isObjective_1 : Cfg := { y := tys, n := 6, h := 0, tab := [(101, c_impl_within)], cut := [], hand := [], good := [], deep := [], sched := [] }

theorem t_impl_isObjective_1 : TabOk Try.prog C_impl_isObjective_1 := by
  refine tabOk_of ?_
  simp only [C_impl_isObjective_1, List.forall_mem_cons]
  exact ⟨k_impl_within, fun p h => by cases h⟩

theorem k_impl_isObjective_1 : Entry Try.prog 205 c_impl_isObjective_1 := by
  refine entry_by (C := C_impl_isObjective_1) mixed tys_ok t_impl_isObjective_1 (fn := Try.f205) (c := bd Try.f205) (by kernel_rfl) (by kernel_rfl) (by kernel_rfl) (by kernel_rfl) ?_
  intro args st k he
  unfold c_impl_isObjective_1 at he
  split at he
  rotate_left
  · exact he.elim
  rename_i n
  have he : Ok (impl_isObjective_1 n) (fun r => k (.c (.bool r)) []) := he
  refine ⟨rfl, rfl, ?_⟩
  obtain ⟨r1_, hr, he⟩ := ok_bind he
  refine ⟨r1_, hr, ?_⟩
  have he := ok_some he
  exact ⟨rfl, _, _, Leads.refl _ _, he⟩

noncomputable def c_slices_IndexFunc_int__impl_isObjective_1 : Con := fun args st => match args, st with
  | [.c (.imm (.int .i64) s_), .c (.fn 205 [])], [] => .opt (Int) (slices_IndexFunc_int__impl_isObjective_1 s_) (fun r => .ret (.c (.int .i64 r)) [])
  | _, _ => .fail

noncomputable def C_slices_IndexFunc_int__impl_isObjective_1 : Cfg := { y := tys, n := 19, h := 0, tab := [(205, c_impl_isObjective_1)], cut := [], hand := [], good := [], deep := [], sched := [] }

theorem t_slices_IndexFunc_int__impl_isObjective_1 : TabOk Try.prog C_slices_IndexFunc_int__impl_isObjective_1 := by
  refine tabOk_of ?_
  simp only [C_slices_IndexFunc_int__impl_isObjective_1, List.forall_mem_cons]
  exact ⟨k_impl_isObjective_1, fun p h => by cases h⟩

theorem k_slices_IndexFunc_int__impl_isObjective_1 : Entry Try.prog 237 c_slices_IndexFunc_int__impl_isObjective_1 := by
  refine entry_by (C := C_slices_IndexFunc_int__impl_isObjective_1) mixed tys_ok t_slices_IndexFunc_int__impl_isObjective_1 (fn := Try.f237) (c := bd Try.f237) (by kernel_rfl) (by kernel_rfl) (by kernel_rfl) (by kernel_rfl) ?_
  intro args st k he
  unfold c_slices_IndexFunc_int__impl_isObjective_1 at he
  split at he
  rotate_left
  · exact he.elim
  rename_i s_
  have he : Ok (slices_IndexFunc_int__impl_isObjective_1 s_) (fun r => k (.c (.int .i64 r)) []) := he
  refine ⟨rfl, rfl, ?_⟩
  refine loop_model mixed tys_ok t_slices_IndexFunc_int__impl_isObjective_1 (S := Int) (I := (fun i => (envOf [(0, .c (.imm (.int .i64) s_)), (1, .c (.fn 205 [])), (7, .c (.int .i64 (s_.length:Int))), (8, .c (.int .i64 i))], []))) (f := slices_IndexFunc_int__impl_isObjective_1_l1 s_) (K := (fun r => k (.c (.int .i64 r)) [])) he (leads_ren [] (l := [(0, .c (.imm (.int .i64) s_)), (1, .c (.fn 205 [])), (7, .c (.int .i64 (s_.length:Int))), (8, .c (.int .i64 (0:Int)))]) (st' := []) rfl rfl trivial ⟨.inl rfl, ⟨rfl, trivial⟩, rfl, rfl, trivial⟩) ?_
  rintro i J1 he
  refine And.intro (fun hb => ?_) (fun hb => ?_)
  · have he := ok_t he hb
    have he := ok_rq he
    refine And.intro he.1 ?_
    have he := he.2
    obtain ⟨r1_, hr, he⟩ := ok_bind he
    refine ⟨r1_, hr, ?_⟩
    refine And.intro (fun hb => ?_) (fun hb => ?_)
    · have he := ok_t he hb
      have he := ok_some he
      exact ⟨rfl, _, _, Leads.refl _ _, he⟩
    · have he := ok_f he hb
      have he := ok_rq he
      refine And.intro he.1 ?_
      have he := he.2
      have he := ok_some he
      exact ⟨(i + (1:Int)), he, (leads_ren [] (l := [(0, .c (.imm (.int .i64) s_)), (1, .c (.fn 205 [])), (7, .c (.int .i64 (s_.length:Int))), (8, .c (.int .i64 (i + (1:Int))))]) (st' := []) rfl rfl trivial ⟨.inl rfl, ⟨rfl, trivial⟩, rfl, rfl, trivial⟩)⟩
  · have he := ok_f he hb
    have he := ok_some he
    exact ⟨rfl, _, _, Leads.refl _ _, he⟩

noncomputable def c_slices_ContainsFunc_int__impl_isObjective_1 : Con := fun args st => match args, st with
  | [.c (.imm (.int .i64) s_), .c (.fn 205 [])], [] => .opt (Bool) (slices_ContainsFunc_int__impl_isObjective_1 s_) (fun r => .ret (.c (.bool r)) [])
  | _, _ => .fail

noncomputable def C_slices_ContainsFunc_int__impl_isObjective_1 : Cfg := { y := tys, n := 9, h := 0, tab := [(237, c_slices_IndexFunc_int__impl_isObjective_1)], cut := [], hand := [], good := [], deep := [], sched := [] }

theorem t_slices_ContainsFunc_int__impl_isObjective_1 : TabOk Try.prog C_slices_ContainsFunc_int__impl_isObjective_1 := by
  refine tabOk_of ?_
  simp only [C_slices_ContainsFunc_int__impl_isObjective_1, List.forall_mem_cons]
  exact ⟨k_slices_IndexFunc_int__impl_isObjective_1, fun p h => by cases h⟩

theorem k_slices_ContainsFunc_int__impl_isObjective_1 : Entry Try.prog 174 c_slices_ContainsFunc_int__impl_isObjective_1 := by
  refine entry_by (C := C_slices_ContainsFunc_int__impl_isObjective_1) mixed tys_ok t_slices_ContainsFunc_int__impl_isObjective_1 (fn := Try.f174) (c := bd Try.f174) (by kernel_rfl) (by kernel_rfl) (by kernel_rfl) (by kernel_rfl) ?_
  intro args st k he
  unfold c_slices_ContainsFunc_int__impl_isObjective_1 at he
  split at he
  rotate_left
  · exact he.elim
  rename_i s_
  have he : Ok (slices_ContainsFunc_int__impl_isObjective_1 s_) (fun r => k (.c (.bool r)) []) := he
  refine ⟨rfl, rfl, ?_⟩
  obtain ⟨r1_, hr, he⟩ := ok_bind he
  refine ⟨r1_, hr, ?_⟩
  have he := ok_some he
  exact ⟨rfl, _, _, Leads.refl _ _, he⟩

noncomputable def c_impl_isObjective : Con := fun args st => match args, st with
  | [.agg [.imm (.int .i64) m_0, .imm (.pair (.int .i64) (.pair (.sl (.int .i64)) (.pair (.sl (.int .i64)) (.pair (.int .i64) (.sl (.sl (.int .i64))))))) m_1], .c (.imm (.int .i64) coefs)], [] => .opt (Bool) (impl_isObjective (m_0, m_1) coefs) (fun r => .ret (.c (.bool r)) [])
  | _, _ => .fail

noncomputable def C_impl_isObjective : Cfg := { y := tys, n := 16, h := 0, tab := [(174, c_slices_ContainsFunc_int__impl_isObjective_1)], cut := [], hand := [], good := [], deep := [], sched := [] }

theorem t_impl_isObjective : TabOk Try.prog C_impl_isObjective := by
  refine tabOk_of ?_
  simp only [C_impl_isObjective, List.forall_mem_cons]
  exact ⟨k_slices_ContainsFunc_int__impl_isObjective_1, fun p h => by cases h⟩

theorem k_impl_isObjective : Entry Try.prog 100 c_impl_isObjective := by
  refine entry_by (C := C_impl_isObjective) mixed tys_ok t_impl_isObjective (fn := Try.f100) (c := bd Try.f100) (by kernel_rfl) (by kernel_rfl) (by kernel_rfl) (by kernel_rfl) ?_
  intro args st k he
  unfold c_impl_isObjective at he
  split at he
  rotate_left
  · exact he.elim
  rename_i m_0 m_1 coefs
  have he : Ok (impl_isObjective (m_0, m_1) coefs) (fun r => k (.c (.bool r)) []) := he
  refine ⟨rfl, rfl, ?_⟩
  refine And.intro (fun hb => ?_) (fun hb => ?_)
  · have he := ok_t he hb
    obtain ⟨r1_, hr, he⟩ := ok_bind he
    refine ⟨r1_, hr, ?_⟩
    have he := ok_some he
    exact ⟨rfl, _, _, (leads_ren [] (l := [(4, .c (.bool (!r1_)))]) (st' := []) rfl rfl trivial ⟨.inl rfl, trivial⟩), he⟩
  · have he := ok_f he hb
    have he := ok_some he
    exact ⟨rfl, _, _, (leads_ren [] (l := [(4, .c (.bool false))]) (st' := []) rfl rfl trivial ⟨.inr rfl, trivial⟩), he⟩

noncomputable def c_impl_Model_boolVar : Con := fun args st => match args, st with
  | [.agg [.imm (.int .i64) m_0, .imm (.pair (.int .i64) (.pair (.sl (.int .i64)) (.pair (.sl (.int .i64)) (.pair (.int .i64) (.sl (.sl (.int .i64))))))) m_1], .c (.int .i64 cell), .c (.int .i64 value)], [] => .opt (Int) (impl_Model_boolVar (m_0, m_1) cell value) (fun r => .ret (.c (.int .i64 r)) [])
  | _, _ => .fail

noncomputable def C_impl_Model_boolVar : Cfg := { y := tys, n := 27, h := 0, tab := [], cut := [], hand := [], good := [], deep := [], sched := [] }

theorem t_impl_Model_boolVar : TabOk Try.prog C_impl_Model_boolVar := tabOk_of (fun p h => by cases h)

theorem k_impl_Model_boolVar : Entry Try.prog 102 c_impl_Model_boolVar := by
  refine entry_by (C := C_impl_Model_boolVar) mixed tys_ok t_impl_Model_boolVar (fn := Try.f102) (c := bd Try.f102) (by kernel_rfl) (by kernel_rfl) (by kernel_rfl) (by kernel_rfl) ?_
  intro args st k he
  unfold c_impl_Model_boolVar at he
  split at he
  rotate_left
  · exact he.elim
  rename_i m_0 m_1 cell value
  have he : Ok (impl_Model_boolVar (m_0, m_1) cell value) (fun r => k (.c (.int .i64 r)) []) := he
  refine ⟨rfl, rfl, ?_⟩
  have he := ok_rq he
  refine And.intro he.1 ?_
  have he := he.2
  have he := ok_rq he
  refine And.intro he.1 ?_
  have he := he.2
  refine loop_model mixed tys_ok t_impl_Model_boolVar (S := Int × Int) (I := (fun (v, i) => (envOf [(7, .c (.int .i64 v)), (15, .c (.imm (.int .i64) ((m_0, m_1).1.take cell.toNat))), (16, .c (.int .i64 (((m_0, m_1).1.take cell.toNat).length:Int))), (17, .c (.int .i64 i))], []))) (f := impl_Model_boolVar_l1 (m_0, m_1) cell) (K := (fun r => k (.c (.int .i64 r)) [])) he (leads_ren [] (l := [(7, .c (.int .i64 ((1:Int) + value))), (15, .c (.imm (.int .i64) ((m_0, m_1).1.take cell.toNat))), (16, .c (.int .i64 (((m_0, m_1).1.take cell.toNat).length:Int))), (17, .c (.int .i64 (0:Int)))]) (st' := []) rfl rfl trivial ⟨rfl, .inl rfl, rfl, rfl, trivial⟩) ?_
  rintro ⟨v, i⟩ J1 he
  refine And.intro (fun hb => ?_) (fun hb => ?_)
  · have he := ok_t he hb
    have he := ok_rq he
    refine And.intro he.1 ?_
    have he := he.2
    have he := ok_rq he
    refine And.intro he.1 ?_
    have he := he.2
    have he := ok_rq he
    refine And.intro he.1 ?_
    have he := he.2
    have he := ok_rq he
    refine And.intro he.1 ?_
    have he := he.2
    have he := ok_some he
    exact ⟨((v + ((((m_0, m_1).1.take cell.toNat).getD i.toNat 0) + (1:Int))), (i + (1:Int))), he, (leads_ren [] (l := [(7, .c (.int .i64 (v + ((((m_0, m_1).1.take cell.toNat).getD i.toNat 0) + (1:Int))))), (15, .c (.imm (.int .i64) ((m_0, m_1).1.take cell.toNat))), (16, .c (.int .i64 (((m_0, m_1).1.take cell.toNat).length:Int))), (17, .c (.int .i64 (i + (1:Int))))]) (st' := []) rfl rfl trivial ⟨rfl, .inl rfl, rfl, rfl, trivial⟩)⟩
  · have he := ok_f he hb
    have he := ok_some he
    exact ⟨rfl, _, _, Leads.refl _ _, he⟩

noncomputable def c_impl_isLiteral : Con := fun args st => match args, st with
  | [.c (.int .i64 l)], [] => .opt (Bool) (impl_isLiteral l) (fun r => .ret (.c (.bool r)) [])
  | _, _ => .fail

noncomputable def C_impl_isLiteral : Cfg := { y := tys, n := 9, h := 0, tab := [(101, c_impl_within)], cut := [], hand := [], good := [], deep := [], sched := [] }

theorem t_impl_isLiteral : TabOk Try.prog C_impl_isLiteral := by
  refine tabOk_of ?_
  simp only [C_impl_isLiteral, List.forall_mem_cons]
  exact ⟨k_impl_within, fun p h => by cases h⟩

theorem k_impl_isLiteral : Entry Try.prog 110 c_impl_isLiteral := by
  refine entry_by (C := C_impl_isLiteral) mixed tys_ok t_impl_isLiteral (fn := Try.f110) (c := bd Try.f110) (by kernel_rfl) (by kernel_rfl) (by kernel_rfl) (by kernel_rfl) ?_
  intro args st k he
  unfold c_impl_isLiteral at he
  split at he
  rotate_left
  · exact he.elim
  rename_i l
  have he : Ok (impl_isLiteral l) (fun r => k (.c (.bool r)) []) := he
  refine ⟨rfl, rfl, ?_⟩
  refine And.intro (fun hb => ?_) (fun hb => ?_)
  · have he := ok_t he hb
    obtain ⟨r1_, hr, he⟩ := ok_bind he
    refine ⟨r1_, hr, ?_⟩
    have he := ok_some he
    exact ⟨rfl, _, _, Leads.refl _ _, he⟩
  · have he := ok_f he hb
    have he := ok_some he
    exact ⟨rfl, _, _, Leads.refl _ _, he⟩

noncomputable def c_impl_variableOf : Con := fun args st => match args, st with
  | [.c (.int .i64 l)], [] => .opt (Int) (impl_variableOf l) (fun r => .ret (.c (.int .i64 r)) [])
  | _, _ => .fail

noncomputable def C_impl_variableOf : Cfg := { y := tys, n := 7, h := 0, tab := [], cut := [], hand := [], good := [], deep := [], sched := [] }

theorem t_impl_variableOf : TabOk Try.prog C_impl_variableOf := tabOk_of (fun p h => by cases h)

theorem k_impl_variableOf : Entry Try.prog 111 c_impl_variableOf := by
  refine entry_by (C := C_impl_variableOf) mixed tys_ok t_impl_variableOf (fn := Try.f111) (c := bd Try.f111) (by kernel_rfl) (by kernel_rfl) (by kernel_rfl) (by kernel_rfl) ?_
  intro args st k he
  unfold c_impl_variableOf at he
  split at he
  rotate_left
  · exact he.elim
  rename_i l
  have he : Ok (impl_variableOf l) (fun r => k (.c (.int .i64 r)) []) := he
  refine ⟨rfl, rfl, ?_⟩
  have he := ok_rq he
  refine And.intro he.1 ?_
  have he := he.2
  have he := ok_some he
  exact ⟨rfl, _, _, Leads.refl _ _, he⟩

noncomputable def c_impl_ConstraintValid : Con := fun args st => match args, st with
  | [.agg [.imm (.pair (.int .i64) (.int .i64)) c__0, .int .i64 c__1]], [] => .opt (Bool) (impl_ConstraintValid (c__0, c__1)) (fun r => .ret (.c (.bool r)) [])
  | _, _ => .fail

noncomputable def C_impl_ConstraintValid : Cfg := { y := tys, n := 37, h := 0, tab := [(101, c_impl_within), (110, c_impl_isLiteral), (111, c_impl_variableOf)], cut := [], hand := [], good := [], deep := [], sched := [] }

theorem t_impl_ConstraintValid : TabOk Try.prog C_impl_ConstraintValid := by
  refine tabOk_of ?_
  simp only [C_impl_ConstraintValid, List.forall_mem_cons]
  exact ⟨k_impl_within, k_impl_isLiteral, k_impl_variableOf, fun p h => by cases h⟩

theorem k_impl_ConstraintValid : Entry Try.prog 22 c_impl_ConstraintValid := by
  refine entry_by (C := C_impl_ConstraintValid) mixed tys_ok t_impl_ConstraintValid (fn := Try.f22) (c := bd Try.f22) (by kernel_rfl) (by kernel_rfl) (by kernel_rfl) (by kernel_rfl) ?_
  intro args st k he
  unfold c_impl_ConstraintValid at he
  split at he
  rotate_left
  · exact he.elim
  rename_i c__0 c__1
  have he : Ok (impl_ConstraintValid (c__0, c__1)) (fun r => k (.c (.bool r)) []) := he
  refine ⟨rfl, rfl, ?_⟩
  refine loop_model mixed tys_ok t_impl_ConstraintValid (S := Int × Int) (I := (fun (before, i) => (envOf [(1, .c (.ptr 10000000 0)), (3, .c (.int .i64 before)), (7, .c (.imm (.pair (.int .i64) (.int .i64)) (c__0, c__1).1)), (8, .c (.int .i64 ((c__0, c__1).1.length:Int))), (9, .c (.int .i64 i))], [(10000000, .rc [.imm (.pair (.int .i64) (.int .i64)) (c__0, c__1).1, .int .i64 (c__0, c__1).2])]))) (f := impl_ConstraintValid_l1 (c__0, c__1)) (K := (fun r => k (.c (.bool r)) [])) he (leads_ren [(10000000, 1)] (l := [(1, .c (.ptr 10000000 0)), (3, .c (.int .i64 (0:Int))), (7, .c (.imm (.pair (.int .i64) (.int .i64)) (c__0, c__1).1)), (8, .c (.int .i64 ((c__0, c__1).1.length:Int))), (9, .c (.int .i64 (0:Int)))]) (st' := [(10000000, .rc [.imm (.pair (.int .i64) (.int .i64)) (c__0, c__1).1, .int .i64 (c__0, c__1).2])]) rfl rfl ⟨⟨.inl rfl, rfl, trivial⟩, trivial⟩ ⟨⟨⟨rfl, rfl⟩, rfl⟩, rfl, .inl rfl, rfl, rfl, trivial⟩) ?_
  rintro ⟨before, i⟩ J1 he
  refine And.intro (fun hb => ?_) (fun hb => ?_)
  · have he := ok_t he hb
    have he := ok_rq he
    refine And.intro he.1 ?_
    have he := he.2
    obtain ⟨r1_, hr, he⟩ := ok_bind he
    refine ⟨r1_, hr, ?_⟩
    refine And.intro (fun hb => ?_) (fun hb => ?_)
    · have he := ok_f he hb
      obtain ⟨r2_, hr, he⟩ := ok_bind he
      refine ⟨r2_, hr, ?_⟩
      refine And.intro (fun hb => ?_) (fun hb => ?_)
      · have he := ok_f he hb
        obtain ⟨r3_, hr, he⟩ := ok_bind he
        refine ⟨r3_, hr, ?_⟩
        refine And.intro (fun hb => ?_) (fun hb => ?_)
        · have he := ok_t he hb
          have he := ok_some he
          exact ⟨rfl, _, _, (leads_ren [] (l := [(2, .c (.bool false))]) (st' := []) rfl rfl trivial ⟨.inr rfl, trivial⟩), he⟩
        · have he := ok_f he hb
          obtain ⟨r4_, hr, he⟩ := ok_bind he
          refine ⟨r4_, hr, ?_⟩
          have he := ok_rq he
          refine And.intro he.1 ?_
          have he := he.2
          have he := ok_some he
          exact ⟨(r4_, (i + (1:Int))), he, (leads_ren [] (l := [(1, .c (.ptr 10000000 0)), (3, .c (.int .i64 r4_)), (7, .c (.imm (.pair (.int .i64) (.int .i64)) (c__0, c__1).1)), (8, .c (.int .i64 ((c__0, c__1).1.length:Int))), (9, .c (.int .i64 (i + (1:Int))))]) (st' := [(10000000, .rc [.imm (.pair (.int .i64) (.int .i64)) (c__0, c__1).1, .int .i64 (c__0, c__1).2])]) rfl rfl ⟨⟨.inl rfl, rfl, trivial⟩, trivial⟩ ⟨⟨⟨rfl, rfl⟩, rfl⟩, rfl, .inl rfl, rfl, rfl, trivial⟩)⟩
      · have he := ok_t he hb
        have he := ok_some he
        exact ⟨rfl, _, _, (leads_ren [] (l := [(2, .c (.bool false))]) (st' := []) rfl rfl trivial ⟨.inr rfl, trivial⟩), he⟩
    · have he := ok_t he hb
      have he := ok_some he
      exact ⟨rfl, _, _, (leads_ren [] (l := [(2, .c (.bool false))]) (st' := []) rfl rfl trivial ⟨.inr rfl, trivial⟩), he⟩
  · have he := ok_f he hb
    obtain ⟨r5_, hr, he⟩ := ok_bind he
    refine ⟨r5_, hr, ?_⟩
    have he := ok_some he
    exact ⟨rfl, _, _, (leads_ren [] (l := [(2, .c (.bool r5_))]) (st' := []) rfl rfl trivial ⟨.inl rfl, trivial⟩), he⟩

noncomputable def c_impl_Constraint_valid__s : Con := fun args st => match args, st with
  | [.agg [.own 0 false, .int .i64 c_1]], [(0, .sl 140 (.pair (.int .i64) (.int .i64)) o0 .shallow)] => .opt (Bool × Int × (List (Int × Int))) (impl_Constraint_valid__s c_1 o0) (fun r => .ret (.tup [.agg [.own 901 false, .int .i64 r.2.1], .c (.bool r.1)]) [(0, .dead), (900, .rc [.own 901 false, .int .i64 r.2.1]), (901, .sl 140 (.pair (.int .i64) (.int .i64)) r.2.2 .shallow)])
  | _, _ => .fail

noncomputable def C_impl_Constraint_valid__s : Cfg := { y := tys, n := 9, h := 1, tab := [(22, c_impl_ConstraintValid)], cut := [], hand := [], good := [], deep := [], sched := [] }

theorem t_impl_Constraint_valid__s : TabOk Try.prog C_impl_Constraint_valid__s := by
  refine tabOk_of ?_
  simp only [C_impl_Constraint_valid__s, List.forall_mem_cons]
  exact ⟨k_impl_ConstraintValid, fun p h => by cases h⟩

theorem k_impl_Constraint_valid__s : Entry Try.prog 206 c_impl_Constraint_valid__s := by
  refine entry_by (C := C_impl_Constraint_valid__s) mixed tys_ok t_impl_Constraint_valid__s (fn := Try.f206) (c := bd Try.f206) (by kernel_rfl) (by kernel_rfl) (by kernel_rfl) (by kernel_rfl) ?_
  intro args st k he
  unfold c_impl_Constraint_valid__s at he
  split at he
  rotate_left
  · exact he.elim
  rename_i c_1 o0
  have he : Ok (impl_Constraint_valid__s c_1 o0) (fun r => k (.tup [.agg [.own 901 false, .int .i64 r.2.1], .c (.bool r.1)]) [(0, .dead), (900, .rc [.own 901 false, .int .i64 r.2.1]), (901, .sl 140 (.pair (.int .i64) (.int .i64)) r.2.2 .shallow)]) := he
  refine ⟨rfl, rfl, ?_⟩
  obtain ⟨r1_, hr, he⟩ := ok_bind he
  refine ⟨r1_, hr, ?_⟩
  refine And.intro (fun hb => ?_) (fun hb => ?_)
  · have he := ok_t he hb
    have he := ok_some he
    exact ⟨rfl, _, _, (leads_ren [(900, 2)] (l := [(2, .c (.ptr 900 0)), (3, .c (.bool false))]) (st' := [(0, .dead), (900, .rc [.own 901 false, .int .i64 (0:Int)]), (901, .sl 140 (.pair (.int .i64) (.int .i64)) ([] : List (Int × Int)) .shallow)]) rfl rfl ⟨trivial, ⟨⟨rfl, trivial⟩, rfl, trivial⟩, trivial, trivial⟩ ⟨⟨⟨rfl, rfl⟩, rfl⟩, .inr rfl, trivial⟩), he⟩
  · have he := ok_f he hb
    have he := ok_some he
    exact ⟨rfl, _, _, (leads_ren [(900, 2), (901, 0)] (l := [(2, .c (.ptr 900 0)), (3, .c (.bool true))]) (st' := [(0, .dead), (900, .rc [.own 901 false, .int .i64 c_1]), (901, .sl 140 (.pair (.int .i64) (.int .i64)) o0 .shallow)]) rfl rfl ⟨trivial, ⟨⟨⟨rfl, rfl⟩, trivial⟩, rfl, trivial⟩, ⟨rfl, rfl⟩, trivial⟩ ⟨⟨⟨rfl, rfl⟩, rfl⟩, .inr rfl, trivial⟩), he⟩

noncomputable def c_impl_normal : Con := fun args st => match args, st with
  | [.c (.imm (.pair (.int .i64) (.int .i64)) a0), .c (.int .i64 a1)], [] => .opt (Bool × Int × (List (Int × Int))) (impl_normal a0 a1) (fun r => .ret (.tup [.agg [.own 901 false, .int .i64 r.2.1], .c (.bool r.1)]) [(900, .rc [.own 901 false, .int .i64 r.2.1]), (901, .sl 140 (.pair (.int .i64) (.int .i64)) r.2.2 .shallow)])
  | _, _ => .fail

noncomputable def C_impl_normal : Cfg := { y := tys, n := 84, h := 0, tab := [(206, c_impl_Constraint_valid__s)], cut := [10, 18, 20], hand := [(206, [0])], good := [], deep := [], sched := [(7, (.first 0 (.first 5 (.alt 1 (.first 2 (.first 3 (.alt 4 (.alt 6 (.first 7 (.first 8 (.alt 9 .done .stop))) .stop) (.alt 6 (.alt 4 (.first 7 (.first 8 (.alt 9 .done .stop))) .stop) .stop)))) (.alt 6 (.alt 1 (.first 2 (.first 3 (.alt 4 (.first 7 (.first 8 (.alt 9 .done .stop))) .stop))) .stop) .stop))))), (8, (.first 0 (.first 4 (.alt 1 (.first 2 (.alt 3 (.alt 5 (.first 6 (.first 7 (.alt 8 .done .stop))) .stop) (.alt 5 (.alt 3 (.first 6 (.first 7 (.alt 8 .done .stop))) .stop) .stop))) (.alt 5 (.alt 1 (.first 2 (.alt 3 (.first 6 (.first 7 (.alt 8 .done .stop))) .stop)) .stop) .stop)))))] }

theorem t_impl_normal : TabOk Try.prog C_impl_normal := by
  refine tabOk_of ?_
  simp only [C_impl_normal, List.forall_mem_cons]
  exact ⟨k_impl_Constraint_valid__s, fun p h => by cases h⟩

theorem k_impl_normal : Entry Try.prog 103 c_impl_normal := by
  refine entry_by (C := C_impl_normal) mixed tys_ok t_impl_normal (fn := Try.f103) (c := bd Try.f103) (by kernel_rfl) (by kernel_rfl) (by kernel_rfl) (by kernel_rfl) ?_
  intro args st k he
  unfold c_impl_normal at he
  split at he
  rotate_left
  · exact he.elim
  rename_i a0 a1
  have he : Ok (impl_normal a0 a1) (fun r => k (.tup [.agg [.own 901 false, .int .i64 r.2.1], .c (.bool r.1)]) [(900, .rc [.own 901 false, .int .i64 r.2.1]), (901, .sl 140 (.pair (.int .i64) (.int .i64)) r.2.2 .shallow)]) := he
  refine ⟨rfl, rfl, ?_⟩
  refine seq_model mixed tys_ok t_impl_normal (S := Int × (List Int)) (I := (fun (i3, i4) => (envOf [(1, .c (.int .i64 i3)), (4, .c (.ptr 10001000 0)), (6, .c (.eptr 10001001 (0:Int) 0))], [(10001000, .rc [.nil, .int .i64 (0:Int)]), (10001001, .sl 207 (.int .i64) i4 .shallow)]))) (B := fun s => Ok (impl_normal_j1 s) (fun r => k (.tup [.agg [.own 901 false, .int .i64 r.2.1], .c (.bool r.1)]) [(900, .rc [.own 901 false, .int .i64 r.2.1]), (901, .sl 140 (.pair (.int .i64) (.int .i64)) r.2.2 .shallow)])) ?_ ?_
  · rintro ⟨i3, i4⟩ he
    refine seq_model mixed tys_ok t_impl_normal (S := Int × (List (Int × Int))) (I := (fun (i9, i_03) => (envOf [(1, .c (.int .i64 i9)), (4, .c (.ptr 10005000 0)), (9, .c (.ptr 10005001 0))], [(10005000, .rc [.nil, .int .i64 (0:Int)]), (10005001, .rc [.own 10005002 false, .int .i64 (0:Int)]), (10005002, .sl 140 (.pair (.int .i64) (.int .i64)) i_03 .shallow)]))) (B := fun s => Ok (impl_normal_j2 s) (fun r => k (.tup [.agg [.own 901 false, .int .i64 r.2.1], .c (.bool r.1)]) [(900, .rc [.own 901 false, .int .i64 r.2.1]), (901, .sl 140 (.pair (.int .i64) (.int .i64)) r.2.2 .shallow)])) ?_ ?_
    · rintro ⟨i9, i_03⟩ he
      obtain ⟨r1_, hr, he⟩ := ok_bind he
      refine ⟨r1_, hr, ?_⟩
      have he := ok_some he
      exact ⟨rfl, _, _, (leads_ren [(900, 10005000), (901, 82901)] (l := [(4, .c (.ptr 900 0)), (5, .c (.bool r1_.1))]) (st' := [(900, .rc [.own 901 false, .int .i64 r1_.2.1]), (901, .sl 140 (.pair (.int .i64) (.int .i64)) r1_.2.2 .shallow)]) rfl rfl ⟨⟨⟨⟨rfl, rfl⟩, trivial⟩, rfl, trivial⟩, ⟨rfl, rfl⟩, trivial⟩ ⟨⟨⟨rfl, rfl⟩, rfl⟩, .inl rfl, trivial⟩), he⟩
    · skip
      have he := ok_rq he
      refine And.intro he.1 ?_
      have he := he.2
      refine loop_model mixed tys_ok t_impl_normal (S := Int × Int × (List (Int × Int))) (I := (fun (i5, i6, i_01) => (envOf [(1, .c (.int .i64 i5)), (4, .c (.ptr 10002000 0)), (9, .c (.ptr 10002001 0)), (44, .agg [.int .i64 (i4.getD 0 0), .int .i64 (i4.getD 1 0), .int .i64 (i4.getD 2 0), .int .i64 (i4.getD 3 0), .int .i64 (i4.getD 4 0), .int .i64 (i4.getD 5 0), .int .i64 (i4.getD 6 0), .int .i64 (i4.getD 7 0), .int .i64 (i4.getD 8 0), .int .i64 (i4.getD 9 0), .int .i64 (i4.getD 10 0), .int .i64 (i4.getD 11 0), .int .i64 (i4.getD 12 0)]), (45, .c (.int .i64 i6))], [(10002000, .rc [.nil, .int .i64 (0:Int)]), (10002001, .rc [.own 10002002 false, .int .i64 (0:Int)]), (10002002, .sl 140 (.pair (.int .i64) (.int .i64)) i_01 .shallow)]))) (f := impl_normal_l1 i4) (K := (fun r => k (.tup [.agg [.own 901 false, .int .i64 r.2.1], .c (.bool r.1)]) [(900, .rc [.own 901 false, .int .i64 r.2.1]), (901, .sl 140 (.pair (.int .i64) (.int .i64)) r.2.2 .shallow)])) he (leads_ren [(10002000, 10001000), (10002001, 9)] (l := [(1, .c (.int .i64 i3)), (4, .c (.ptr 10002000 0)), (9, .c (.ptr 10002001 0)), (44, .agg [.int .i64 (i4.getD 0 0), .int .i64 (i4.getD 1 0), .int .i64 (i4.getD 2 0), .int .i64 (i4.getD 3 0), .int .i64 (i4.getD 4 0), .int .i64 (i4.getD 5 0), .int .i64 (i4.getD 6 0), .int .i64 (i4.getD 7 0), .int .i64 (i4.getD 8 0), .int .i64 (i4.getD 9 0), .int .i64 (i4.getD 10 0), .int .i64 (i4.getD 11 0), .int .i64 (i4.getD 12 0)]), (45, .c (.int .i64 (0:Int)))]) (st' := [(10002000, .rc [.nil, .int .i64 (0:Int)]), (10002001, .rc [.own 10002002 false, .int .i64 (0:Int)]), (10002002, .sl 140 (.pair (.int .i64) (.int .i64)) ([] : List (Int × Int)) .shallow)]) rfl rfl ⟨⟨rfl, rfl, trivial⟩, ⟨⟨rfl, trivial⟩, rfl, trivial⟩, trivial, trivial⟩ ⟨rfl, ⟨⟨rfl, rfl⟩, rfl⟩, ⟨⟨rfl, rfl⟩, rfl⟩, ⟨rfl, rfl, rfl, rfl, rfl, rfl, rfl, rfl, rfl, rfl, rfl, rfl, rfl, trivial⟩, rfl, trivial⟩) ?_
      rintro ⟨i5, i6, i_01⟩ J1 he
      refine And.intro (fun hb => ?_) (fun hb => ?_)
      · have he := ok_t he hb
        have he := ok_rq he
        refine And.intro he.1 ?_
        have he := he.2
        refine And.intro (fun hb => ?_) (fun hb => ?_)
        · have he := ok_t he hb
          have he := ok_rq he
          refine And.intro he.1 ?_
          have he := he.2
          have he := ok_rq he
          refine And.intro he.1 ?_
          have he := he.2
          have he := ok_some he
          exact ⟨(i5, (i6 + (1:Int)), (i_01 ++ [(([(i4.getD 0 0), (i4.getD 1 0), (i4.getD 2 0), (i4.getD 3 0), (i4.getD 4 0), (i4.getD 5 0), (i4.getD 6 0), (i4.getD 7 0), (i4.getD 8 0), (i4.getD 9 0), (i4.getD 10 0), (i4.getD 11 0), (i4.getD 12 0)].getD i6.toNat 0), i6)])), he, (leads_ren [(10002002, 58)] (l := [(1, .c (.int .i64 i5)), (4, .c (.ptr 10002000 0)), (9, .c (.ptr 10002001 0)), (44, .agg [.int .i64 (i4.getD 0 0), .int .i64 (i4.getD 1 0), .int .i64 (i4.getD 2 0), .int .i64 (i4.getD 3 0), .int .i64 (i4.getD 4 0), .int .i64 (i4.getD 5 0), .int .i64 (i4.getD 6 0), .int .i64 (i4.getD 7 0), .int .i64 (i4.getD 8 0), .int .i64 (i4.getD 9 0), .int .i64 (i4.getD 10 0), .int .i64 (i4.getD 11 0), .int .i64 (i4.getD 12 0)]), (45, .c (.int .i64 (i6 + (1:Int))))]) (st' := [(10002000, .rc [.nil, .int .i64 (0:Int)]), (10002001, .rc [.own 10002002 false, .int .i64 (0:Int)]), (10002002, .sl 140 (.pair (.int .i64) (.int .i64)) (i_01 ++ [(([(i4.getD 0 0), (i4.getD 1 0), (i4.getD 2 0), (i4.getD 3 0), (i4.getD 4 0), (i4.getD 5 0), (i4.getD 6 0), (i4.getD 7 0), (i4.getD 8 0), (i4.getD 9 0), (i4.getD 10 0), (i4.getD 11 0), (i4.getD 12 0)].getD i6.toNat 0), i6)]) .shallow)]) rfl rfl ⟨⟨rfl, rfl, trivial⟩, ⟨⟨⟨rfl, rfl⟩, trivial⟩, rfl, trivial⟩, ⟨rfl, rfl⟩, trivial⟩ ⟨rfl, ⟨⟨rfl, rfl⟩, rfl⟩, ⟨⟨rfl, rfl⟩, rfl⟩, ⟨rfl, rfl, rfl, rfl, rfl, rfl, rfl, rfl, rfl, rfl, rfl, rfl, rfl, trivial⟩, rfl, trivial⟩)⟩
        · have he := ok_f he hb
          refine And.intro (fun hb => ?_) (fun hb => ?_)
          · have he := ok_t he hb
            refine seq_model mixed tys_ok t_impl_normal (S := Int × (List (Int × Int))) (I := (fun (i8, i_02) => (envOf [(1, .c (.int .i64 i5)), (4, .c (.ptr 10004000 0)), (9, .c (.ptr 10004001 0)), (11, .c (.int .i64 i8)), (44, .agg [.int .i64 (i4.getD 0 0), .int .i64 (i4.getD 1 0), .int .i64 (i4.getD 2 0), .int .i64 (i4.getD 3 0), .int .i64 (i4.getD 4 0), .int .i64 (i4.getD 5 0), .int .i64 (i4.getD 6 0), .int .i64 (i4.getD 7 0), .int .i64 (i4.getD 8 0), .int .i64 (i4.getD 9 0), .int .i64 (i4.getD 10 0), .int .i64 (i4.getD 11 0), .int .i64 (i4.getD 12 0)]), (45, .c (.int .i64 i6))], [(10004000, .rc [.nil, .int .i64 (0:Int)]), (10004001, .rc [.own 10004002 false, .int .i64 (0:Int)]), (10004002, .sl 140 (.pair (.int .i64) (.int .i64)) i_02 .shallow)]))) (B := fun s => Ok (impl_normal_j3 i5 i6 s) (LK J1 (fun r => k (.tup [.agg [.own 901 false, .int .i64 r.2.1], .c (.bool r.1)]) [(900, .rc [.own 901 false, .int .i64 r.2.1]), (901, .sl 140 (.pair (.int .i64) (.int .i64)) r.2.2 .shallow)]))) ?_ ?_
            · rintro ⟨i8, i_02⟩ he
              have he := ok_rq he
              refine And.intro he.1 ?_
              have he := he.2
              have he := ok_rq he
              refine And.intro he.1 ?_
              have he := he.2
              have he := ok_some he
              exact ⟨((i5 - i8), (i6 + (1:Int)), i_02), he, (leads_ren [(10002000, 10004000), (10002001, 10004001), (10002002, 10004002)] (l := [(1, .c (.int .i64 (i5 - i8))), (4, .c (.ptr 10002000 0)), (9, .c (.ptr 10002001 0)), (44, .agg [.int .i64 (i4.getD 0 0), .int .i64 (i4.getD 1 0), .int .i64 (i4.getD 2 0), .int .i64 (i4.getD 3 0), .int .i64 (i4.getD 4 0), .int .i64 (i4.getD 5 0), .int .i64 (i4.getD 6 0), .int .i64 (i4.getD 7 0), .int .i64 (i4.getD 8 0), .int .i64 (i4.getD 9 0), .int .i64 (i4.getD 10 0), .int .i64 (i4.getD 11 0), .int .i64 (i4.getD 12 0)]), (45, .c (.int .i64 (i6 + (1:Int))))]) (st' := [(10002000, .rc [.nil, .int .i64 (0:Int)]), (10002001, .rc [.own 10002002 false, .int .i64 (0:Int)]), (10002002, .sl 140 (.pair (.int .i64) (.int .i64)) i_02 .shallow)]) rfl rfl ⟨⟨rfl, rfl, trivial⟩, ⟨⟨⟨rfl, rfl⟩, trivial⟩, rfl, trivial⟩, ⟨rfl, rfl⟩, trivial⟩ ⟨rfl, ⟨⟨rfl, rfl⟩, rfl⟩, ⟨⟨rfl, rfl⟩, rfl⟩, ⟨rfl, rfl, rfl, rfl, rfl, rfl, rfl, rfl, rfl, rfl, rfl, rfl, rfl, trivial⟩, rfl, trivial⟩)⟩
            · skip
              have he := ok_rq he
              refine And.intro he.1 ?_
              have he := he.2
              have he := ok_rq he
              refine And.intro he.1 ?_
              have he := he.2
              have he := ok_rq he
              refine And.intro he.1 ?_
              have he := he.2
              exact ⟨(([(i4.getD 0 0), (i4.getD 1 0), (i4.getD 2 0), (i4.getD 3 0), (i4.getD 4 0), (i4.getD 5 0), (i4.getD 6 0), (i4.getD 7 0), (i4.getD 8 0), (i4.getD 9 0), (i4.getD 10 0), (i4.getD 11 0), (i4.getD 12 0)].getD i6.toNat 0), (i_01 ++ [((0 - ([(i4.getD 0 0), (i4.getD 1 0), (i4.getD 2 0), (i4.getD 3 0), (i4.getD 4 0), (i4.getD 5 0), (i4.getD 6 0), (i4.getD 7 0), (i4.getD 8 0), (i4.getD 9 0), (i4.getD 10 0), (i4.getD 11 0), (i4.getD 12 0)].getD i6.toNat 0)), (0 - i6))])), he, (leads_ren [(10004000, 10002000), (10004001, 10002001), (10004002, 71)] (l := [(1, .c (.int .i64 i5)), (4, .c (.ptr 10004000 0)), (9, .c (.ptr 10004001 0)), (11, .c (.int .i64 ([(i4.getD 0 0), (i4.getD 1 0), (i4.getD 2 0), (i4.getD 3 0), (i4.getD 4 0), (i4.getD 5 0), (i4.getD 6 0), (i4.getD 7 0), (i4.getD 8 0), (i4.getD 9 0), (i4.getD 10 0), (i4.getD 11 0), (i4.getD 12 0)].getD i6.toNat 0))), (44, .agg [.int .i64 (i4.getD 0 0), .int .i64 (i4.getD 1 0), .int .i64 (i4.getD 2 0), .int .i64 (i4.getD 3 0), .int .i64 (i4.getD 4 0), .int .i64 (i4.getD 5 0), .int .i64 (i4.getD 6 0), .int .i64 (i4.getD 7 0), .int .i64 (i4.getD 8 0), .int .i64 (i4.getD 9 0), .int .i64 (i4.getD 10 0), .int .i64 (i4.getD 11 0), .int .i64 (i4.getD 12 0)]), (45, .c (.int .i64 i6))]) (st' := [(10004000, .rc [.nil, .int .i64 (0:Int)]), (10004001, .rc [.own 10004002 false, .int .i64 (0:Int)]), (10004002, .sl 140 (.pair (.int .i64) (.int .i64)) (i_01 ++ [((0 - ([(i4.getD 0 0), (i4.getD 1 0), (i4.getD 2 0), (i4.getD 3 0), (i4.getD 4 0), (i4.getD 5 0), (i4.getD 6 0), (i4.getD 7 0), (i4.getD 8 0), (i4.getD 9 0), (i4.getD 10 0), (i4.getD 11 0), (i4.getD 12 0)].getD i6.toNat 0)), (0 - i6))]) .shallow)]) rfl rfl ⟨⟨rfl, rfl, trivial⟩, ⟨⟨⟨rfl, rfl⟩, trivial⟩, rfl, trivial⟩, ⟨rfl, rfl⟩, trivial⟩ ⟨rfl, ⟨⟨rfl, rfl⟩, rfl⟩, ⟨⟨rfl, rfl⟩, rfl⟩, rfl, ⟨rfl, rfl, rfl, rfl, rfl, rfl, rfl, rfl, rfl, rfl, rfl, rfl, rfl, trivial⟩, rfl, trivial⟩)⟩
          · have he := ok_f he hb
            have he := ok_rq he
            refine And.intro he.1 ?_
            have he := he.2
            have he := ok_some he
            exact ⟨(i5, (i6 + (1:Int)), i_01), he, (leads_ren [] (l := [(1, .c (.int .i64 i5)), (4, .c (.ptr 10002000 0)), (9, .c (.ptr 10002001 0)), (44, .agg [.int .i64 (i4.getD 0 0), .int .i64 (i4.getD 1 0), .int .i64 (i4.getD 2 0), .int .i64 (i4.getD 3 0), .int .i64 (i4.getD 4 0), .int .i64 (i4.getD 5 0), .int .i64 (i4.getD 6 0), .int .i64 (i4.getD 7 0), .int .i64 (i4.getD 8 0), .int .i64 (i4.getD 9 0), .int .i64 (i4.getD 10 0), .int .i64 (i4.getD 11 0), .int .i64 (i4.getD 12 0)]), (45, .c (.int .i64 (i6 + (1:Int))))]) (st' := [(10002000, .rc [.nil, .int .i64 (0:Int)]), (10002001, .rc [.own 10002002 false, .int .i64 (0:Int)]), (10002002, .sl 140 (.pair (.int .i64) (.int .i64)) i_01 .shallow)]) rfl rfl ⟨⟨rfl, rfl, trivial⟩, ⟨⟨⟨rfl, rfl⟩, trivial⟩, rfl, trivial⟩, ⟨rfl, rfl⟩, trivial⟩ ⟨rfl, ⟨⟨rfl, rfl⟩, rfl⟩, ⟨⟨rfl, rfl⟩, rfl⟩, ⟨rfl, rfl, rfl, rfl, rfl, rfl, rfl, rfl, rfl, rfl, rfl, rfl, rfl, trivial⟩, rfl, trivial⟩)⟩
      · have he := ok_f he hb
        exact ⟨(i5, i_01), ok_up he, (leads_ren [(10005000, 10002000), (10005001, 10002001), (10005002, 10002002)] (l := [(1, .c (.int .i64 i5)), (4, .c (.ptr 10005000 0)), (9, .c (.ptr 10005001 0))]) (st' := [(10005000, .rc [.nil, .int .i64 (0:Int)]), (10005001, .rc [.own 10005002 false, .int .i64 (0:Int)]), (10005002, .sl 140 (.pair (.int .i64) (.int .i64)) i_01 .shallow)]) rfl rfl ⟨⟨rfl, rfl, trivial⟩, ⟨⟨⟨rfl, rfl⟩, trivial⟩, rfl, trivial⟩, ⟨rfl, rfl⟩, trivial⟩ ⟨rfl, ⟨⟨rfl, rfl⟩, rfl⟩, ⟨⟨rfl, rfl⟩, rfl⟩, trivial⟩)⟩
  · skip
    refine loop_model mixed tys_ok t_impl_normal (S := Int × Int × (List Int)) (I := (fun (i, i1, i2) => (envOf [(1, .c (.int .i64 i)), (4, .c (.ptr 10000000 0)), (6, .c (.eptr 10000001 (0:Int) 0)), (12, .c (.imm (.pair (.int .i64) (.int .i64)) a0)), (13, .c (.int .i64 (a0.length:Int))), (14, .c (.int .i64 i1))], [(10000000, .rc [.nil, .int .i64 (0:Int)]), (10000001, .sl 207 (.int .i64) i2 .shallow)]))) (f := impl_normal_l2 a0) (K := (fun r => k (.tup [.agg [.own 901 false, .int .i64 r.2.1], .c (.bool r.1)]) [(900, .rc [.own 901 false, .int .i64 r.2.1]), (901, .sl 140 (.pair (.int .i64) (.int .i64)) r.2.2 .shallow)])) he (leads_ren [(10000000, 4), (10000001, 6)] (l := [(1, .c (.int .i64 a1)), (4, .c (.ptr 10000000 0)), (6, .c (.eptr 10000001 (0:Int) 0)), (12, .c (.imm (.pair (.int .i64) (.int .i64)) a0)), (13, .c (.int .i64 (a0.length:Int))), (14, .c (.int .i64 (0:Int)))]) (st' := [(10000000, .rc [.nil, .int .i64 (0:Int)]), (10000001, .sl 207 (.int .i64) (List.replicate 13 0) .shallow)]) rfl rfl ⟨⟨rfl, rfl, trivial⟩, ⟨rfl, rfl⟩, trivial⟩ ⟨rfl, ⟨⟨rfl, rfl⟩, rfl⟩, ⟨⟨rfl, rfl⟩, rfl, rfl⟩, .inl rfl, rfl, rfl, trivial⟩) ?_
    rintro ⟨i, i1, i2⟩ J1 he
    refine And.intro (fun hb => ?_) (fun hb => ?_)
    · have he := ok_t he hb
      have he := ok_rq he
      refine And.intro he.1 ?_
      have he := he.2
      refine And.intro (fun hb => ?_) (fun hb => ?_)
      · have he := ok_t he hb
        have he := ok_rq he
        refine And.intro he.1 ?_
        have he := he.2
        refine And.intro (by kernel_rfl) ?_
        have he := ok_rq he
        have hq1 := he.1
        have he := he.2
        have he := ok_rq he
        have hq2 := he.1
        have he := he.2
        have he := ok_rq he
        have hq3 := he.1
        have he := he.2
        have he := ok_rq he
        have hq4 := he.1
        have he := he.2
        refine And.intro ?_ (And.intro ?_ (trivial))
        · skip
          refine And.intro hq1 ?_
          refine And.intro hq2 ?_
          refine And.intro ?_ (And.intro ?_ (trivial))
          · skip
            refine And.intro ?_ trivial
            refine And.intro hq3 ?_
            refine And.intro hq2 ?_
            refine And.intro ?_ trivial
            have he := ok_rq he
            refine And.intro he.1 ?_
            have he := he.2
            have he := ok_some he
            exact ⟨((i - (a0.getD i1.toNat (0, 0)).1), (i1 + (1:Int)), (i2.set (0 - (a0.getD i1.toNat (0, 0)).2).toNat ((i2.getD (0 - (a0.getD i1.toNat (0, 0)).2).toNat 0) - (a0.getD i1.toNat (0, 0)).1))), he, (leads_ren [] (l := [(1, .c (.int .i64 (i - (a0.getD i1.toNat (0, 0)).1))), (4, .c (.ptr 10000000 0)), (6, .c (.eptr 10000001 (0:Int) 0)), (12, .c (.imm (.pair (.int .i64) (.int .i64)) a0)), (13, .c (.int .i64 (a0.length:Int))), (14, .c (.int .i64 (i1 + (1:Int))))]) (st' := [(10000000, .rc [.nil, .int .i64 (0:Int)]), (10000001, .sl 207 (.int .i64) (i2.set (0 - (a0.getD i1.toNat (0, 0)).2).toNat ((i2.getD (0 - (a0.getD i1.toNat (0, 0)).2).toNat 0) - (a0.getD i1.toNat (0, 0)).1)) .shallow)]) rfl rfl ⟨⟨rfl, rfl, trivial⟩, ⟨rfl, rfl⟩, trivial⟩ ⟨rfl, ⟨⟨rfl, rfl⟩, rfl⟩, ⟨⟨rfl, rfl⟩, rfl, rfl⟩, .inl rfl, rfl, rfl, trivial⟩)⟩
          · skip
            refine And.intro ?_ trivial
            refine And.intro hq3 ?_
            refine And.intro hq2 ?_
            refine And.intro ?_ trivial
            have he := ok_rq he
            refine And.intro he.1 ?_
            have he := he.2
            have he := ok_some he
            exact ⟨((i - (a0.getD i1.toNat (0, 0)).1), (i1 + (1:Int)), (i2.set (0 - (a0.getD i1.toNat (0, 0)).2).toNat ((i2.getD (0 - (a0.getD i1.toNat (0, 0)).2).toNat 0) - (a0.getD i1.toNat (0, 0)).1))), he, (leads_ren [] (l := [(1, .c (.int .i64 (i - (a0.getD i1.toNat (0, 0)).1))), (4, .c (.ptr 10000000 0)), (6, .c (.eptr 10000001 (0:Int) 0)), (12, .c (.imm (.pair (.int .i64) (.int .i64)) a0)), (13, .c (.int .i64 (a0.length:Int))), (14, .c (.int .i64 (i1 + (1:Int))))]) (st' := [(10000000, .rc [.nil, .int .i64 (0:Int)]), (10000001, .sl 207 (.int .i64) (i2.set (0 - (a0.getD i1.toNat (0, 0)).2).toNat ((i2.getD (0 - (a0.getD i1.toNat (0, 0)).2).toNat 0) - (a0.getD i1.toNat (0, 0)).1)) .shallow)]) rfl rfl ⟨⟨rfl, rfl, trivial⟩, ⟨rfl, rfl⟩, trivial⟩ ⟨rfl, ⟨⟨rfl, rfl⟩, rfl⟩, ⟨⟨rfl, rfl⟩, rfl, rfl⟩, .inl rfl, rfl, rfl, trivial⟩)⟩
        · skip
          refine And.intro ?_ trivial
          refine And.intro hq1 ?_
          refine And.intro hq2 ?_
          refine And.intro ?_ trivial
          refine And.intro hq3 ?_
          refine And.intro hq2 ?_
          refine And.intro ?_ trivial
          have he := ok_rq he
          refine And.intro he.1 ?_
          have he := he.2
          have he := ok_some he
          exact ⟨((i - (a0.getD i1.toNat (0, 0)).1), (i1 + (1:Int)), (i2.set (0 - (a0.getD i1.toNat (0, 0)).2).toNat ((i2.getD (0 - (a0.getD i1.toNat (0, 0)).2).toNat 0) - (a0.getD i1.toNat (0, 0)).1))), he, (leads_ren [] (l := [(1, .c (.int .i64 (i - (a0.getD i1.toNat (0, 0)).1))), (4, .c (.ptr 10000000 0)), (6, .c (.eptr 10000001 (0:Int) 0)), (12, .c (.imm (.pair (.int .i64) (.int .i64)) a0)), (13, .c (.int .i64 (a0.length:Int))), (14, .c (.int .i64 (i1 + (1:Int))))]) (st' := [(10000000, .rc [.nil, .int .i64 (0:Int)]), (10000001, .sl 207 (.int .i64) (i2.set (0 - (a0.getD i1.toNat (0, 0)).2).toNat ((i2.getD (0 - (a0.getD i1.toNat (0, 0)).2).toNat 0) - (a0.getD i1.toNat (0, 0)).1)) .shallow)]) rfl rfl ⟨⟨rfl, rfl, trivial⟩, ⟨rfl, rfl⟩, trivial⟩ ⟨rfl, ⟨⟨rfl, rfl⟩, rfl⟩, ⟨⟨rfl, rfl⟩, rfl, rfl⟩, .inl rfl, rfl, rfl, trivial⟩)⟩
      · have he := ok_f he hb
        refine And.intro (by kernel_rfl) ?_
        have he := ok_rq he
        have hq1 := he.1
        have he := he.2
        have he := ok_rq he
        have hq2 := he.1
        have he := he.2
        have he := ok_rq he
        have hq3 := he.1
        have he := he.2
        refine And.intro ?_ (And.intro ?_ (trivial))
        · skip
          refine And.intro hq1 ?_
          refine And.intro ?_ (And.intro ?_ (trivial))
          · skip
            refine And.intro ?_ trivial
            refine And.intro hq2 ?_
            refine And.intro hq1 ?_
            refine And.intro ?_ trivial
            have he := ok_rq he
            refine And.intro he.1 ?_
            have he := he.2
            have he := ok_some he
            exact ⟨(i, (i1 + (1:Int)), (i2.set (a0.getD i1.toNat (0, 0)).2.toNat ((i2.getD (a0.getD i1.toNat (0, 0)).2.toNat 0) + (a0.getD i1.toNat (0, 0)).1))), he, (leads_ren [] (l := [(1, .c (.int .i64 i)), (4, .c (.ptr 10000000 0)), (6, .c (.eptr 10000001 (0:Int) 0)), (12, .c (.imm (.pair (.int .i64) (.int .i64)) a0)), (13, .c (.int .i64 (a0.length:Int))), (14, .c (.int .i64 (i1 + (1:Int))))]) (st' := [(10000000, .rc [.nil, .int .i64 (0:Int)]), (10000001, .sl 207 (.int .i64) (i2.set (a0.getD i1.toNat (0, 0)).2.toNat ((i2.getD (a0.getD i1.toNat (0, 0)).2.toNat 0) + (a0.getD i1.toNat (0, 0)).1)) .shallow)]) rfl rfl ⟨⟨rfl, rfl, trivial⟩, ⟨rfl, rfl⟩, trivial⟩ ⟨rfl, ⟨⟨rfl, rfl⟩, rfl⟩, ⟨⟨rfl, rfl⟩, rfl, rfl⟩, .inl rfl, rfl, rfl, trivial⟩)⟩
          · skip
            refine And.intro ?_ trivial
            refine And.intro hq2 ?_
            refine And.intro hq1 ?_
            refine And.intro ?_ trivial
            have he := ok_rq he
            refine And.intro he.1 ?_
            have he := he.2
            have he := ok_some he
            exact ⟨(i, (i1 + (1:Int)), (i2.set (a0.getD i1.toNat (0, 0)).2.toNat ((i2.getD (a0.getD i1.toNat (0, 0)).2.toNat 0) + (a0.getD i1.toNat (0, 0)).1))), he, (leads_ren [] (l := [(1, .c (.int .i64 i)), (4, .c (.ptr 10000000 0)), (6, .c (.eptr 10000001 (0:Int) 0)), (12, .c (.imm (.pair (.int .i64) (.int .i64)) a0)), (13, .c (.int .i64 (a0.length:Int))), (14, .c (.int .i64 (i1 + (1:Int))))]) (st' := [(10000000, .rc [.nil, .int .i64 (0:Int)]), (10000001, .sl 207 (.int .i64) (i2.set (a0.getD i1.toNat (0, 0)).2.toNat ((i2.getD (a0.getD i1.toNat (0, 0)).2.toNat 0) + (a0.getD i1.toNat (0, 0)).1)) .shallow)]) rfl rfl ⟨⟨rfl, rfl, trivial⟩, ⟨rfl, rfl⟩, trivial⟩ ⟨rfl, ⟨⟨rfl, rfl⟩, rfl⟩, ⟨⟨rfl, rfl⟩, rfl, rfl⟩, .inl rfl, rfl, rfl, trivial⟩)⟩
        · skip
          refine And.intro ?_ trivial
          refine And.intro hq1 ?_
          refine And.intro ?_ trivial
          refine And.intro hq2 ?_
          refine And.intro hq1 ?_
          refine And.intro ?_ trivial
          have he := ok_rq he
          refine And.intro he.1 ?_
          have he := he.2
          have he := ok_some he
          exact ⟨(i, (i1 + (1:Int)), (i2.set (a0.getD i1.toNat (0, 0)).2.toNat ((i2.getD (a0.getD i1.toNat (0, 0)).2.toNat 0) + (a0.getD i1.toNat (0, 0)).1))), he, (leads_ren [] (l := [(1, .c (.int .i64 i)), (4, .c (.ptr 10000000 0)), (6, .c (.eptr 10000001 (0:Int) 0)), (12, .c (.imm (.pair (.int .i64) (.int .i64)) a0)), (13, .c (.int .i64 (a0.length:Int))), (14, .c (.int .i64 (i1 + (1:Int))))]) (st' := [(10000000, .rc [.nil, .int .i64 (0:Int)]), (10000001, .sl 207 (.int .i64) (i2.set (a0.getD i1.toNat (0, 0)).2.toNat ((i2.getD (a0.getD i1.toNat (0, 0)).2.toNat 0) + (a0.getD i1.toNat (0, 0)).1)) .shallow)]) rfl rfl ⟨⟨rfl, rfl, trivial⟩, ⟨rfl, rfl⟩, trivial⟩ ⟨rfl, ⟨⟨rfl, rfl⟩, rfl⟩, ⟨⟨rfl, rfl⟩, rfl, rfl⟩, .inl rfl, rfl, rfl, trivial⟩)⟩
    · have he := ok_f he hb
      exact ⟨(i, i2), ok_up he, (leads_ren [(10001000, 10000000), (10001001, 10000001)] (l := [(1, .c (.int .i64 i)), (4, .c (.ptr 10001000 0)), (6, .c (.eptr 10001001 (0:Int) 0))]) (st' := [(10001000, .rc [.nil, .int .i64 (0:Int)]), (10001001, .sl 207 (.int .i64) i2 .shallow)]) rfl rfl ⟨⟨rfl, rfl, trivial⟩, ⟨rfl, rfl⟩, trivial⟩ ⟨rfl, ⟨⟨rfl, rfl⟩, rfl⟩, ⟨⟨rfl, rfl⟩, rfl, rfl⟩, trivial⟩)⟩

noncomputable def c_impl_AtMostConstraint : Con := fun args st => match args, st with
  | [.agg [.imm (.int .i64) m_0, .imm (.pair (.int .i64) (.pair (.sl (.int .i64)) (.pair (.sl (.int .i64)) (.pair (.int .i64) (.sl (.sl (.int .i64))))))) m_1], .c (.imm (.int .i64) coefs), .c (.int .i64 most)], [] => .opt (Bool × Int × (List (Int × Int))) (impl_AtMostConstraint (m_0, m_1) coefs most) (fun r => .ret (.tup [.agg [.own 901 false, .int .i64 r.2.1], .c (.bool r.1)]) [(900, .rc [.own 901 false, .int .i64 r.2.1]), (901, .sl 140 (.pair (.int .i64) (.int .i64)) r.2.2 .shallow)])
  | _, _ => .fail

noncomputable def C_impl_AtMostConstraint : Cfg := { y := tys, n := 63, h := 0, tab := [(39, c_impl_ModelValid), (100, c_impl_isObjective), (101, c_impl_within), (102, c_impl_Model_boolVar), (103, c_impl_normal)], cut := [13], hand := [], good := [], deep := [], sched := [(10, (.first 0 (.first 1 (.first 2 (.first 3 (.first 4 (.first 5 (.first 6 (.first 7 (.first 9 (.first 10 (.alt 8 (.alt 11 (.alt 12 (.alt 13 (.alt 14 (.first 15 .done) .stop) .stop) .stop) .stop) .stop))))))))))))] }

theorem t_impl_AtMostConstraint : TabOk Try.prog C_impl_AtMostConstraint := by
  refine tabOk_of ?_
  simp only [C_impl_AtMostConstraint, List.forall_mem_cons]
  exact ⟨k_impl_ModelValid, k_impl_isObjective, k_impl_within, k_impl_Model_boolVar, k_impl_normal, fun p h => by cases h⟩

theorem k_impl_AtMostConstraint : Entry Try.prog 17 c_impl_AtMostConstraint := by
  refine entry_by (C := C_impl_AtMostConstraint) mixed tys_ok t_impl_AtMostConstraint (fn := Try.f17) (c := bd Try.f17) (by kernel_rfl) (by kernel_rfl) (by kernel_rfl) (by kernel_rfl) ?_
  intro args st k he
  unfold c_impl_AtMostConstraint at he
  split at he
  rotate_left
  · exact he.elim
  rename_i m_0 m_1 coefs most
  have he : Ok (impl_AtMostConstraint (m_0, m_1) coefs most) (fun r => k (.tup [.agg [.own 901 false, .int .i64 r.2.1], .c (.bool r.1)]) [(900, .rc [.own 901 false, .int .i64 r.2.1]), (901, .sl 140 (.pair (.int .i64) (.int .i64)) r.2.2 .shallow)]) := he
  refine ⟨rfl, rfl, ?_⟩
  obtain ⟨r1_, hr, he⟩ := ok_bind he
  refine ⟨r1_, hr, ?_⟩
  refine And.intro (fun hb => ?_) (fun hb => ?_)
  · have he := ok_f he hb
    obtain ⟨r2_, hr, he⟩ := ok_bind he
    refine ⟨r2_, hr, ?_⟩
    refine And.intro (fun hb => ?_) (fun hb => ?_)
    · have he := ok_f he hb
      obtain ⟨r3_, hr, he⟩ := ok_bind he
      refine ⟨r3_, hr, ?_⟩
      refine And.intro (fun hb => ?_) (fun hb => ?_)
      · have he := ok_t he hb
        have he := ok_some he
        exact ⟨rfl, _, _, (leads_ren [(900, 6)] (l := [(6, .c (.ptr 900 0)), (7, .c (.bool false))]) (st' := [(900, .rc [.own 901 false, .int .i64 (0:Int)]), (901, .sl 140 (.pair (.int .i64) (.int .i64)) ([] : List (Int × Int)) .shallow)]) rfl rfl ⟨⟨⟨rfl, trivial⟩, rfl, trivial⟩, trivial, trivial⟩ ⟨⟨⟨rfl, rfl⟩, rfl⟩, .inr rfl, trivial⟩), he⟩
      · have he := ok_f he hb
        refine seq_model mixed tys_ok t_impl_AtMostConstraint (S := (List (Int × Int))) (I := (fun terms3 => (envOf [(2, .c (.int .i64 most)), (6, .c (.ptr 10003000 0)), (8, .c (.own 10003001 false))], [(10003000, .rc [.nil, .int .i64 (0:Int)]), (10003001, .sl 140 (.pair (.int .i64) (.int .i64)) terms3 .shallow)]))) (B := fun s => Ok (impl_AtMostConstraint_j1 most s) (fun r => k (.tup [.agg [.own 901 false, .int .i64 r.2.1], .c (.bool r.1)]) [(900, .rc [.own 901 false, .int .i64 r.2.1]), (901, .sl 140 (.pair (.int .i64) (.int .i64)) r.2.2 .shallow)])) ?_ ?_
        · rintro terms3 he
          have he := ok_rq he
          refine And.intro he.1 ?_
          have he := he.2
          obtain ⟨r9_, hr, he⟩ := ok_bind he
          refine ⟨r9_, hr, ?_⟩
          have he := ok_some he
          exact ⟨rfl, _, _, (leads_ren [(900, 10003000), (901, 61901)] (l := [(6, .c (.ptr 900 0)), (7, .c (.bool r9_.1))]) (st' := [(900, .rc [.own 901 false, .int .i64 r9_.2.1]), (901, .sl 140 (.pair (.int .i64) (.int .i64)) r9_.2.2 .shallow)]) rfl rfl ⟨⟨⟨⟨rfl, rfl⟩, trivial⟩, rfl, trivial⟩, ⟨rfl, rfl⟩, trivial⟩ ⟨⟨⟨rfl, rfl⟩, rfl⟩, .inl rfl, trivial⟩), he⟩
        · skip
          refine loop_model mixed tys_ok t_impl_AtMostConstraint (S := Int × (List (Int × Int))) (I := (fun (i, terms1) => (envOf [(1, .c (.imm (.int .i64) coefs)), (2, .c (.int .i64 most)), (3, .c (.ptr 10000000 0)), (6, .c (.ptr 10000001 0)), (8, .c (.own 10000002 false)), (28, .c (.imm (.int .i64) (m_0, m_1).1)), (29, .c (.int .i64 ((m_0, m_1).1.length:Int))), (30, .c (.int .i64 i))], [(10000000, .rc [.imm (.int .i64) (m_0, m_1).1, .imm (.pair (.int .i64) (.pair (.sl (.int .i64)) (.pair (.sl (.int .i64)) (.pair (.int .i64) (.sl (.sl (.int .i64))))))) (m_0, m_1).2]), (10000001, .rc [.nil, .int .i64 (0:Int)]), (10000002, .sl 140 (.pair (.int .i64) (.int .i64)) terms1 .shallow)]))) (f := impl_AtMostConstraint_l1 (m_0, m_1) coefs most) (K := (fun r => k (.tup [.agg [.own 901 false, .int .i64 r.2.1], .c (.bool r.1)]) [(900, .rc [.own 901 false, .int .i64 r.2.1]), (901, .sl 140 (.pair (.int .i64) (.int .i64)) r.2.2 .shallow)])) he (leads_ren [(10000000, 3), (10000001, 6)] (l := [(1, .c (.imm (.int .i64) coefs)), (2, .c (.int .i64 most)), (3, .c (.ptr 10000000 0)), (6, .c (.ptr 10000001 0)), (8, .c (.own 10000002 false)), (28, .c (.imm (.int .i64) (m_0, m_1).1)), (29, .c (.int .i64 ((m_0, m_1).1.length:Int))), (30, .c (.int .i64 (0:Int)))]) (st' := [(10000000, .rc [.imm (.int .i64) (m_0, m_1).1, .imm (.pair (.int .i64) (.pair (.sl (.int .i64)) (.pair (.sl (.int .i64)) (.pair (.int .i64) (.sl (.sl (.int .i64))))))) (m_0, m_1).2]), (10000001, .rc [.nil, .int .i64 (0:Int)]), (10000002, .sl 140 (.pair (.int .i64) (.int .i64)) ([] : List (Int × Int)) .shallow)]) rfl rfl ⟨⟨.inl rfl, .inl rfl, trivial⟩, ⟨rfl, rfl, trivial⟩, trivial, trivial⟩ ⟨.inl rfl, rfl, ⟨⟨rfl, rfl⟩, rfl⟩, ⟨⟨rfl, rfl⟩, rfl⟩, ⟨rfl, trivial⟩, .inl rfl, rfl, rfl, trivial⟩) ?_
          rintro ⟨i, terms1⟩ J1 he
          refine And.intro (fun hb => ?_) (fun hb => ?_)
          · have he := ok_t he hb
            have he := ok_rq he
            refine And.intro he.1 ?_
            have he := he.2
            have he := ok_rq he
            refine And.intro he.1 ?_
            have he := he.2
            refine loop_model mixed tys_ok t_impl_AtMostConstraint (S := Int × (List (Int × Int))) (I := (fun (i2, terms2) => (envOf [(1, .c (.imm (.int .i64) coefs)), (2, .c (.int .i64 most)), (3, .c (.ptr 10002000 0)), (6, .c (.ptr 10002001 0)), (8, .c (.own 10002002 false)), (9, .c (.int .i64 i)), (28, .c (.imm (.int .i64) (m_0, m_1).1)), (29, .c (.int .i64 ((m_0, m_1).1.length:Int))), (30, .c (.int .i64 i)), (36, .c (.int .i64 (((m_0, m_1).1.getD i.toNat 0) + (1:Int)))), (37, .c (.int .i64 i2))], [(10002000, .rc [.imm (.int .i64) (m_0, m_1).1, .imm (.pair (.int .i64) (.pair (.sl (.int .i64)) (.pair (.sl (.int .i64)) (.pair (.int .i64) (.sl (.sl (.int .i64))))))) (m_0, m_1).2]), (10002001, .rc [.nil, .int .i64 (0:Int)]), (10002002, .sl 140 (.pair (.int .i64) (.int .i64)) terms2 .shallow)]))) (f := impl_AtMostConstraint_l2 (m_0, m_1) coefs i) (K := (LK J1 (fun r => k (.tup [.agg [.own 901 false, .int .i64 r.2.1], .c (.bool r.1)]) [(900, .rc [.own 901 false, .int .i64 r.2.1]), (901, .sl 140 (.pair (.int .i64) (.int .i64)) r.2.2 .shallow)]))) he (leads_ren [(10002000, 10000000), (10002001, 10000001), (10002002, 10000002)] (l := [(1, .c (.imm (.int .i64) coefs)), (2, .c (.int .i64 most)), (3, .c (.ptr 10002000 0)), (6, .c (.ptr 10002001 0)), (8, .c (.own 10002002 false)), (9, .c (.int .i64 i)), (28, .c (.imm (.int .i64) (m_0, m_1).1)), (29, .c (.int .i64 ((m_0, m_1).1.length:Int))), (30, .c (.int .i64 i)), (36, .c (.int .i64 (((m_0, m_1).1.getD i.toNat 0) + (1:Int)))), (37, .c (.int .i64 (0:Int)))]) (st' := [(10002000, .rc [.imm (.int .i64) (m_0, m_1).1, .imm (.pair (.int .i64) (.pair (.sl (.int .i64)) (.pair (.sl (.int .i64)) (.pair (.int .i64) (.sl (.sl (.int .i64))))))) (m_0, m_1).2]), (10002001, .rc [.nil, .int .i64 (0:Int)]), (10002002, .sl 140 (.pair (.int .i64) (.int .i64)) terms1 .shallow)]) rfl rfl ⟨⟨.inl rfl, .inl rfl, trivial⟩, ⟨rfl, rfl, trivial⟩, ⟨rfl, rfl⟩, trivial⟩ ⟨.inl rfl, rfl, ⟨⟨rfl, rfl⟩, rfl⟩, ⟨⟨rfl, rfl⟩, rfl⟩, ⟨⟨rfl, rfl⟩, trivial⟩, rfl, .inl rfl, rfl, rfl, rfl, rfl, trivial⟩) ?_
            rintro ⟨i2, terms2⟩ J2 he
            refine And.intro (fun hb => ?_) (fun hb => ?_)
            · have he := ok_t he hb
              refine And.intro (by kernel_rfl) ?_
              have he := ok_rq he
              refine And.intro he.1 ?_
              have he := he.2
              have he := ok_rq he
              refine And.intro he.1 ?_
              have he := he.2
              have he := ok_rq he
              refine And.intro he.1 ?_
              have he := he.2
              refine And.intro ?_ trivial
              refine And.intro ?_ trivial
              obtain ⟨r8_, hr, he⟩ := ok_bind he
              refine ⟨r8_, hr, ?_⟩
              refine And.intro ?_ trivial
              refine And.intro ?_ trivial
              refine And.intro ?_ trivial
              have he := ok_rq he
              refine And.intro he.1 ?_
              have he := he.2
              have he := ok_rq he
              refine And.intro he.1 ?_
              have he := he.2
              have he := ok_some he
              exact ⟨((i2 + (1:Int)), (terms2 ++ [(((0 - (coefs.getD i.toNat 0)) * i2), r8_)])), he, (leads_ren [(10002002, 54)] (l := [(1, .c (.imm (.int .i64) coefs)), (2, .c (.int .i64 most)), (3, .c (.ptr 10002000 0)), (6, .c (.ptr 10002001 0)), (8, .c (.own 10002002 false)), (9, .c (.int .i64 i)), (28, .c (.imm (.int .i64) (m_0, m_1).1)), (29, .c (.int .i64 ((m_0, m_1).1.length:Int))), (30, .c (.int .i64 i)), (36, .c (.int .i64 (((m_0, m_1).1.getD i.toNat 0) + (1:Int)))), (37, .c (.int .i64 (i2 + (1:Int))))]) (st' := [(10002000, .rc [.imm (.int .i64) (m_0, m_1).1, .imm (.pair (.int .i64) (.pair (.sl (.int .i64)) (.pair (.sl (.int .i64)) (.pair (.int .i64) (.sl (.sl (.int .i64))))))) (m_0, m_1).2]), (10002001, .rc [.nil, .int .i64 (0:Int)]), (10002002, .sl 140 (.pair (.int .i64) (.int .i64)) (terms2 ++ [(((0 - (coefs.getD i.toNat 0)) * i2), r8_)]) .shallow)]) rfl rfl ⟨⟨.inl rfl, .inl rfl, trivial⟩, ⟨rfl, rfl, trivial⟩, ⟨rfl, rfl⟩, trivial⟩ ⟨.inl rfl, rfl, ⟨⟨rfl, rfl⟩, rfl⟩, ⟨⟨rfl, rfl⟩, rfl⟩, ⟨⟨rfl, rfl⟩, trivial⟩, rfl, .inl rfl, rfl, rfl, rfl, rfl, trivial⟩)⟩
            · have he := ok_f he hb
              have he := ok_rq he
              refine And.intro he.1 ?_
              have he := he.2
              have he := ok_some he
              exact ⟨((i + (1:Int)), terms2), he, (leads_ren [(10000000, 10002000), (10000001, 10002001), (10000002, 10002002)] (l := [(1, .c (.imm (.int .i64) coefs)), (2, .c (.int .i64 most)), (3, .c (.ptr 10000000 0)), (6, .c (.ptr 10000001 0)), (8, .c (.own 10000002 false)), (28, .c (.imm (.int .i64) (m_0, m_1).1)), (29, .c (.int .i64 ((m_0, m_1).1.length:Int))), (30, .c (.int .i64 (i + (1:Int))))]) (st' := [(10000000, .rc [.imm (.int .i64) (m_0, m_1).1, .imm (.pair (.int .i64) (.pair (.sl (.int .i64)) (.pair (.sl (.int .i64)) (.pair (.int .i64) (.sl (.sl (.int .i64))))))) (m_0, m_1).2]), (10000001, .rc [.nil, .int .i64 (0:Int)]), (10000002, .sl 140 (.pair (.int .i64) (.int .i64)) terms2 .shallow)]) rfl rfl ⟨⟨.inl rfl, .inl rfl, trivial⟩, ⟨rfl, rfl, trivial⟩, ⟨rfl, rfl⟩, trivial⟩ ⟨.inl rfl, rfl, ⟨⟨rfl, rfl⟩, rfl⟩, ⟨⟨rfl, rfl⟩, rfl⟩, ⟨⟨rfl, rfl⟩, trivial⟩, .inl rfl, rfl, rfl, trivial⟩)⟩
          · have he := ok_f he hb
            exact ⟨terms1, ok_up he, (leads_ren [(10003000, 10000001), (10003001, 10000002)] (l := [(2, .c (.int .i64 most)), (6, .c (.ptr 10003000 0)), (8, .c (.own 10003001 false))]) (st' := [(10003000, .rc [.nil, .int .i64 (0:Int)]), (10003001, .sl 140 (.pair (.int .i64) (.int .i64)) terms1 .shallow)]) rfl rfl ⟨⟨rfl, rfl, trivial⟩, ⟨rfl, rfl⟩, trivial⟩ ⟨rfl, ⟨⟨rfl, rfl⟩, rfl⟩, ⟨⟨rfl, rfl⟩, trivial⟩, trivial⟩)⟩
    · have he := ok_t he hb
      have he := ok_some he
      exact ⟨rfl, _, _, (leads_ren [(900, 6)] (l := [(6, .c (.ptr 900 0)), (7, .c (.bool false))]) (st' := [(900, .rc [.own 901 false, .int .i64 (0:Int)]), (901, .sl 140 (.pair (.int .i64) (.int .i64)) ([] : List (Int × Int)) .shallow)]) rfl rfl ⟨⟨⟨rfl, trivial⟩, rfl, trivial⟩, trivial, trivial⟩ ⟨⟨⟨rfl, rfl⟩, rfl⟩, .inr rfl, trivial⟩), he⟩
  · have he := ok_t he hb
    have he := ok_some he
    exact ⟨rfl, _, _, (leads_ren [(900, 6)] (l := [(6, .c (.ptr 900 0)), (7, .c (.bool false))]) (st' := [(900, .rc [.own 901 false, .int .i64 (0:Int)]), (901, .sl 140 (.pair (.int .i64) (.int .i64)) ([] : List (Int × Int)) .shallow)]) rfl rfl ⟨⟨⟨rfl, trivial⟩, rfl, trivial⟩, trivial, trivial⟩ ⟨⟨⟨rfl, rfl⟩, rfl⟩, .inr rfl, trivial⟩), he⟩

end Go.AE.Y
