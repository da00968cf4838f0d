/-
  Walks: each function keeps the contract that its model gives. No conditions.
-/
import Derived.Test.YtpeelmjecjbfjaaR4Tab
import Derived.Test.YtpeelmjecjbfjaaR4W1
namespace Go.AE.Y
open Go Go.AE Go.Proofs
set_option linter.unusedVariables false
set_option maxHeartbeats 2000000
set_option maxRecDepth 100000

noncomputable def c_slices_ContainsFunc_int__impl_ruleValid_2_1 : Con := fun args st => match args, st with
  | [.c (.imm (.int .i64) s_), .c (.fn 219 [])], [] => .opt (Bool) (slices_ContainsFunc_int__impl_ruleValid_2_1 s_) (fun r => .ret (.c (.bool r)) [])
  | _, _ => .fail

noncomputable def C_slices_ContainsFunc_int__impl_ruleValid_2_1 : Cfg := { y := tys, n := 9, h := 0, tab := [(237, c_slices_IndexFunc_int__impl_ruleValid_2_1)], cut := [], hand := [], good := [], deep := [], sched := [] }

theorem t_slices_ContainsFunc_int__impl_ruleValid_2_1 : TabOk Try.prog C_slices_ContainsFunc_int__impl_ruleValid_2_1 := by
  refine tabOk_of ?_
  simp only [C_slices_ContainsFunc_int__impl_ruleValid_2_1, List.forall_mem_cons]
  exact ⟨k_slices_IndexFunc_int__impl_ruleValid_2_1, fun p h => by cases h⟩

theorem k_slices_ContainsFunc_int__impl_ruleValid_2_1 : Entry Try.prog 174 c_slices_ContainsFunc_int__impl_ruleValid_2_1 := by
  refine entry_by (C := C_slices_ContainsFunc_int__impl_ruleValid_2_1) mixed tys_ok t_slices_ContainsFunc_int__impl_ruleValid_2_1 (fn := Try.f174) (c := bd Try.f174) (by kernel_rfl) (by kernel_rfl) (by kernel_rfl) (by kernel_rfl) ?_
  intro args st k he
  unfold c_slices_ContainsFunc_int__impl_ruleValid_2_1 at he
  split at he
  rotate_left
  · exact he.elim
  rename_i s_
  have he : Ok (slices_ContainsFunc_int__impl_ruleValid_2_1 s_) (fun r => k (.c (.bool r)) []) := he
  refine ⟨rfl, rfl, ?_⟩
  obtain ⟨r1_, hr, he⟩ := ok_bind he
  refine ⟨r1_, hr, ?_⟩
  have he := ok_some he
  exact ⟨rfl, _, _, Leads.refl _ _, he⟩

noncomputable def c_impl_ruleValid_2 : Con := fun args st => match args, st with
  | [.c (.imm (.int .i64) row), .c (.ptr 0 0)], [(0, .rc [.int .i64 o0_0, .imm (.int .i64) o0_1, .imm (.int .i64) o0_2, .int .i64 o0_3, .imm (.sl (.int .i64)) o0_4])] => .opt (Bool) (impl_ruleValid_2 row (o0_0, (o0_1, (o0_2, (o0_3, o0_4))))) (fun r => .ret (.c (.bool r)) [(0, .rc [.int .i64 o0_0, .imm (.int .i64) o0_1, .imm (.int .i64) o0_2, .int .i64 o0_3, .imm (.sl (.int .i64)) o0_4])])
  | _, _ => .fail

noncomputable def C_impl_ruleValid_2 : Cfg := { y := tys, n := 14, h := 1, tab := [(174, c_slices_ContainsFunc_int__impl_ruleValid_2_1)], cut := [], hand := [], good := [], deep := [], sched := [] }

theorem t_impl_ruleValid_2 : TabOk Try.prog C_impl_ruleValid_2 := by
  refine tabOk_of ?_
  simp only [C_impl_ruleValid_2, List.forall_mem_cons]
  exact ⟨k_slices_ContainsFunc_int__impl_ruleValid_2_1, fun p h => by cases h⟩

theorem k_impl_ruleValid_2 : Entry Try.prog 218 c_impl_ruleValid_2 := by
  refine entry_by (C := C_impl_ruleValid_2) mixed tys_ok t_impl_ruleValid_2 (fn := Try.f218) (c := bd Try.f218) (by kernel_rfl) (by kernel_rfl) (by kernel_rfl) (by kernel_rfl) ?_
  intro args st k he
  unfold c_impl_ruleValid_2 at he
  split at he
  rotate_left
  · exact he.elim
  rename_i row o0_0 o0_1 o0_2 o0_3 o0_4
  have he : Ok (impl_ruleValid_2 row (o0_0, (o0_1, (o0_2, (o0_3, o0_4))))) (fun r => k (.c (.bool r)) [(0, .rc [.int .i64 o0_0, .imm (.int .i64) o0_1, .imm (.int .i64) o0_2, .int .i64 o0_3, .imm (.sl (.int .i64)) o0_4])]) := he
  refine ⟨rfl, rfl, ?_⟩
  refine And.intro (fun hb => ?_) (fun hb => ?_)
  · have he := ok_f he hb
    obtain ⟨r1_, hr, he⟩ := ok_bind he
    refine ⟨r1_, hr, ?_⟩
    have he := ok_some he
    exact ⟨rfl, _, _, (leads_ren [] (l := [(3, .c (.bool r1_))]) (st' := [(0, .rc [.int .i64 o0_0, .imm (.int .i64) o0_1, .imm (.int .i64) o0_2, .int .i64 o0_3, .imm (.sl (.int .i64)) o0_4])]) rfl rfl ⟨⟨rfl, .inl rfl, .inl rfl, rfl, .inl rfl, trivial⟩, trivial⟩ ⟨.inl rfl, trivial⟩), he⟩
  · have he := ok_t he hb
    have he := ok_some he
    exact ⟨rfl, _, _, (leads_ren [] (l := [(3, .c (.bool true))]) (st' := [(0, .rc [.int .i64 o0_0, .imm (.int .i64) o0_1, .imm (.int .i64) o0_2, .int .i64 o0_3, .imm (.sl (.int .i64)) o0_4])]) rfl rfl ⟨⟨rfl, .inl rfl, .inl rfl, rfl, .inl rfl, trivial⟩, trivial⟩ ⟨.inr rfl, trivial⟩), he⟩

noncomputable def c_slices_IndexFunc_s_int__impl_ruleValid_2 : Con := fun args st => match args, st with
  | [.c (.imm (.sl (.int .i64)) s_), .c (.fn 218 [0])], [(0, .rc [.int .i64 o0_0, .imm (.int .i64) o0_1, .imm (.int .i64) o0_2, .int .i64 o0_3, .imm (.sl (.int .i64)) o0_4])] => .opt (Int) (slices_IndexFunc_s_int__impl_ruleValid_2 s_ (o0_0, (o0_1, (o0_2, (o0_3, o0_4))))) (fun r => .ret (.c (.int .i64 r)) [(0, .rc [.int .i64 o0_0, .imm (.int .i64) o0_1, .imm (.int .i64) o0_2, .int .i64 o0_3, .imm (.sl (.int .i64)) o0_4])])
  | _, _ => .fail

noncomputable def C_slices_IndexFunc_s_int__impl_ruleValid_2 : Cfg := { y := tys, n := 19, h := 1, tab := [(218, c_impl_ruleValid_2)], cut := [], hand := [], good := [], deep := [], sched := [] }

theorem t_slices_IndexFunc_s_int__impl_ruleValid_2 : TabOk Try.prog C_slices_IndexFunc_s_int__impl_ruleValid_2 := by
  refine tabOk_of ?_
  simp only [C_slices_IndexFunc_s_int__impl_ruleValid_2, List.forall_mem_cons]
  exact ⟨k_impl_ruleValid_2, fun p h => by cases h⟩

theorem k_slices_IndexFunc_s_int__impl_ruleValid_2 : Entry Try.prog 263 c_slices_IndexFunc_s_int__impl_ruleValid_2 := by
  refine entry_by (C := C_slices_IndexFunc_s_int__impl_ruleValid_2) mixed tys_ok t_slices_IndexFunc_s_int__impl_ruleValid_2 (fn := Try.f263) (c := bd Try.f263) (by kernel_rfl) (by kernel_rfl) (by kernel_rfl) (by kernel_rfl) ?_
  intro args st k he
  unfold c_slices_IndexFunc_s_int__impl_ruleValid_2 at he
  split at he
  rotate_left
  · exact he.elim
  rename_i s_ o0_0 o0_1 o0_2 o0_3 o0_4
  have he : Ok (slices_IndexFunc_s_int__impl_ruleValid_2 s_ (o0_0, (o0_1, (o0_2, (o0_3, o0_4))))) (fun r => k (.c (.int .i64 r)) [(0, .rc [.int .i64 o0_0, .imm (.int .i64) o0_1, .imm (.int .i64) o0_2, .int .i64 o0_3, .imm (.sl (.int .i64)) o0_4])]) := he
  refine ⟨rfl, rfl, ?_⟩
  refine loop_model mixed tys_ok t_slices_IndexFunc_s_int__impl_ruleValid_2 (S := Int) (I := (fun i => (envOf [(0, .c (.imm (.sl (.int .i64)) s_)), (1, .c (.fn 218 [0])), (7, .c (.int .i64 (s_.length:Int))), (8, .c (.int .i64 i))], [(0, .rc [.int .i64 (o0_0, (o0_1, (o0_2, (o0_3, o0_4)))).1, .imm (.int .i64) (o0_0, (o0_1, (o0_2, (o0_3, o0_4)))).2.1, .imm (.int .i64) (o0_0, (o0_1, (o0_2, (o0_3, o0_4)))).2.2.1, .int .i64 (o0_0, (o0_1, (o0_2, (o0_3, o0_4)))).2.2.2.1, .imm (.sl (.int .i64)) (o0_0, (o0_1, (o0_2, (o0_3, o0_4)))).2.2.2.2])]))) (f := slices_IndexFunc_s_int__impl_ruleValid_2_l1 s_ (o0_0, (o0_1, (o0_2, (o0_3, o0_4))))) (K := (fun r => k (.c (.int .i64 r)) [(0, .rc [.int .i64 o0_0, .imm (.int .i64) o0_1, .imm (.int .i64) o0_2, .int .i64 o0_3, .imm (.sl (.int .i64)) o0_4])])) he (leads_ren [] (l := [(0, .c (.imm (.sl (.int .i64)) s_)), (1, .c (.fn 218 [0])), (7, .c (.int .i64 (s_.length:Int))), (8, .c (.int .i64 (0:Int)))]) (st' := [(0, .rc [.int .i64 (o0_0, (o0_1, (o0_2, (o0_3, o0_4)))).1, .imm (.int .i64) (o0_0, (o0_1, (o0_2, (o0_3, o0_4)))).2.1, .imm (.int .i64) (o0_0, (o0_1, (o0_2, (o0_3, o0_4)))).2.2.1, .int .i64 (o0_0, (o0_1, (o0_2, (o0_3, o0_4)))).2.2.2.1, .imm (.sl (.int .i64)) (o0_0, (o0_1, (o0_2, (o0_3, o0_4)))).2.2.2.2])]) rfl rfl ⟨⟨rfl, .inl rfl, .inl rfl, rfl, .inl rfl, trivial⟩, trivial⟩ ⟨.inl rfl, ⟨rfl, ⟨⟨rfl, rfl⟩, trivial⟩⟩, rfl, rfl, trivial⟩) ?_
  rintro i J1 he
  refine And.intro (fun hb => ?_) (fun hb => ?_)
  · have he := ok_t he hb
    have he := ok_rq he
    refine And.intro he.1 ?_
    have he := he.2
    obtain ⟨r1_, hr, he⟩ := ok_bind he
    refine ⟨r1_, hr, ?_⟩
    refine And.intro (fun hb => ?_) (fun hb => ?_)
    · have he := ok_t he hb
      have he := ok_some he
      exact ⟨rfl, _, _, (leads_ren [] (l := [(4, .c (.int .i64 i))]) (st' := [(0, .rc [.int .i64 o0_0, .imm (.int .i64) o0_1, .imm (.int .i64) o0_2, .int .i64 o0_3, .imm (.sl (.int .i64)) o0_4])]) rfl rfl ⟨⟨rfl, .inl rfl, .inl rfl, rfl, .inl rfl, trivial⟩, trivial⟩ ⟨rfl, trivial⟩), he⟩
    · have he := ok_f he hb
      have he := ok_rq he
      refine And.intro he.1 ?_
      have he := he.2
      have he := ok_some he
      exact ⟨(i + (1:Int)), he, (leads_ren [] (l := [(0, .c (.imm (.sl (.int .i64)) s_)), (1, .c (.fn 218 [0])), (7, .c (.int .i64 (s_.length:Int))), (8, .c (.int .i64 (i + (1:Int))))]) (st' := [(0, .rc [.int .i64 (o0_0, (o0_1, (o0_2, (o0_3, o0_4)))).1, .imm (.int .i64) (o0_0, (o0_1, (o0_2, (o0_3, o0_4)))).2.1, .imm (.int .i64) (o0_0, (o0_1, (o0_2, (o0_3, o0_4)))).2.2.1, .int .i64 (o0_0, (o0_1, (o0_2, (o0_3, o0_4)))).2.2.2.1, .imm (.sl (.int .i64)) (o0_0, (o0_1, (o0_2, (o0_3, o0_4)))).2.2.2.2])]) rfl rfl ⟨⟨rfl, .inl rfl, .inl rfl, rfl, .inl rfl, trivial⟩, trivial⟩ ⟨.inl rfl, ⟨rfl, ⟨⟨rfl, rfl⟩, trivial⟩⟩, rfl, rfl, trivial⟩)⟩
  · have he := ok_f he hb
    have he := ok_some he
    exact ⟨rfl, _, _, (leads_ren [] (l := [(4, .c (.int .i64 (-1:Int)))]) (st' := [(0, .rc [.int .i64 o0_0, .imm (.int .i64) o0_1, .imm (.int .i64) o0_2, .int .i64 o0_3, .imm (.sl (.int .i64)) o0_4])]) rfl rfl ⟨⟨rfl, .inl rfl, .inl rfl, rfl, .inl rfl, trivial⟩, trivial⟩ ⟨rfl, trivial⟩), he⟩

noncomputable def c_slices_ContainsFunc_s_int__impl_ruleValid_2 : Con := fun args st => match args, st with
  | [.c (.imm (.sl (.int .i64)) s_), .c (.fn 218 [0])], [(0, .rc [.int .i64 o0_0, .imm (.int .i64) o0_1, .imm (.int .i64) o0_2, .int .i64 o0_3, .imm (.sl (.int .i64)) o0_4])] => .opt (Bool) (slices_ContainsFunc_s_int__impl_ruleValid_2 s_ (o0_0, (o0_1, (o0_2, (o0_3, o0_4))))) (fun r => .ret (.c (.bool r)) [(0, .rc [.int .i64 o0_0, .imm (.int .i64) o0_1, .imm (.int .i64) o0_2, .int .i64 o0_3, .imm (.sl (.int .i64)) o0_4])])
  | _, _ => .fail

noncomputable def C_slices_ContainsFunc_s_int__impl_ruleValid_2 : Cfg := { y := tys, n := 9, h := 1, tab := [(263, c_slices_IndexFunc_s_int__impl_ruleValid_2)], cut := [], hand := [], good := [], deep := [], sched := [] }

theorem t_slices_ContainsFunc_s_int__impl_ruleValid_2 : TabOk Try.prog C_slices_ContainsFunc_s_int__impl_ruleValid_2 := by
  refine tabOk_of ?_
  simp only [C_slices_ContainsFunc_s_int__impl_ruleValid_2, List.forall_mem_cons]
  exact ⟨k_slices_IndexFunc_s_int__impl_ruleValid_2, fun p h => by cases h⟩

theorem k_slices_ContainsFunc_s_int__impl_ruleValid_2 : Entry Try.prog 217 c_slices_ContainsFunc_s_int__impl_ruleValid_2 := by
  refine entry_by (C := C_slices_ContainsFunc_s_int__impl_ruleValid_2) mixed tys_ok t_slices_ContainsFunc_s_int__impl_ruleValid_2 (fn := Try.f217) (c := bd Try.f217) (by kernel_rfl) (by kernel_rfl) (by kernel_rfl) (by kernel_rfl) ?_
  intro args st k he
  unfold c_slices_ContainsFunc_s_int__impl_ruleValid_2 at he
  split at he
  rotate_left
  · exact he.elim
  rename_i s_ o0_0 o0_1 o0_2 o0_3 o0_4
  have he : Ok (slices_ContainsFunc_s_int__impl_ruleValid_2 s_ (o0_0, (o0_1, (o0_2, (o0_3, o0_4))))) (fun r => k (.c (.bool r)) [(0, .rc [.int .i64 o0_0, .imm (.int .i64) o0_1, .imm (.int .i64) o0_2, .int .i64 o0_3, .imm (.sl (.int .i64)) o0_4])]) := he
  refine ⟨rfl, rfl, ?_⟩
  obtain ⟨r1_, hr, he⟩ := ok_bind he
  refine ⟨r1_, hr, ?_⟩
  have he := ok_some he
  exact ⟨rfl, _, _, (leads_ren [] (l := [(4, .c (.bool (decide ((0:Int) ≤ r1_))))]) (st' := [(0, .rc [.int .i64 o0_0, .imm (.int .i64) o0_1, .imm (.int .i64) o0_2, .int .i64 o0_3, .imm (.sl (.int .i64)) o0_4])]) rfl rfl ⟨⟨rfl, .inl rfl, .inl rfl, rfl, .inl rfl, trivial⟩, trivial⟩ ⟨.inl rfl, trivial⟩), he⟩

noncomputable def c_impl_ruleValid : Con := fun args st => match args, st with
  | [.agg [.int .i64 a0_0, .imm (.int .i64) a0_1, .imm (.int .i64) a0_2, .int .i64 a0_3, .imm (.sl (.int .i64)) a0_4], .c (.int .i64 a1)], [] => .opt (Bool) (impl_ruleValid (a0_0, (a0_1, (a0_2, (a0_3, a0_4)))) a1) (fun r => .ret (.c (.bool r)) [])
  | _, _ => .fail

noncomputable def C_impl_ruleValid : Cfg := { y := tys, n := 104, h := 0, tab := [(101, c_impl_within), (174, c_slices_ContainsFunc_int__impl_ruleValid_1), (211, c_slices_Contains_int), (217, c_slices_ContainsFunc_s_int__impl_ruleValid_2)], cut := [9], hand := [], good := [], deep := [], sched := [] }

theorem t_impl_ruleValid : TabOk Try.prog C_impl_ruleValid := by
  refine tabOk_of ?_
  simp only [C_impl_ruleValid, List.forall_mem_cons]
  exact ⟨k_impl_within, k_slices_ContainsFunc_int__impl_ruleValid_1, k_slices_Contains_int, k_slices_ContainsFunc_s_int__impl_ruleValid_2, fun p h => by cases h⟩

theorem k_impl_ruleValid : Entry Try.prog 132 c_impl_ruleValid := by
  refine entry_by (C := C_impl_ruleValid) mixed tys_ok t_impl_ruleValid (fn := Try.f132) (c := bd Try.f132) (by kernel_rfl) (by kernel_rfl) (by kernel_rfl) (by kernel_rfl) ?_
  intro args st k he
  unfold c_impl_ruleValid at he
  split at he
  rotate_left
  · exact he.elim
  rename_i a0_0 a0_1 a0_2 a0_3 a0_4 a1
  have he : Ok (impl_ruleValid (a0_0, (a0_1, (a0_2, (a0_3, a0_4)))) a1) (fun r => k (.c (.bool r)) []) := he
  refine ⟨rfl, rfl, ?_⟩
  refine loop_model mixed tys_ok t_impl_ruleValid (S := Int) (I := (fun i => (envOf [(1, .c (.int .i64 a1)), (2, .c (.ptr 10000000 0)), (8, .c (.imm (.int .i64) (a0_0, (a0_1, (a0_2, (a0_3, a0_4)))).2.1)), (9, .c (.int .i64 ((a0_0, (a0_1, (a0_2, (a0_3, a0_4)))).2.1.length:Int))), (10, .c (.int .i64 i))], [(10000000, .rc [.int .i64 (a0_0, (a0_1, (a0_2, (a0_3, a0_4)))).1, .imm (.int .i64) (a0_0, (a0_1, (a0_2, (a0_3, a0_4)))).2.1, .imm (.int .i64) (a0_0, (a0_1, (a0_2, (a0_3, a0_4)))).2.2.1, .int .i64 (a0_0, (a0_1, (a0_2, (a0_3, a0_4)))).2.2.2.1, .imm (.sl (.int .i64)) (a0_0, (a0_1, (a0_2, (a0_3, a0_4)))).2.2.2.2])]))) (f := impl_ruleValid_l1 (a0_0, (a0_1, (a0_2, (a0_3, a0_4)))) a1) (K := (fun r => k (.c (.bool r)) [])) he (leads_ren [(10000000, 2)] (l := [(1, .c (.int .i64 a1)), (2, .c (.ptr 10000000 0)), (8, .c (.imm (.int .i64) (a0_0, (a0_1, (a0_2, (a0_3, a0_4)))).2.1)), (9, .c (.int .i64 ((a0_0, (a0_1, (a0_2, (a0_3, a0_4)))).2.1.length:Int))), (10, .c (.int .i64 (0:Int)))]) (st' := [(10000000, .rc [.int .i64 (a0_0, (a0_1, (a0_2, (a0_3, a0_4)))).1, .imm (.int .i64) (a0_0, (a0_1, (a0_2, (a0_3, a0_4)))).2.1, .imm (.int .i64) (a0_0, (a0_1, (a0_2, (a0_3, a0_4)))).2.2.1, .int .i64 (a0_0, (a0_1, (a0_2, (a0_3, a0_4)))).2.2.2.1, .imm (.sl (.int .i64)) (a0_0, (a0_1, (a0_2, (a0_3, a0_4)))).2.2.2.2])]) rfl rfl ⟨⟨rfl, .inl rfl, .inl rfl, rfl, .inl rfl, trivial⟩, trivial⟩ ⟨rfl, ⟨⟨rfl, rfl⟩, rfl⟩, .inl rfl, rfl, rfl, trivial⟩) ?_
  rintro i J1 he
  refine And.intro (fun hb => ?_) (fun hb => ?_)
  · have he := ok_t he hb
    have he := ok_rq he
    refine And.intro he.1 ?_
    have he := he.2
    have he := ok_rq he
    refine And.intro he.1 ?_
    have he := he.2
    obtain ⟨r1_, hr, he⟩ := ok_bind he
    refine ⟨r1_, hr, ?_⟩
    refine And.intro (fun hb => ?_) (fun hb => ?_)
    · have he := ok_f he hb
      have he := ok_rq he
      refine And.intro he.1 ?_
      have he := he.2
      obtain ⟨r2_, hr, he⟩ := ok_bind he
      refine ⟨r2_, hr, ?_⟩
      refine And.intro (fun hb => ?_) (fun hb => ?_)
      · have he := ok_t he hb
        have he := ok_some he
        exact ⟨rfl, _, _, (leads_ren [] (l := [(4, .c (.bool false))]) (st' := []) rfl rfl trivial ⟨.inr rfl, trivial⟩), he⟩
      · have he := ok_f he hb
        have he := ok_rq he
        refine And.intro he.1 ?_
        have he := he.2
        have he := ok_some he
        exact ⟨(i + (1:Int)), he, (leads_ren [] (l := [(1, .c (.int .i64 a1)), (2, .c (.ptr 10000000 0)), (8, .c (.imm (.int .i64) (a0_0, (a0_1, (a0_2, (a0_3, a0_4)))).2.1)), (9, .c (.int .i64 ((a0_0, (a0_1, (a0_2, (a0_3, a0_4)))).2.1.length:Int))), (10, .c (.int .i64 (i + (1:Int))))]) (st' := [(10000000, .rc [.int .i64 (a0_0, (a0_1, (a0_2, (a0_3, a0_4)))).1, .imm (.int .i64) (a0_0, (a0_1, (a0_2, (a0_3, a0_4)))).2.1, .imm (.int .i64) (a0_0, (a0_1, (a0_2, (a0_3, a0_4)))).2.2.1, .int .i64 (a0_0, (a0_1, (a0_2, (a0_3, a0_4)))).2.2.2.1, .imm (.sl (.int .i64)) (a0_0, (a0_1, (a0_2, (a0_3, a0_4)))).2.2.2.2])]) rfl rfl ⟨⟨rfl, .inl rfl, .inl rfl, rfl, .inl rfl, trivial⟩, trivial⟩ ⟨rfl, ⟨⟨rfl, rfl⟩, rfl⟩, .inl rfl, rfl, rfl, trivial⟩)⟩
    · have he := ok_t he hb
      have he := ok_some he
      exact ⟨rfl, _, _, (leads_ren [] (l := [(4, .c (.bool false))]) (st' := []) rfl rfl trivial ⟨.inr rfl, trivial⟩), he⟩
  · have he := ok_f he hb
    refine seq_model mixed tys_ok t_impl_ruleValid (S := Unit) (I := (fun _ => (envOf [(2, .c (.ptr 10001000 0))], [(10001000, .rc [.int .i64 (a0_0, (a0_1, (a0_2, (a0_3, a0_4)))).1, .imm (.int .i64) (a0_0, (a0_1, (a0_2, (a0_3, a0_4)))).2.1, .imm (.int .i64) (a0_0, (a0_1, (a0_2, (a0_3, a0_4)))).2.2.1, .int .i64 (a0_0, (a0_1, (a0_2, (a0_3, a0_4)))).2.2.2.1, .imm (.sl (.int .i64)) (a0_0, (a0_1, (a0_2, (a0_3, a0_4)))).2.2.2.2])]))) (B := fun s => Ok (impl_ruleValid_j1 (a0_0, (a0_1, (a0_2, (a0_3, a0_4)))) s) (LK J1 (fun r => k (.c (.bool r)) []))) ?_ ?_
    · rintro ⟨⟩ he
      refine And.intro (fun hb => ?_) (fun hb => ?_)
      · have he := ok_t he hb
        refine And.intro (fun hb => ?_) (fun hb => ?_)
        · have he := ok_t he hb
          obtain ⟨r3_, hr, he⟩ := ok_bind he
          refine ⟨r3_, hr, ?_⟩
          refine And.intro (fun hb => ?_) (fun hb => ?_)
          · have he := ok_t he hb
            obtain ⟨r4_, hr, he⟩ := ok_bind he
            refine ⟨r4_, hr, ?_⟩
            have he := ok_some he
            exact ⟨rfl, _, _, (leads_ren [] (l := [(4, .c (.bool (!r4_)))]) (st' := []) rfl rfl trivial ⟨.inl rfl, trivial⟩), he⟩
          · have he := ok_f he hb
            have he := ok_some he
            exact ⟨rfl, _, _, (leads_ren [] (l := [(4, .c (.bool false))]) (st' := []) rfl rfl trivial ⟨.inr rfl, trivial⟩), he⟩
        · have he := ok_f he hb
          have he := ok_some he
          exact ⟨rfl, _, _, (leads_ren [] (l := [(4, .c (.bool false))]) (st' := []) rfl rfl trivial ⟨.inr rfl, trivial⟩), he⟩
      · have he := ok_f he hb
        refine And.intro (fun hb => ?_) (fun hb => ?_)
        · have he := ok_t he hb
          refine And.intro (fun hb => ?_) (fun hb => ?_)
          · have he := ok_t he hb
            obtain ⟨r5_, hr, he⟩ := ok_bind he
            refine ⟨r5_, hr, ?_⟩
            have he := ok_some he
            exact ⟨rfl, _, _, (leads_ren [] (l := [(4, .c (.bool (!r5_)))]) (st' := []) rfl rfl trivial ⟨.inl rfl, trivial⟩), he⟩
          · have he := ok_f he hb
            have he := ok_some he
            exact ⟨rfl, _, _, (leads_ren [] (l := [(4, .c (.bool false))]) (st' := []) rfl rfl trivial ⟨.inr rfl, trivial⟩), he⟩
        · have he := ok_f he hb
          refine And.intro (fun hb => ?_) (fun hb => ?_)
          · have he := ok_t he hb
            have he := ok_some he
            exact ⟨rfl, _, _, (leads_ren [] (l := [(4, .c (.bool (((a0_0, (a0_1, (a0_2, (a0_3, a0_4)))).2.1.length:Int) == (2:Int))))]) (st' := []) rfl rfl trivial ⟨.inl rfl, trivial⟩), he⟩
          · have he := ok_f he hb
            have he := ok_some he
            exact ⟨rfl, _, _, (leads_ren [] (l := [(4, .c (.bool ((a0_0, (a0_1, (a0_2, (a0_3, a0_4)))).1 == (2:Int))))]) (st' := []) rfl rfl trivial ⟨.inl rfl, trivial⟩), he⟩
    · skip
      refine And.intro (fun hb => ?_) (fun hb => ?_)
      · have he := ok_f he hb
        refine And.intro (fun hb => ?_) (fun hb => ?_)
        · have he := ok_t he hb
          refine And.intro (fun hb => ?_) (fun hb => ?_)
          · have he := ok_f he hb
            refine And.intro (fun hb => ?_) (fun hb => ?_)
            · have he := ok_f he hb
              refine And.intro (fun hb => ?_) (fun hb => ?_)
              · have he := ok_t he hb
                refine And.intro (fun hb => ?_) (fun hb => ?_)
                · have he := ok_t he hb
                  have he := ok_some he
                  exact ⟨rfl, _, _, (leads_ren [] (l := [(4, .c (.bool false))]) (st' := []) rfl rfl trivial ⟨.inr rfl, trivial⟩), he⟩
                · have he := ok_f he hb
                  exact ⟨(), he, (leads_ren [(10001000, 10000000)] (l := [(2, .c (.ptr 10001000 0))]) (st' := [(10001000, .rc [.int .i64 (a0_0, (a0_1, (a0_2, (a0_3, a0_4)))).1, .imm (.int .i64) (a0_0, (a0_1, (a0_2, (a0_3, a0_4)))).2.1, .imm (.int .i64) (a0_0, (a0_1, (a0_2, (a0_3, a0_4)))).2.2.1, .int .i64 (a0_0, (a0_1, (a0_2, (a0_3, a0_4)))).2.2.2.1, .imm (.sl (.int .i64)) (a0_0, (a0_1, (a0_2, (a0_3, a0_4)))).2.2.2.2])]) rfl rfl ⟨⟨rfl, .inl rfl, .inl rfl, rfl, .inl rfl, trivial⟩, trivial⟩ ⟨⟨⟨rfl, rfl⟩, rfl⟩, trivial⟩)⟩
              · have he := ok_f he hb
                exact ⟨(), he, (leads_ren [(10001000, 10000000)] (l := [(2, .c (.ptr 10001000 0))]) (st' := [(10001000, .rc [.int .i64 (a0_0, (a0_1, (a0_2, (a0_3, a0_4)))).1, .imm (.int .i64) (a0_0, (a0_1, (a0_2, (a0_3, a0_4)))).2.1, .imm (.int .i64) (a0_0, (a0_1, (a0_2, (a0_3, a0_4)))).2.2.1, .int .i64 (a0_0, (a0_1, (a0_2, (a0_3, a0_4)))).2.2.2.1, .imm (.sl (.int .i64)) (a0_0, (a0_1, (a0_2, (a0_3, a0_4)))).2.2.2.2])]) rfl rfl ⟨⟨rfl, .inl rfl, .inl rfl, rfl, .inl rfl, trivial⟩, trivial⟩ ⟨⟨⟨rfl, rfl⟩, rfl⟩, trivial⟩)⟩
            · have he := ok_t he hb
              have he := ok_some he
              exact ⟨rfl, _, _, (leads_ren [] (l := [(4, .c (.bool false))]) (st' := []) rfl rfl trivial ⟨.inr rfl, trivial⟩), he⟩
          · have he := ok_t he hb
            have he := ok_some he
            exact ⟨rfl, _, _, (leads_ren [] (l := [(4, .c (.bool false))]) (st' := []) rfl rfl trivial ⟨.inr rfl, trivial⟩), he⟩
        · have he := ok_f he hb
          refine And.intro (fun hb => ?_) (fun hb => ?_)
          · have he := ok_t he hb
            refine And.intro (fun hb => ?_) (fun hb => ?_)
            · have he := ok_t he hb
              have he := ok_some he
              exact ⟨rfl, _, _, (leads_ren [] (l := [(4, .c (.bool false))]) (st' := []) rfl rfl trivial ⟨.inr rfl, trivial⟩), he⟩
            · have he := ok_f he hb
              exact ⟨(), he, (leads_ren [(10001000, 10000000)] (l := [(2, .c (.ptr 10001000 0))]) (st' := [(10001000, .rc [.int .i64 (a0_0, (a0_1, (a0_2, (a0_3, a0_4)))).1, .imm (.int .i64) (a0_0, (a0_1, (a0_2, (a0_3, a0_4)))).2.1, .imm (.int .i64) (a0_0, (a0_1, (a0_2, (a0_3, a0_4)))).2.2.1, .int .i64 (a0_0, (a0_1, (a0_2, (a0_3, a0_4)))).2.2.2.1, .imm (.sl (.int .i64)) (a0_0, (a0_1, (a0_2, (a0_3, a0_4)))).2.2.2.2])]) rfl rfl ⟨⟨rfl, .inl rfl, .inl rfl, rfl, .inl rfl, trivial⟩, trivial⟩ ⟨⟨⟨rfl, rfl⟩, rfl⟩, trivial⟩)⟩
          · have he := ok_f he hb
            exact ⟨(), he, (leads_ren [(10001000, 10000000)] (l := [(2, .c (.ptr 10001000 0))]) (st' := [(10001000, .rc [.int .i64 (a0_0, (a0_1, (a0_2, (a0_3, a0_4)))).1, .imm (.int .i64) (a0_0, (a0_1, (a0_2, (a0_3, a0_4)))).2.1, .imm (.int .i64) (a0_0, (a0_1, (a0_2, (a0_3, a0_4)))).2.2.1, .int .i64 (a0_0, (a0_1, (a0_2, (a0_3, a0_4)))).2.2.2.1, .imm (.sl (.int .i64)) (a0_0, (a0_1, (a0_2, (a0_3, a0_4)))).2.2.2.2])]) rfl rfl ⟨⟨rfl, .inl rfl, .inl rfl, rfl, .inl rfl, trivial⟩, trivial⟩ ⟨⟨⟨rfl, rfl⟩, rfl⟩, trivial⟩)⟩
      · have he := ok_t he hb
        have he := ok_some he
        exact ⟨rfl, _, _, (leads_ren [] (l := [(4, .c (.bool false))]) (st' := []) rfl rfl trivial ⟨.inr rfl, trivial⟩), he⟩

noncomputable def c_impl_ModelValid_1 : Con := fun args st => match args, st with
  | [.agg [.int .i64 r__0, .imm (.int .i64) r__1, .imm (.int .i64) r__2, .int .i64 r__3, .imm (.sl (.int .i64)) r__4], .c (.ptr 0 0)], [(0, .rc [.imm (.int .i64) o0_0, .imm (.pair (.int .i64) (.pair (.sl (.int .i64)) (.pair (.sl (.int .i64)) (.pair (.int .i64) (.sl (.sl (.int .i64))))))) o0_1])] => .opt (Bool) (impl_ModelValid_1 (r__0, (r__1, (r__2, (r__3, r__4)))) (o0_0, o0_1)) (fun r => .ret (.c (.bool r)) [(0, .rc [.imm (.int .i64) o0_0, .imm (.pair (.int .i64) (.pair (.sl (.int .i64)) (.pair (.sl (.int .i64)) (.pair (.int .i64) (.sl (.sl (.int .i64))))))) o0_1])])
  | _, _ => .fail

noncomputable def C_impl_ModelValid_1 : Cfg := { y := tys, n := 10, h := 1, tab := [(132, c_impl_ruleValid)], cut := [], hand := [], good := [], deep := [], sched := [] }

theorem t_impl_ModelValid_1 : TabOk Try.prog C_impl_ModelValid_1 := by
  refine tabOk_of ?_
  simp only [C_impl_ModelValid_1, List.forall_mem_cons]
  exact ⟨k_impl_ruleValid, fun p h => by cases h⟩

theorem k_impl_ModelValid_1 : Entry Try.prog 131 c_impl_ModelValid_1 := by
  refine entry_by (C := C_impl_ModelValid_1) mixed tys_ok t_impl_ModelValid_1 (fn := Try.f131) (c := bd Try.f131) (by kernel_rfl) (by kernel_rfl) (by kernel_rfl) (by kernel_rfl) ?_
  intro args st k he
  unfold c_impl_ModelValid_1 at he
  split at he
  rotate_left
  · exact he.elim
  rename_i r__0 r__1 r__2 r__3 r__4 o0_0 o0_1
  have he : Ok (impl_ModelValid_1 (r__0, (r__1, (r__2, (r__3, r__4)))) (o0_0, o0_1)) (fun r => k (.c (.bool r)) [(0, .rc [.imm (.int .i64) o0_0, .imm (.pair (.int .i64) (.pair (.sl (.int .i64)) (.pair (.sl (.int .i64)) (.pair (.int .i64) (.sl (.sl (.int .i64))))))) o0_1])]) := he
  refine ⟨rfl, rfl, ?_⟩
  obtain ⟨r1_, hr, he⟩ := ok_bind he
  refine ⟨r1_, hr, ?_⟩
  have he := ok_some he
  exact ⟨rfl, _, _, (leads_ren [] (l := [(3, .c (.bool (!r1_)))]) (st' := [(0, .rc [.imm (.int .i64) o0_0, .imm (.pair (.int .i64) (.pair (.sl (.int .i64)) (.pair (.sl (.int .i64)) (.pair (.int .i64) (.sl (.sl (.int .i64))))))) o0_1])]) rfl rfl ⟨⟨.inl rfl, .inl rfl, trivial⟩, trivial⟩ ⟨.inl rfl, trivial⟩), he⟩

noncomputable def c_slices_IndexFunc_impl_Rule__impl_ModelValid_1 : Con := fun args st => match args, st with
  | [.c (.imm (.pair (.int .i64) (.pair (.sl (.int .i64)) (.pair (.sl (.int .i64)) (.pair (.int .i64) (.sl (.sl (.int .i64))))))) s_), .c (.fn 131 [0])], [(0, .rc [.imm (.int .i64) o0_0, .imm (.pair (.int .i64) (.pair (.sl (.int .i64)) (.pair (.sl (.int .i64)) (.pair (.int .i64) (.sl (.sl (.int .i64))))))) o0_1])] => .opt (Int) (slices_IndexFunc_impl_Rule__impl_ModelValid_1 s_ (o0_0, o0_1)) (fun r => .ret (.c (.int .i64 r)) [(0, .rc [.imm (.int .i64) o0_0, .imm (.pair (.int .i64) (.pair (.sl (.int .i64)) (.pair (.sl (.int .i64)) (.pair (.int .i64) (.sl (.sl (.int .i64))))))) o0_1])])
  | _, _ => .fail

noncomputable def C_slices_IndexFunc_impl_Rule__impl_ModelValid_1 : Cfg := { y := tys, n := 19, h := 1, tab := [(131, c_impl_ModelValid_1)], cut := [], hand := [], good := [], deep := [], sched := [] }

theorem t_slices_IndexFunc_impl_Rule__impl_ModelValid_1 : TabOk Try.prog C_slices_IndexFunc_impl_Rule__impl_ModelValid_1 := by
  refine tabOk_of ?_
  simp only [C_slices_IndexFunc_impl_Rule__impl_ModelValid_1, List.forall_mem_cons]
  exact ⟨k_impl_ModelValid_1, fun p h => by cases h⟩

theorem k_slices_IndexFunc_impl_Rule__impl_ModelValid_1 : Entry Try.prog 215 c_slices_IndexFunc_impl_Rule__impl_ModelValid_1 := by
  refine entry_by (C := C_slices_IndexFunc_impl_Rule__impl_ModelValid_1) mixed tys_ok t_slices_IndexFunc_impl_Rule__impl_ModelValid_1 (fn := Try.f215) (c := bd Try.f215) (by kernel_rfl) (by kernel_rfl) (by kernel_rfl) (by kernel_rfl) ?_
  intro args st k he
  unfold c_slices_IndexFunc_impl_Rule__impl_ModelValid_1 at he
  split at he
  rotate_left
  · exact he.elim
  rename_i s_ o0_0 o0_1
  have he : Ok (slices_IndexFunc_impl_Rule__impl_ModelValid_1 s_ (o0_0, o0_1)) (fun r => k (.c (.int .i64 r)) [(0, .rc [.imm (.int .i64) o0_0, .imm (.pair (.int .i64) (.pair (.sl (.int .i64)) (.pair (.sl (.int .i64)) (.pair (.int .i64) (.sl (.sl (.int .i64))))))) o0_1])]) := he
  refine ⟨rfl, rfl, ?_⟩
  refine loop_model mixed tys_ok t_slices_IndexFunc_impl_Rule__impl_ModelValid_1 (S := Int) (I := (fun i => (envOf [(0, .c (.imm (.pair (.int .i64) (.pair (.sl (.int .i64)) (.pair (.sl (.int .i64)) (.pair (.int .i64) (.sl (.sl (.int .i64))))))) s_)), (1, .c (.fn 131 [0])), (7, .c (.int .i64 (s_.length:Int))), (8, .c (.int .i64 i))], [(0, .rc [.imm (.int .i64) (o0_0, o0_1).1, .imm (.pair (.int .i64) (.pair (.sl (.int .i64)) (.pair (.sl (.int .i64)) (.pair (.int .i64) (.sl (.sl (.int .i64))))))) (o0_0, o0_1).2])]))) (f := slices_IndexFunc_impl_Rule__impl_ModelValid_1_l1 s_ (o0_0, o0_1)) (K := (fun r => k (.c (.int .i64 r)) [(0, .rc [.imm (.int .i64) o0_0, .imm (.pair (.int .i64) (.pair (.sl (.int .i64)) (.pair (.sl (.int .i64)) (.pair (.int .i64) (.sl (.sl (.int .i64))))))) o0_1])])) he (leads_ren [] (l := [(0, .c (.imm (.pair (.int .i64) (.pair (.sl (.int .i64)) (.pair (.sl (.int .i64)) (.pair (.int .i64) (.sl (.sl (.int .i64))))))) s_)), (1, .c (.fn 131 [0])), (7, .c (.int .i64 (s_.length:Int))), (8, .c (.int .i64 (0:Int)))]) (st' := [(0, .rc [.imm (.int .i64) (o0_0, o0_1).1, .imm (.pair (.int .i64) (.pair (.sl (.int .i64)) (.pair (.sl (.int .i64)) (.pair (.int .i64) (.sl (.sl (.int .i64))))))) (o0_0, o0_1).2])]) rfl rfl ⟨⟨.inl rfl, .inl rfl, trivial⟩, trivial⟩ ⟨.inl rfl, ⟨rfl, ⟨⟨rfl, rfl⟩, trivial⟩⟩, rfl, rfl, trivial⟩) ?_
  rintro i J1 he
  refine And.intro (fun hb => ?_) (fun hb => ?_)
  · have he := ok_t he hb
    have he := ok_rq he
    refine And.intro he.1 ?_
    have he := he.2
    obtain ⟨r1_, hr, he⟩ := ok_bind he
    refine ⟨r1_, hr, ?_⟩
    refine And.intro (fun hb => ?_) (fun hb => ?_)
    · have he := ok_t he hb
      have he := ok_some he
      exact ⟨rfl, _, _, (leads_ren [] (l := [(4, .c (.int .i64 i))]) (st' := [(0, .rc [.imm (.int .i64) o0_0, .imm (.pair (.int .i64) (.pair (.sl (.int .i64)) (.pair (.sl (.int .i64)) (.pair (.int .i64) (.sl (.sl (.int .i64))))))) o0_1])]) rfl rfl ⟨⟨.inl rfl, .inl rfl, trivial⟩, trivial⟩ ⟨rfl, trivial⟩), he⟩
    · have he := ok_f he hb
      have he := ok_rq he
      refine And.intro he.1 ?_
      have he := he.2
      have he := ok_some he
      exact ⟨(i + (1:Int)), he, (leads_ren [] (l := [(0, .c (.imm (.pair (.int .i64) (.pair (.sl (.int .i64)) (.pair (.sl (.int .i64)) (.pair (.int .i64) (.sl (.sl (.int .i64))))))) s_)), (1, .c (.fn 131 [0])), (7, .c (.int .i64 (s_.length:Int))), (8, .c (.int .i64 (i + (1:Int))))]) (st' := [(0, .rc [.imm (.int .i64) (o0_0, o0_1).1, .imm (.pair (.int .i64) (.pair (.sl (.int .i64)) (.pair (.sl (.int .i64)) (.pair (.int .i64) (.sl (.sl (.int .i64))))))) (o0_0, o0_1).2])]) rfl rfl ⟨⟨.inl rfl, .inl rfl, trivial⟩, trivial⟩ ⟨.inl rfl, ⟨rfl, ⟨⟨rfl, rfl⟩, trivial⟩⟩, rfl, rfl, trivial⟩)⟩
  · have he := ok_f he hb
    have he := ok_some he
    exact ⟨rfl, _, _, (leads_ren [] (l := [(4, .c (.int .i64 (-1:Int)))]) (st' := [(0, .rc [.imm (.int .i64) o0_0, .imm (.pair (.int .i64) (.pair (.sl (.int .i64)) (.pair (.sl (.int .i64)) (.pair (.int .i64) (.sl (.sl (.int .i64))))))) o0_1])]) rfl rfl ⟨⟨.inl rfl, .inl rfl, trivial⟩, trivial⟩ ⟨rfl, trivial⟩), he⟩

noncomputable def c_slices_ContainsFunc_impl_Rule__impl_ModelValid_1 : Con := fun args st => match args, st with
  | [.c (.imm (.pair (.int .i64) (.pair (.sl (.int .i64)) (.pair (.sl (.int .i64)) (.pair (.int .i64) (.sl (.sl (.int .i64))))))) s_), .c (.fn 131 [0])], [(0, .rc [.imm (.int .i64) o0_0, .imm (.pair (.int .i64) (.pair (.sl (.int .i64)) (.pair (.sl (.int .i64)) (.pair (.int .i64) (.sl (.sl (.int .i64))))))) o0_1])] => .opt (Bool) (slices_ContainsFunc_impl_Rule__impl_ModelValid_1 s_ (o0_0, o0_1)) (fun r => .ret (.c (.bool r)) [(0, .rc [.imm (.int .i64) o0_0, .imm (.pair (.int .i64) (.pair (.sl (.int .i64)) (.pair (.sl (.int .i64)) (.pair (.int .i64) (.sl (.sl (.int .i64))))))) o0_1])])
  | _, _ => .fail

noncomputable def C_slices_ContainsFunc_impl_Rule__impl_ModelValid_1 : Cfg := { y := tys, n := 9, h := 1, tab := [(215, c_slices_IndexFunc_impl_Rule__impl_ModelValid_1)], cut := [], hand := [], good := [], deep := [], sched := [] }

theorem t_slices_ContainsFunc_impl_Rule__impl_ModelValid_1 : TabOk Try.prog C_slices_ContainsFunc_impl_Rule__impl_ModelValid_1 := by
  refine tabOk_of ?_
  simp only [C_slices_ContainsFunc_impl_Rule__impl_ModelValid_1, List.forall_mem_cons]
  exact ⟨k_slices_IndexFunc_impl_Rule__impl_ModelValid_1, fun p h => by cases h⟩

theorem k_slices_ContainsFunc_impl_Rule__impl_ModelValid_1 : Entry Try.prog 130 c_slices_ContainsFunc_impl_Rule__impl_ModelValid_1 := by
  refine entry_by (C := C_slices_ContainsFunc_impl_Rule__impl_ModelValid_1) mixed tys_ok t_slices_ContainsFunc_impl_Rule__impl_ModelValid_1 (fn := Try.f130) (c := bd Try.f130) (by kernel_rfl) (by kernel_rfl) (by kernel_rfl) (by kernel_rfl) ?_
  intro args st k he
  unfold c_slices_ContainsFunc_impl_Rule__impl_ModelValid_1 at he
  split at he
  rotate_left
  · exact he.elim
  rename_i s_ o0_0 o0_1
  have he : Ok (slices_ContainsFunc_impl_Rule__impl_ModelValid_1 s_ (o0_0, o0_1)) (fun r => k (.c (.bool r)) [(0, .rc [.imm (.int .i64) o0_0, .imm (.pair (.int .i64) (.pair (.sl (.int .i64)) (.pair (.sl (.int .i64)) (.pair (.int .i64) (.sl (.sl (.int .i64))))))) o0_1])]) := he
  refine ⟨rfl, rfl, ?_⟩
  obtain ⟨r1_, hr, he⟩ := ok_bind he
  refine ⟨r1_, hr, ?_⟩
  have he := ok_some he
  exact ⟨rfl, _, _, (leads_ren [] (l := [(4, .c (.bool (decide ((0:Int) ≤ r1_))))]) (st' := [(0, .rc [.imm (.int .i64) o0_0, .imm (.pair (.int .i64) (.pair (.sl (.int .i64)) (.pair (.sl (.int .i64)) (.pair (.int .i64) (.sl (.sl (.int .i64))))))) o0_1])]) rfl rfl ⟨⟨.inl rfl, .inl rfl, trivial⟩, trivial⟩ ⟨.inl rfl, trivial⟩), he⟩

noncomputable def c_impl_ModelValid : Con := fun args st => match args, st with
  | [.agg [.imm (.int .i64) m_0, .imm (.pair (.int .i64) (.pair (.sl (.int .i64)) (.pair (.sl (.int .i64)) (.pair (.int .i64) (.sl (.sl (.int .i64))))))) m_1]], [] => .opt (Bool) (impl_ModelValid (m_0, m_1)) (fun r => .ret (.c (.bool r)) [])
  | _, _ => .fail

noncomputable def C_impl_ModelValid : Cfg := { y := tys, n := 41, h := 0, tab := [(101, c_impl_within), (130, c_slices_ContainsFunc_impl_Rule__impl_ModelValid_1)], cut := [], hand := [], good := [], deep := [], sched := [] }

theorem t_impl_ModelValid : TabOk Try.prog C_impl_ModelValid := by
  refine tabOk_of ?_
  simp only [C_impl_ModelValid, List.forall_mem_cons]
  exact ⟨k_impl_within, k_slices_ContainsFunc_impl_Rule__impl_ModelValid_1, fun p h => by cases h⟩

theorem k_impl_ModelValid : Entry Try.prog 39 c_impl_ModelValid := by
  refine entry_by (C := C_impl_ModelValid) mixed tys_ok t_impl_ModelValid (fn := Try.f39) (c := bd Try.f39) (by kernel_rfl) (by kernel_rfl) (by kernel_rfl) (by kernel_rfl) ?_
  intro args st k he
  unfold c_impl_ModelValid at he
  split at he
  rotate_left
  · exact he.elim
  rename_i m_0 m_1
  have he : Ok (impl_ModelValid (m_0, m_1)) (fun r => k (.c (.bool r)) []) := he
  refine ⟨rfl, rfl, ?_⟩
  obtain ⟨r1_, hr, he⟩ := ok_bind he
  refine ⟨r1_, hr, ?_⟩
  refine And.intro (fun hb => ?_) (fun hb => ?_)
  · have he := ok_f he hb
    refine And.intro (fun hb => ?_) (fun hb => ?_)
    · have he := ok_t he hb
      have he := ok_some he
      exact ⟨rfl, _, _, (leads_ren [] (l := [(2, .c (.bool false))]) (st' := []) rfl rfl trivial ⟨.inr rfl, trivial⟩), he⟩
    · have he := ok_f he hb
      refine loop_model mixed tys_ok t_impl_ModelValid (S := Int × Int) (I := (fun (count, i) => (envOf [(1, .c (.ptr 10000000 0)), (3, .c (.int .i64 count)), (18, .c (.imm (.int .i64) (m_0, m_1).1)), (19, .c (.int .i64 ((m_0, m_1).1.length:Int))), (20, .c (.int .i64 i))], [(10000000, .rc [.imm (.int .i64) (m_0, m_1).1, .imm (.pair (.int .i64) (.pair (.sl (.int .i64)) (.pair (.sl (.int .i64)) (.pair (.int .i64) (.sl (.sl (.int .i64))))))) (m_0, m_1).2])]))) (f := impl_ModelValid_l1 (m_0, m_1)) (K := (fun r => k (.c (.bool r)) [])) he (leads_ren [(10000000, 1)] (l := [(1, .c (.ptr 10000000 0)), (3, .c (.int .i64 (0:Int))), (18, .c (.imm (.int .i64) (m_0, m_1).1)), (19, .c (.int .i64 ((m_0, m_1).1.length:Int))), (20, .c (.int .i64 (0:Int)))]) (st' := [(10000000, .rc [.imm (.int .i64) (m_0, m_1).1, .imm (.pair (.int .i64) (.pair (.sl (.int .i64)) (.pair (.sl (.int .i64)) (.pair (.int .i64) (.sl (.sl (.int .i64))))))) (m_0, m_1).2])]) rfl rfl ⟨⟨.inl rfl, .inl rfl, trivial⟩, trivial⟩ ⟨⟨⟨rfl, rfl⟩, rfl⟩, rfl, .inl rfl, rfl, rfl, trivial⟩) ?_
      rintro ⟨count, i⟩ J1 he
      refine And.intro (fun hb => ?_) (fun hb => ?_)
      · have he := ok_t he hb
        have he := ok_rq he
        refine And.intro he.1 ?_
        have he := he.2
        obtain ⟨r2_, hr, he⟩ := ok_bind he
        refine ⟨r2_, hr, ?_⟩
        refine And.intro (fun hb => ?_) (fun hb => ?_)
        · have he := ok_t he hb
          have he := ok_some he
          exact ⟨rfl, _, _, (leads_ren [] (l := [(2, .c (.bool false))]) (st' := []) rfl rfl trivial ⟨.inr rfl, trivial⟩), he⟩
        · have he := ok_f he hb
          have he := ok_rq he
          refine And.intro he.1 ?_
          have he := he.2
          have he := ok_rq he
          refine And.intro he.1 ?_
          have he := he.2
          have he := ok_rq he
          refine And.intro he.1 ?_
          have he := he.2
          have he := ok_some he
          exact ⟨((count + (((m_0, m_1).1.getD i.toNat 0) + (1:Int))), (i + (1:Int))), he, (leads_ren [] (l := [(1, .c (.ptr 10000000 0)), (3, .c (.int .i64 (count + (((m_0, m_1).1.getD i.toNat 0) + (1:Int))))), (18, .c (.imm (.int .i64) (m_0, m_1).1)), (19, .c (.int .i64 ((m_0, m_1).1.length:Int))), (20, .c (.int .i64 (i + (1:Int))))]) (st' := [(10000000, .rc [.imm (.int .i64) (m_0, m_1).1, .imm (.pair (.int .i64) (.pair (.sl (.int .i64)) (.pair (.sl (.int .i64)) (.pair (.int .i64) (.sl (.sl (.int .i64))))))) (m_0, m_1).2])]) rfl rfl ⟨⟨.inl rfl, .inl rfl, trivial⟩, trivial⟩ ⟨⟨⟨rfl, rfl⟩, rfl⟩, rfl, .inl rfl, rfl, rfl, trivial⟩)⟩
      · have he := ok_f he hb
        refine And.intro (fun hb => ?_) (fun hb => ?_)
        · have he := ok_t he hb
          obtain ⟨r3_, hr, he⟩ := ok_bind he
          refine ⟨r3_, hr, ?_⟩
          have he := ok_some he
          exact ⟨rfl, _, _, (leads_ren [] (l := [(2, .c (.bool (!r3_)))]) (st' := []) rfl rfl trivial ⟨.inl rfl, trivial⟩), he⟩
        · have he := ok_f he hb
          have he := ok_some he
          exact ⟨rfl, _, _, (leads_ren [] (l := [(2, .c (.bool false))]) (st' := []) rfl rfl trivial ⟨.inr rfl, trivial⟩), he⟩
  · have he := ok_t he hb
    have he := ok_some he
    exact ⟨rfl, _, _, (leads_ren [] (l := [(2, .c (.bool false))]) (st' := []) rfl rfl trivial ⟨.inr rfl, trivial⟩), he⟩

noncomputable def c_impl_PermValid : Con := fun args st => match args, st with
  | [.agg [.imm (.int .i64) m_0, .imm (.pair (.int .i64) (.pair (.sl (.int .i64)) (.pair (.sl (.int .i64)) (.pair (.int .i64) (.sl (.sl (.int .i64))))))) m_1], .c (.imm (.int .i64) perm)], [] => .opt (Bool) (impl_PermValid (m_0, m_1) perm) (fun r => .ret (.c (.bool r)) [])
  | _, _ => .fail

noncomputable def C_impl_PermValid : Cfg := { y := tys, n := 52, h := 0, tab := [(39, c_impl_ModelValid), (101, c_impl_within), (211, c_slices_Contains_int)], cut := [], hand := [], good := [], deep := [], sched := [(6, (.first 0 (.first 1 (.first 2 (.first 3 (.alt 4 (.first 5 (.first 6 (.first 7 (.first 9 (.first 12 (.first 14 (.alt 8 (.first 10 (.first 11 (.alt 13 (.first 15 (.first 16 (.first 17 (.first 18 (.first 19 (.first 20 (.first 21 (.first 23 (.alt 22 (.alt 24 (.first 25 .done) .stop) .stop))))))))) .stop))) (.alt 13 (.first 15 (.first 16 (.alt 8 (.first 10 (.first 11 (.first 17 (.first 18 (.first 19 (.first 20 (.first 21 (.first 23 (.alt 22 (.alt 24 (.first 25 .done) .stop) .stop))))))))) .stop))) .stop)))))))) .stop))))))] }

theorem t_impl_PermValid : TabOk Try.prog C_impl_PermValid := by
  refine tabOk_of ?_
  simp only [C_impl_PermValid, List.forall_mem_cons]
  exact ⟨k_impl_ModelValid, k_impl_within, k_slices_Contains_int, fun p h => by cases h⟩

theorem k_impl_PermValid : Entry Try.prog 123 c_impl_PermValid := by
  refine entry_by (C := C_impl_PermValid) mixed tys_ok t_impl_PermValid (fn := Try.f123) (c := bd Try.f123) (by kernel_rfl) (by kernel_rfl) (by kernel_rfl) (by kernel_rfl) ?_
  intro args st k he
  unfold c_impl_PermValid at he
  split at he
  rotate_left
  · exact he.elim
  rename_i m_0 m_1 perm
  have he : Ok (impl_PermValid (m_0, m_1) perm) (fun r => k (.c (.bool r)) []) := he
  refine ⟨rfl, rfl, ?_⟩
  obtain ⟨r1_, hr, he⟩ := ok_bind he
  refine ⟨r1_, hr, ?_⟩
  refine And.intro (fun hb => ?_) (fun hb => ?_)
  · have he := ok_f he hb
    refine And.intro (fun hb => ?_) (fun hb => ?_)
    · have he := ok_t he hb
      have he := ok_some he
      exact ⟨rfl, _, _, (leads_ren [] (l := [(4, .c (.bool false))]) (st' := []) rfl rfl trivial ⟨.inr rfl, trivial⟩), he⟩
    · have he := ok_f he hb
      refine loop_model mixed tys_ok t_impl_PermValid (S := Int) (I := (fun i => (envOf [(1, .c (.imm (.int .i64) perm)), (2, .c (.ptr 10000000 0)), (18, .c (.imm (.int .i64) perm)), (19, .c (.int .i64 (perm.length:Int))), (20, .c (.int .i64 i))], [(10000000, .rc [.imm (.int .i64) (m_0, m_1).1, .imm (.pair (.int .i64) (.pair (.sl (.int .i64)) (.pair (.sl (.int .i64)) (.pair (.int .i64) (.sl (.sl (.int .i64))))))) (m_0, m_1).2])]))) (f := impl_PermValid_l1 (m_0, m_1) perm) (K := (fun r => k (.c (.bool r)) [])) he (leads_ren [(10000000, 2)] (l := [(1, .c (.imm (.int .i64) perm)), (2, .c (.ptr 10000000 0)), (18, .c (.imm (.int .i64) perm)), (19, .c (.int .i64 (perm.length:Int))), (20, .c (.int .i64 (0:Int)))]) (st' := [(10000000, .rc [.imm (.int .i64) (m_0, m_1).1, .imm (.pair (.int .i64) (.pair (.sl (.int .i64)) (.pair (.sl (.int .i64)) (.pair (.int .i64) (.sl (.sl (.int .i64))))))) (m_0, m_1).2])]) rfl rfl ⟨⟨.inl rfl, .inl rfl, trivial⟩, trivial⟩ ⟨.inl rfl, ⟨⟨rfl, rfl⟩, rfl⟩, .inl rfl, rfl, rfl, trivial⟩) ?_
      rintro i J1 he
      refine And.intro (fun hb => ?_) (fun hb => ?_)
      · have he := ok_t he hb
        have he := ok_rq he
        refine And.intro he.1 ?_
        have he := he.2
        refine And.intro (by kernel_rfl) ?_
        have he := ok_rq he
        refine And.intro he.1 ?_
        have he := he.2
        refine And.intro ?_ trivial
        obtain ⟨r4_, hr, he⟩ := ok_bind he
        refine ⟨r4_, hr, ?_⟩
        refine And.intro (fun hb => ?_) (fun hb => ?_)
        · have he := ok_f he hb
          have he := ok_rq he
          have hq1 := he.1
          have he := he.2
          have he := ok_rq he
          have hq2 := he.1
          have he := he.2
          refine And.intro ?_ (And.intro ?_ (trivial))
          · skip
            refine And.intro hq1 ?_
            refine And.intro ?_ trivial
            refine And.intro hq2 ?_
            refine And.intro (fun hb => ?_) (fun hb => ?_)
            · have he := ok_f he hb
              refine And.intro ?_ trivial
              have he := ok_rq he
              refine And.intro he.1 ?_
              have he := he.2
              refine And.intro ?_ trivial
              obtain ⟨r5_, hr, he⟩ := ok_bind he
              refine ⟨r5_, hr, ?_⟩
              refine And.intro (fun hb => ?_) (fun hb => ?_)
              · have he := ok_t he hb
                have he := ok_some he
                exact ⟨rfl, _, _, (leads_ren [] (l := [(4, .c (.bool false))]) (st' := []) rfl rfl trivial ⟨.inr rfl, trivial⟩), he⟩
              · have he := ok_f he hb
                have he := ok_rq he
                refine And.intro he.1 ?_
                have he := he.2
                have he := ok_some he
                exact ⟨(i + (1:Int)), he, (leads_ren [] (l := [(1, .c (.imm (.int .i64) perm)), (2, .c (.ptr 10000000 0)), (18, .c (.imm (.int .i64) perm)), (19, .c (.int .i64 (perm.length:Int))), (20, .c (.int .i64 (i + (1:Int))))]) (st' := [(10000000, .rc [.imm (.int .i64) (m_0, m_1).1, .imm (.pair (.int .i64) (.pair (.sl (.int .i64)) (.pair (.sl (.int .i64)) (.pair (.int .i64) (.sl (.sl (.int .i64))))))) (m_0, m_1).2])]) rfl rfl ⟨⟨.inl rfl, .inl rfl, trivial⟩, trivial⟩ ⟨.inl rfl, ⟨⟨rfl, rfl⟩, rfl⟩, .inl rfl, rfl, rfl, trivial⟩)⟩
            · have he := ok_t he hb
              refine And.intro ?_ trivial
              refine And.intro ?_ trivial
              have he := ok_some he
              exact ⟨rfl, _, _, (leads_ren [] (l := [(4, .c (.bool false))]) (st' := []) rfl rfl trivial ⟨.inr rfl, trivial⟩), he⟩
          · skip
            refine And.intro hq2 ?_
            refine And.intro ?_ trivial
            refine And.intro hq1 ?_
            refine And.intro (fun hb => ?_) (fun hb => ?_)
            · have he := ok_f he hb
              refine And.intro ?_ trivial
              have he := ok_rq he
              refine And.intro he.1 ?_
              have he := he.2
              refine And.intro ?_ trivial
              obtain ⟨r5_, hr, he⟩ := ok_bind he
              refine ⟨r5_, hr, ?_⟩
              refine And.intro (fun hb => ?_) (fun hb => ?_)
              · have he := ok_t he hb
                have he := ok_some he
                exact ⟨rfl, _, _, (leads_ren [] (l := [(4, .c (.bool false))]) (st' := []) rfl rfl trivial ⟨.inr rfl, trivial⟩), he⟩
              · have he := ok_f he hb
                have he := ok_rq he
                refine And.intro he.1 ?_
                have he := he.2
                have he := ok_some he
                exact ⟨(i + (1:Int)), he, (leads_ren [] (l := [(1, .c (.imm (.int .i64) perm)), (2, .c (.ptr 10000000 0)), (18, .c (.imm (.int .i64) perm)), (19, .c (.int .i64 (perm.length:Int))), (20, .c (.int .i64 (i + (1:Int))))]) (st' := [(10000000, .rc [.imm (.int .i64) (m_0, m_1).1, .imm (.pair (.int .i64) (.pair (.sl (.int .i64)) (.pair (.sl (.int .i64)) (.pair (.int .i64) (.sl (.sl (.int .i64))))))) (m_0, m_1).2])]) rfl rfl ⟨⟨.inl rfl, .inl rfl, trivial⟩, trivial⟩ ⟨.inl rfl, ⟨⟨rfl, rfl⟩, rfl⟩, .inl rfl, rfl, rfl, trivial⟩)⟩
            · have he := ok_t he hb
              refine And.intro ?_ trivial
              refine And.intro ?_ trivial
              have he := ok_some he
              exact ⟨rfl, _, _, (leads_ren [] (l := [(4, .c (.bool false))]) (st' := []) rfl rfl trivial ⟨.inr rfl, trivial⟩), he⟩
        · have he := ok_t he hb
          refine And.intro ?_ (And.intro ?_ (trivial))
          · skip
            refine And.intro ?_ trivial
            refine And.intro ?_ trivial
            refine And.intro ?_ trivial
            have he := ok_some he
            exact ⟨rfl, _, _, (leads_ren [] (l := [(4, .c (.bool false))]) (st' := []) rfl rfl trivial ⟨.inr rfl, trivial⟩), he⟩
          · skip
            refine And.intro ?_ trivial
            refine And.intro ?_ trivial
            refine And.intro ?_ trivial
            have he := ok_some he
            exact ⟨rfl, _, _, (leads_ren [] (l := [(4, .c (.bool false))]) (st' := []) rfl rfl trivial ⟨.inr rfl, trivial⟩), he⟩
      · have he := ok_f he hb
        have he := ok_some he
        exact ⟨rfl, _, _, (leads_ren [] (l := [(4, .c (.bool true))]) (st' := []) rfl rfl trivial ⟨.inr rfl, trivial⟩), he⟩
  · have he := ok_t he hb
    have he := ok_some he
    exact ⟨rfl, _, _, (leads_ren [] (l := [(4, .c (.bool false))]) (st' := []) rfl rfl trivial ⟨.inr rfl, trivial⟩), he⟩

noncomputable def c_slices_Clone_int : Con := fun args st => match args, st with
  | [.c (.imm (.int .i64) s_)], [] => .opt ((List Int)) (slices_Clone_int s_) (fun r => .ret (.c (.own 900 false)) [(900, .sl 3 (.int .i64) r .shallow)])
  | _, _ => .fail

noncomputable def C_slices_Clone_int : Cfg := { y := tys, n := 8, h := 0, tab := [], cut := [], hand := [], good := [], deep := [], sched := [] }

theorem t_slices_Clone_int : TabOk Try.prog C_slices_Clone_int := tabOk_of (fun p h => by cases h)

theorem k_slices_Clone_int : Entry Try.prog 150 c_slices_Clone_int := by
  refine entry_by (C := C_slices_Clone_int) mixed tys_ok t_slices_Clone_int (fn := Try.f150) (c := bd Try.f150) (by kernel_rfl) (by kernel_rfl) (by kernel_rfl) (by kernel_rfl) ?_
  intro args st k he
  unfold c_slices_Clone_int at he
  split at he
  rotate_left
  · exact he.elim
  rename_i s_
  have he : Ok (slices_Clone_int s_) (fun r => k (.c (.own 900 false)) [(900, .sl 3 (.int .i64) r .shallow)]) := he
  refine ⟨rfl, rfl, ?_⟩
  refine fun b1_ hb1_ => ?_
  have he := ok_nt he hb1_
  refine And.intro (fun hb => ?_) (fun hb => ?_)
  · have he := ok_t he hb
    have he := ok_some he
    exact ⟨rfl, _, _, (leads_ren [] (l := [(2, .c (.own 900 false))]) (st' := [(900, .sl 3 (.int .i64) ([] : List Int) .shallow)]) rfl rfl ⟨trivial, trivial⟩ ⟨⟨rfl, trivial⟩, trivial⟩), he⟩
  · have he := ok_f he hb
    have he := ok_rq he
    refine And.intro he.1 ?_
    have he := he.2
    have he := ok_some he
    exact ⟨rfl, _, _, (leads_ren [(900, 7)] (l := [(2, .c (.own 900 false))]) (st' := [(900, .sl 3 (.int .i64) (([] : List Int) ++ s_) .shallow)]) rfl rfl ⟨⟨rfl, rfl⟩, trivial⟩ ⟨⟨⟨rfl, rfl⟩, trivial⟩, trivial⟩), he⟩

noncomputable def c_slices_Clone_s_int : Con := fun args st => match args, st with
  | [.c (.imm (.sl (.int .i64)) s_)], [] => .opt ((List (List Int))) (slices_Clone_s_int s_) (fun r => .ret (.c (.own 900 false)) [(900, .sl 23 (.sl (.int .i64)) r .shallow)])
  | _, _ => .fail

noncomputable def C_slices_Clone_s_int : Cfg := { y := tys, n := 8, h := 0, tab := [], cut := [], hand := [], good := [], deep := [], sched := [] }

theorem t_slices_Clone_s_int : TabOk Try.prog C_slices_Clone_s_int := tabOk_of (fun p h => by cases h)

theorem k_slices_Clone_s_int : Entry Try.prog 276 c_slices_Clone_s_int := by
  refine entry_by (C := C_slices_Clone_s_int) mixed tys_ok t_slices_Clone_s_int (fn := Try.f276) (c := bd Try.f276) (by kernel_rfl) (by kernel_rfl) (by kernel_rfl) (by kernel_rfl) ?_
  intro args st k he
  unfold c_slices_Clone_s_int at he
  split at he
  rotate_left
  · exact he.elim
  rename_i s_
  have he : Ok (slices_Clone_s_int s_) (fun r => k (.c (.own 900 false)) [(900, .sl 23 (.sl (.int .i64)) r .shallow)]) := he
  refine ⟨rfl, rfl, ?_⟩
  refine fun b1_ hb1_ => ?_
  have he := ok_nt he hb1_
  refine And.intro (fun hb => ?_) (fun hb => ?_)
  · have he := ok_t he hb
    have he := ok_some he
    exact ⟨rfl, _, _, (leads_ren [] (l := [(2, .c (.own 900 false))]) (st' := [(900, .sl 23 (.sl (.int .i64)) ([] : List (List Int)) .shallow)]) rfl rfl ⟨trivial, trivial⟩ ⟨⟨rfl, trivial⟩, trivial⟩), he⟩
  · have he := ok_f he hb
    have he := ok_rq he
    refine And.intro he.1 ?_
    have he := he.2
    have he := ok_some he
    exact ⟨rfl, _, _, (leads_ren [(900, 7)] (l := [(2, .c (.own 900 false))]) (st' := [(900, .sl 23 (.sl (.int .i64)) (([] : List (List Int)) ++ s_) .shallow)]) rfl rfl ⟨⟨rfl, rfl⟩, trivial⟩ ⟨⟨⟨rfl, rfl⟩, trivial⟩, trivial⟩), he⟩

noncomputable def c_impl_Rule_own : Con := fun args st => match args, st with
  | [.agg [.int .i64 r__0, .imm (.int .i64) r__1, .imm (.int .i64) r__2, .int .i64 r__3, .imm (.sl (.int .i64)) r__4]], [] => .opt (Int × Int × (List Int) × (List Int) × (List (List Int))) (impl_Rule_own (r__0, (r__1, (r__2, (r__3, r__4))))) (fun r => .ret (.agg [.int .i64 r.1, .own 901 false, .own 902 false, .int .i64 r.2.1, .own 903 false]) [(900, .rc [.int .i64 r.1, .own 901 false, .own 902 false, .int .i64 r.2.1, .own 903 false]), (901, .sl 3 (.int .i64) r.2.2.1 .shallow), (902, .sl 3 (.int .i64) r.2.2.2.1 .shallow), (903, .sl 23 (.sl (.int .i64)) r.2.2.2.2 (.deep true .no))])
  | _, _ => .fail

noncomputable def C_impl_Rule_own : Cfg := { y := tys, n := 33, h := 0, tab := [(150, c_slices_Clone_int), (276, c_slices_Clone_s_int)], cut := [2], hand := [], good := [], deep := [], sched := [(1, (.first 0 (.first 3 (.first 6 (.alt 1 (.alt 2 (.alt 4 (.alt 5 (.alt 7 (.first 9 (.alt 8 (.alt 10 (.first 11 (.alt 12 (.first 13 (.alt 14 .done .stop)) .stop)) .stop) .stop)) .stop) (.alt 7 (.first 9 (.alt 5 (.alt 8 (.alt 10 (.first 11 (.alt 12 (.first 13 (.alt 14 .done .stop)) .stop)) .stop) .stop) .stop)) .stop)) (.alt 7 (.alt 4 (.first 9 (.alt 5 (.alt 8 (.alt 10 (.first 11 (.alt 12 (.first 13 (.alt 14 .done .stop)) .stop)) .stop) .stop) .stop)) .stop) .stop)) (.alt 4 (.alt 2 (.alt 5 (.alt 7 (.first 9 (.alt 8 (.alt 10 (.first 11 (.alt 12 (.first 13 (.alt 14 .done .stop)) .stop)) .stop) .stop)) .stop) (.alt 7 (.first 9 (.alt 5 (.alt 8 (.alt 10 (.first 11 (.alt 12 (.first 13 (.alt 14 .done .stop)) .stop)) .stop) .stop) .stop)) .stop)) (.alt 7 (.alt 2 (.first 9 (.alt 5 (.alt 8 (.alt 10 (.first 11 (.alt 12 (.first 13 (.alt 14 .done .stop)) .stop)) .stop) .stop) .stop)) .stop) .stop)) (.alt 7 (.alt 2 (.alt 4 (.first 9 (.alt 5 (.alt 8 (.alt 10 (.first 11 (.alt 12 (.first 13 (.alt 14 .done .stop)) .stop)) .stop) .stop) .stop)) .stop) (.alt 4 (.alt 2 (.first 9 (.alt 5 (.alt 8 (.alt 10 (.first 11 (.alt 12 (.first 13 (.alt 14 .done .stop)) .stop)) .stop) .stop) .stop)) .stop) .stop)) .stop))) (.alt 4 (.alt 1 (.alt 2 (.alt 5 (.alt 7 (.first 9 (.alt 8 (.alt 10 (.first 11 (.alt 12 (.first 13 (.alt 14 .done .stop)) .stop)) .stop) .stop)) .stop) (.alt 7 (.first 9 (.alt 5 (.alt 8 (.alt 10 (.first 11 (.alt 12 (.first 13 (.alt 14 .done .stop)) .stop)) .stop) .stop) .stop)) .stop)) (.alt 7 (.alt 2 (.first 9 (.alt 5 (.alt 8 (.alt 10 (.first 11 (.alt 12 (.first 13 (.alt 14 .done .stop)) .stop)) .stop) .stop) .stop)) .stop) .stop)) (.alt 7 (.alt 1 (.alt 2 (.first 9 (.alt 5 (.alt 8 (.alt 10 (.first 11 (.alt 12 (.first 13 (.alt 14 .done .stop)) .stop)) .stop) .stop) .stop)) .stop) .stop) .stop)) (.alt 7 (.alt 1 (.alt 2 (.alt 4 (.first 9 (.alt 5 (.alt 8 (.alt 10 (.first 11 (.alt 12 (.first 13 (.alt 14 .done .stop)) .stop)) .stop) .stop) .stop)) .stop) (.alt 4 (.alt 2 (.first 9 (.alt 5 (.alt 8 (.alt 10 (.first 11 (.alt 12 (.first 13 (.alt 14 .done .stop)) .stop)) .stop) .stop) .stop)) .stop) .stop)) (.alt 4 (.alt 1 (.alt 2 (.first 9 (.alt 5 (.alt 8 (.alt 10 (.first 11 (.alt 12 (.first 13 (.alt 14 .done .stop)) .stop)) .stop) .stop) .stop)) .stop) .stop) .stop)) .stop))))))), (5, (.first 0 (.first 2 (.first 3 (.alt 1 (.alt 4 (.first 5 (.alt 6 .done .stop)) .stop) (.alt 4 (.alt 1 (.first 5 (.alt 6 .done .stop)) .stop) .stop))))))] }

theorem t_impl_Rule_own : TabOk Try.prog C_impl_Rule_own := by
  refine tabOk_of ?_
  simp only [C_impl_Rule_own, List.forall_mem_cons]
  exact ⟨k_slices_Clone_int, k_slices_Clone_s_int, fun p h => by cases h⟩

theorem k_impl_Rule_own : Entry Try.prog 249 c_impl_Rule_own := by
  refine entry_by (C := C_impl_Rule_own) mixed tys_ok t_impl_Rule_own (fn := Try.f249) (c := bd Try.f249) (by kernel_rfl) (by kernel_rfl) (by kernel_rfl) (by kernel_rfl) ?_
  intro args st k he
  unfold c_impl_Rule_own at he
  split at he
  rotate_left
  · exact he.elim
  rename_i r__0 r__1 r__2 r__3 r__4
  have he : Ok (impl_Rule_own (r__0, (r__1, (r__2, (r__3, r__4))))) (fun r => k (.agg [.int .i64 r.1, .own 901 false, .own 902 false, .int .i64 r.2.1, .own 903 false]) [(900, .rc [.int .i64 r.1, .own 901 false, .own 902 false, .int .i64 r.2.1, .own 903 false]), (901, .sl 3 (.int .i64) r.2.2.1 .shallow), (902, .sl 3 (.int .i64) r.2.2.2.1 .shallow), (903, .sl 23 (.sl (.int .i64)) r.2.2.2.2 (.deep true .no))]) := he
  refine ⟨rfl, rfl, ?_⟩
  refine seq_model mixed tys_ok t_impl_Rule_own (S := (List Int) × (List Int) × (List (List Int))) (I := (fun (r_1, r_2, r_4) => (envOf [(1, .c (.ptr 10000000 0)), (2, .c (.ptr 10000001 0))], [(10000000, .rc [.int .i64 (r__0, (r__1, (r__2, (r__3, r__4)))).1, .own 10000002 false, .own 10000003 false, .int .i64 (r__0, (r__1, (r__2, (r__3, r__4)))).2.2.2.1, .own 10000004 false]), (10000001, .rc [.int .i64 (0:Int), .nil, .nil, .int .i64 (0:Int), .nil]), (10000002, .sl 3 (.int .i64) r_1 .shallow), (10000003, .sl 3 (.int .i64) r_2 .shallow), (10000004, .sl 23 (.sl (.int .i64)) r_4 .shallow)]))) (B := fun s => Ok (impl_Rule_own_j1 (r__0, (r__1, (r__2, (r__3, r__4)))) s) (fun r => k (.agg [.int .i64 r.1, .own 901 false, .own 902 false, .int .i64 r.2.1, .own 903 false]) [(900, .rc [.int .i64 r.1, .own 901 false, .own 902 false, .int .i64 r.2.1, .own 903 false]), (901, .sl 3 (.int .i64) r.2.2.1 .shallow), (902, .sl 3 (.int .i64) r.2.2.2.1 .shallow), (903, .sl 23 (.sl (.int .i64)) r.2.2.2.2 (.deep true .no))])) ?_ ?_
  · rintro ⟨r_1, r_2, r_4⟩ he
    refine loop_model mixed tys_ok t_impl_Rule_own (S := Int × Int × (List (List Int))) (I := (fun (i, k_, i1) => (envOf [(1, .c (.ptr 10001000 0)), (2, .c (.ptr 10001001 0)), (18, .c (.own 10001002 false)), (19, .c (.int .i64 (r_4.length:Int))), (20, .c (.int .i64 i))], [(10001000, .rc [.int .i64 (r__0, (r__1, (r__2, (r__3, r__4)))).1, .own 10001003 false, .own 10001004 false, .int .i64 (r__0, (r__1, (r__2, (r__3, r__4)))).2.2.2.1, .own 10001002 false]), (10001001, .rc [.int .i64 (0:Int), .nil, .nil, .int .i64 (0:Int), .nil]), (10001002, .sl 23 (.sl (.int .i64)) i1 (.mix k_)), (10001003, .sl 3 (.int .i64) r_1 .shallow), (10001004, .sl 3 (.int .i64) r_2 .shallow)]))) (f := impl_Rule_own_l1 (r__0, (r__1, (r__2, (r__3, r__4)))) r_1 r_2 r_4) (K := (fun r => k (.agg [.int .i64 r.1, .own 901 false, .own 902 false, .int .i64 r.2.1, .own 903 false]) [(900, .rc [.int .i64 r.1, .own 901 false, .own 902 false, .int .i64 r.2.1, .own 903 false]), (901, .sl 3 (.int .i64) r.2.2.1 .shallow), (902, .sl 3 (.int .i64) r.2.2.2.1 .shallow), (903, .sl 23 (.sl (.int .i64)) r.2.2.2.2 (.deep true .no))])) he ((leads_mix 10000004).trans (leads_ren [(10001000, 10000000), (10001001, 10000001), (10001002, 10000004), (10001003, 10000002), (10001004, 10000003)] (l := [(1, .c (.ptr 10001000 0)), (2, .c (.ptr 10001001 0)), (18, .c (.own 10001002 false)), (19, .c (.int .i64 (r_4.length:Int))), (20, .c (.int .i64 (0:Int)))]) (st' := [(10001000, .rc [.int .i64 (r__0, (r__1, (r__2, (r__3, r__4)))).1, .own 10001003 false, .own 10001004 false, .int .i64 (r__0, (r__1, (r__2, (r__3, r__4)))).2.2.2.1, .own 10001002 false]), (10001001, .rc [.int .i64 (0:Int), .nil, .nil, .int .i64 (0:Int), .nil]), (10001002, .sl 23 (.sl (.int .i64)) r_4 (.mix (0:Int))), (10001003, .sl 3 (.int .i64) r_1 .shallow), (10001004, .sl 3 (.int .i64) r_2 .shallow)]) rfl rfl ⟨⟨rfl, ⟨⟨rfl, rfl⟩, trivial⟩, ⟨⟨rfl, rfl⟩, trivial⟩, rfl, ⟨⟨rfl, rfl⟩, trivial⟩, trivial⟩, ⟨rfl, rfl, rfl, rfl, rfl, trivial⟩, ⟨rfl, rfl⟩, ⟨rfl, rfl⟩, ⟨rfl, rfl⟩, trivial⟩ ⟨⟨⟨rfl, rfl⟩, rfl⟩, ⟨⟨rfl, rfl⟩, rfl⟩, ⟨⟨rfl, rfl⟩, trivial⟩, rfl, rfl, trivial⟩)) ?_
    rintro ⟨i, k_, i1⟩ J1 he
    refine And.intro (fun hb => ?_) (fun hb => ?_)
    · have he := ok_t he hb
      have he := ok_rq he
      refine And.intro he.1 ?_
      have he := he.2
      have he := ok_rq he
      refine And.intro he.1 ?_
      have he := he.2
      refine And.intro (by kernel_rfl) ?_
      obtain ⟨r9_, hq1, he⟩ := ok_bind he
      have he := ok_rq he
      have hq2 := he.1
      have he := he.2
      have he := ok_rq he
      have hq3 := he.1
      have he := he.2
      refine And.intro ?_ (And.intro ?_ (trivial))
      · skip
        refine And.intro ?_ trivial
        refine ⟨r9_, hq1, ?_⟩
        refine And.intro hq2 ?_
        refine And.intro ?_ trivial
        refine And.intro hq3 ?_
        have he := ok_rq he
        refine And.intro he.1 ?_
        have he := he.2
        have he := ok_some he
        exact ⟨((i + (1:Int)), (k_ + 1), (i1.set i.toNat r9_)), he, (leads_ren [] (l := [(1, .c (.ptr 10001000 0)), (2, .c (.ptr 10001001 0)), (18, .c (.own 10001002 false)), (19, .c (.int .i64 (r_4.length:Int))), (20, .c (.int .i64 (i + (1:Int))))]) (st' := [(10001000, .rc [.int .i64 (r__0, (r__1, (r__2, (r__3, r__4)))).1, .own 10001003 false, .own 10001004 false, .int .i64 (r__0, (r__1, (r__2, (r__3, r__4)))).2.2.2.1, .own 10001002 false]), (10001001, .rc [.int .i64 (0:Int), .nil, .nil, .int .i64 (0:Int), .nil]), (10001002, .sl 23 (.sl (.int .i64)) (i1.set i.toNat r9_) (.mix (k_ + 1))), (10001003, .sl 3 (.int .i64) r_1 .shallow), (10001004, .sl 3 (.int .i64) r_2 .shallow)]) rfl rfl ⟨⟨rfl, ⟨⟨rfl, rfl⟩, trivial⟩, ⟨⟨rfl, rfl⟩, trivial⟩, rfl, ⟨⟨rfl, rfl⟩, trivial⟩, trivial⟩, ⟨rfl, rfl, rfl, rfl, rfl, trivial⟩, ⟨rfl, rfl⟩, ⟨rfl, rfl⟩, ⟨rfl, rfl⟩, trivial⟩ ⟨⟨⟨rfl, rfl⟩, rfl⟩, ⟨⟨rfl, rfl⟩, rfl⟩, ⟨⟨rfl, rfl⟩, trivial⟩, rfl, rfl, trivial⟩)⟩
      · skip
        refine ⟨r9_, hq1, ?_⟩
        refine And.intro ?_ trivial
        refine And.intro hq2 ?_
        refine And.intro ?_ trivial
        refine And.intro hq3 ?_
        have he := ok_rq he
        refine And.intro he.1 ?_
        have he := he.2
        have he := ok_some he
        exact ⟨((i + (1:Int)), (k_ + 1), (i1.set i.toNat r9_)), he, (leads_ren [] (l := [(1, .c (.ptr 10001000 0)), (2, .c (.ptr 10001001 0)), (18, .c (.own 10001002 false)), (19, .c (.int .i64 (r_4.length:Int))), (20, .c (.int .i64 (i + (1:Int))))]) (st' := [(10001000, .rc [.int .i64 (r__0, (r__1, (r__2, (r__3, r__4)))).1, .own 10001003 false, .own 10001004 false, .int .i64 (r__0, (r__1, (r__2, (r__3, r__4)))).2.2.2.1, .own 10001002 false]), (10001001, .rc [.int .i64 (0:Int), .nil, .nil, .int .i64 (0:Int), .nil]), (10001002, .sl 23 (.sl (.int .i64)) (i1.set i.toNat r9_) (.mix (k_ + 1))), (10001003, .sl 3 (.int .i64) r_1 .shallow), (10001004, .sl 3 (.int .i64) r_2 .shallow)]) rfl rfl ⟨⟨rfl, ⟨⟨rfl, rfl⟩, trivial⟩, ⟨⟨rfl, rfl⟩, trivial⟩, rfl, ⟨⟨rfl, rfl⟩, trivial⟩, trivial⟩, ⟨rfl, rfl, rfl, rfl, rfl, trivial⟩, ⟨rfl, rfl⟩, ⟨rfl, rfl⟩, ⟨rfl, rfl⟩, trivial⟩ ⟨⟨⟨rfl, rfl⟩, rfl⟩, ⟨⟨rfl, rfl⟩, rfl⟩, ⟨⟨rfl, rfl⟩, trivial⟩, rfl, rfl, trivial⟩)⟩
    · have he := ok_f he hb
      have he := ok_rq he
      have hun0 := he.1
      have he := he.2
      have he := ok_some he
      exact ⟨rfl, _, _, ((leads_all 10001002 (by exact hun0)).trans (leads_ren [(900, 10001001), (901, 10001003), (902, 10001004), (903, 10001002)] (l := [(2, .c (.ptr 900 0))]) (st' := [(900, .rc [.int .i64 (r__0, (r__1, (r__2, (r__3, r__4)))).1, .own 901 false, .own 902 false, .int .i64 (r__0, (r__1, (r__2, (r__3, r__4)))).2.2.2.1, .own 903 false]), (901, .sl 3 (.int .i64) r_1 .shallow), (902, .sl 3 (.int .i64) r_2 .shallow), (903, .sl 23 (.sl (.int .i64)) i1 (.deep true .no))]) rfl rfl ⟨⟨rfl, ⟨⟨rfl, rfl⟩, trivial⟩, ⟨⟨rfl, rfl⟩, trivial⟩, rfl, ⟨⟨rfl, rfl⟩, trivial⟩, trivial⟩, ⟨rfl, rfl⟩, ⟨rfl, rfl⟩, ⟨rfl, rfl⟩, trivial⟩ ⟨⟨⟨rfl, rfl⟩, rfl⟩, trivial⟩)), he⟩
  · skip
    refine And.intro (by kernel_rfl) ?_
    obtain ⟨r4_, hq1, he⟩ := ok_bind he
    obtain ⟨r5_, hq2, he⟩ := ok_bind he
    obtain ⟨r6_, hq3, he⟩ := ok_bind he
    refine And.intro ?_ (And.intro ?_ (And.intro ?_ (trivial)))
    · skip
      refine And.intro ?_ (And.intro ?_ (And.intro ?_ (trivial)))
      · skip
        refine ⟨r4_, hq1, ?_⟩
        refine And.intro ?_ (And.intro ?_ (trivial))
        · skip
          refine And.intro ?_ (And.intro ?_ (trivial))
          · skip
            refine ⟨r5_, hq2, ?_⟩
            refine And.intro ?_ trivial
            refine And.intro ?_ trivial
            refine ⟨r6_, hq3, ?_⟩
            refine And.intro ?_ trivial
            refine And.intro ?_ trivial
            refine And.intro ?_ trivial
            exact ⟨(r4_, r5_, r6_), he, (leads_ren [(10000000, 1), (10000001, 2), (10000002, 8900), (10000003, 11900), (10000004, 14900)] (l := [(1, .c (.ptr 10000000 0)), (2, .c (.ptr 10000001 0))]) (st' := [(10000000, .rc [.int .i64 (r__0, (r__1, (r__2, (r__3, r__4)))).1, .own 10000002 false, .own 10000003 false, .int .i64 (r__0, (r__1, (r__2, (r__3, r__4)))).2.2.2.1, .own 10000004 false]), (10000001, .rc [.int .i64 (0:Int), .nil, .nil, .int .i64 (0:Int), .nil]), (10000002, .sl 3 (.int .i64) r4_ .shallow), (10000003, .sl 3 (.int .i64) r5_ .shallow), (10000004, .sl 23 (.sl (.int .i64)) r6_ .shallow)]) rfl rfl ⟨⟨rfl, ⟨⟨rfl, rfl⟩, trivial⟩, ⟨⟨rfl, rfl⟩, trivial⟩, rfl, ⟨⟨rfl, rfl⟩, trivial⟩, trivial⟩, ⟨rfl, rfl, rfl, rfl, rfl, trivial⟩, ⟨rfl, rfl⟩, ⟨rfl, rfl⟩, ⟨rfl, rfl⟩, trivial⟩ ⟨⟨⟨rfl, rfl⟩, rfl⟩, ⟨⟨rfl, rfl⟩, rfl⟩, trivial⟩)⟩
          · skip
            refine And.intro ?_ trivial
            refine ⟨r5_, hq2, ?_⟩
            refine And.intro ?_ trivial
            refine ⟨r6_, hq3, ?_⟩
            refine And.intro ?_ trivial
            refine And.intro ?_ trivial
            refine And.intro ?_ trivial
            exact ⟨(r4_, r5_, r6_), he, (leads_ren [(10000000, 1), (10000001, 2), (10000002, 8900), (10000003, 11900), (10000004, 14900)] (l := [(1, .c (.ptr 10000000 0)), (2, .c (.ptr 10000001 0))]) (st' := [(10000000, .rc [.int .i64 (r__0, (r__1, (r__2, (r__3, r__4)))).1, .own 10000002 false, .own 10000003 false, .int .i64 (r__0, (r__1, (r__2, (r__3, r__4)))).2.2.2.1, .own 10000004 false]), (10000001, .rc [.int .i64 (0:Int), .nil, .nil, .int .i64 (0:Int), .nil]), (10000002, .sl 3 (.int .i64) r4_ .shallow), (10000003, .sl 3 (.int .i64) r5_ .shallow), (10000004, .sl 23 (.sl (.int .i64)) r6_ .shallow)]) rfl rfl ⟨⟨rfl, ⟨⟨rfl, rfl⟩, trivial⟩, ⟨⟨rfl, rfl⟩, trivial⟩, rfl, ⟨⟨rfl, rfl⟩, trivial⟩, trivial⟩, ⟨rfl, rfl, rfl, rfl, rfl, trivial⟩, ⟨rfl, rfl⟩, ⟨rfl, rfl⟩, ⟨rfl, rfl⟩, trivial⟩ ⟨⟨⟨rfl, rfl⟩, rfl⟩, ⟨⟨rfl, rfl⟩, rfl⟩, trivial⟩)⟩
        · skip
          refine And.intro ?_ trivial
          refine And.intro ?_ trivial
          refine ⟨r5_, hq2, ?_⟩
          refine And.intro ?_ trivial
          refine ⟨r6_, hq3, ?_⟩
          refine And.intro ?_ trivial
          refine And.intro ?_ trivial
          refine And.intro ?_ trivial
          exact ⟨(r4_, r5_, r6_), he, (leads_ren [(10000000, 1), (10000001, 2), (10000002, 8900), (10000003, 11900), (10000004, 14900)] (l := [(1, .c (.ptr 10000000 0)), (2, .c (.ptr 10000001 0))]) (st' := [(10000000, .rc [.int .i64 (r__0, (r__1, (r__2, (r__3, r__4)))).1, .own 10000002 false, .own 10000003 false, .int .i64 (r__0, (r__1, (r__2, (r__3, r__4)))).2.2.2.1, .own 10000004 false]), (10000001, .rc [.int .i64 (0:Int), .nil, .nil, .int .i64 (0:Int), .nil]), (10000002, .sl 3 (.int .i64) r4_ .shallow), (10000003, .sl 3 (.int .i64) r5_ .shallow), (10000004, .sl 23 (.sl (.int .i64)) r6_ .shallow)]) rfl rfl ⟨⟨rfl, ⟨⟨rfl, rfl⟩, trivial⟩, ⟨⟨rfl, rfl⟩, trivial⟩, rfl, ⟨⟨rfl, rfl⟩, trivial⟩, trivial⟩, ⟨rfl, rfl, rfl, rfl, rfl, trivial⟩, ⟨rfl, rfl⟩, ⟨rfl, rfl⟩, ⟨rfl, rfl⟩, trivial⟩ ⟨⟨⟨rfl, rfl⟩, rfl⟩, ⟨⟨rfl, rfl⟩, rfl⟩, trivial⟩)⟩
      · skip
        refine And.intro ?_ (And.intro ?_ (trivial))
        · skip
          refine ⟨r4_, hq1, ?_⟩
          refine And.intro ?_ (And.intro ?_ (trivial))
          · skip
            refine ⟨r5_, hq2, ?_⟩
            refine And.intro ?_ trivial
            refine And.intro ?_ trivial
            refine ⟨r6_, hq3, ?_⟩
            refine And.intro ?_ trivial
            refine And.intro ?_ trivial
            refine And.intro ?_ trivial
            exact ⟨(r4_, r5_, r6_), he, (leads_ren [(10000000, 1), (10000001, 2), (10000002, 8900), (10000003, 11900), (10000004, 14900)] (l := [(1, .c (.ptr 10000000 0)), (2, .c (.ptr 10000001 0))]) (st' := [(10000000, .rc [.int .i64 (r__0, (r__1, (r__2, (r__3, r__4)))).1, .own 10000002 false, .own 10000003 false, .int .i64 (r__0, (r__1, (r__2, (r__3, r__4)))).2.2.2.1, .own 10000004 false]), (10000001, .rc [.int .i64 (0:Int), .nil, .nil, .int .i64 (0:Int), .nil]), (10000002, .sl 3 (.int .i64) r4_ .shallow), (10000003, .sl 3 (.int .i64) r5_ .shallow), (10000004, .sl 23 (.sl (.int .i64)) r6_ .shallow)]) rfl rfl ⟨⟨rfl, ⟨⟨rfl, rfl⟩, trivial⟩, ⟨⟨rfl, rfl⟩, trivial⟩, rfl, ⟨⟨rfl, rfl⟩, trivial⟩, trivial⟩, ⟨rfl, rfl, rfl, rfl, rfl, trivial⟩, ⟨rfl, rfl⟩, ⟨rfl, rfl⟩, ⟨rfl, rfl⟩, trivial⟩ ⟨⟨⟨rfl, rfl⟩, rfl⟩, ⟨⟨rfl, rfl⟩, rfl⟩, trivial⟩)⟩
          · skip
            refine And.intro ?_ trivial
            refine ⟨r5_, hq2, ?_⟩
            refine And.intro ?_ trivial
            refine ⟨r6_, hq3, ?_⟩
            refine And.intro ?_ trivial
            refine And.intro ?_ trivial
            refine And.intro ?_ trivial
            exact ⟨(r4_, r5_, r6_), he, (leads_ren [(10000000, 1), (10000001, 2), (10000002, 8900), (10000003, 11900), (10000004, 14900)] (l := [(1, .c (.ptr 10000000 0)), (2, .c (.ptr 10000001 0))]) (st' := [(10000000, .rc [.int .i64 (r__0, (r__1, (r__2, (r__3, r__4)))).1, .own 10000002 false, .own 10000003 false, .int .i64 (r__0, (r__1, (r__2, (r__3, r__4)))).2.2.2.1, .own 10000004 false]), (10000001, .rc [.int .i64 (0:Int), .nil, .nil, .int .i64 (0:Int), .nil]), (10000002, .sl 3 (.int .i64) r4_ .shallow), (10000003, .sl 3 (.int .i64) r5_ .shallow), (10000004, .sl 23 (.sl (.int .i64)) r6_ .shallow)]) rfl rfl ⟨⟨rfl, ⟨⟨rfl, rfl⟩, trivial⟩, ⟨⟨rfl, rfl⟩, trivial⟩, rfl, ⟨⟨rfl, rfl⟩, trivial⟩, trivial⟩, ⟨rfl, rfl, rfl, rfl, rfl, trivial⟩, ⟨rfl, rfl⟩, ⟨rfl, rfl⟩, ⟨rfl, rfl⟩, trivial⟩ ⟨⟨⟨rfl, rfl⟩, rfl⟩, ⟨⟨rfl, rfl⟩, rfl⟩, trivial⟩)⟩
        · skip
          refine And.intro ?_ trivial
          refine ⟨r4_, hq1, ?_⟩
          refine And.intro ?_ trivial
          refine ⟨r5_, hq2, ?_⟩
          refine And.intro ?_ trivial
          refine ⟨r6_, hq3, ?_⟩
          refine And.intro ?_ trivial
          refine And.intro ?_ trivial
          refine And.intro ?_ trivial
          exact ⟨(r4_, r5_, r6_), he, (leads_ren [(10000000, 1), (10000001, 2), (10000002, 8900), (10000003, 11900), (10000004, 14900)] (l := [(1, .c (.ptr 10000000 0)), (2, .c (.ptr 10000001 0))]) (st' := [(10000000, .rc [.int .i64 (r__0, (r__1, (r__2, (r__3, r__4)))).1, .own 10000002 false, .own 10000003 false, .int .i64 (r__0, (r__1, (r__2, (r__3, r__4)))).2.2.2.1, .own 10000004 false]), (10000001, .rc [.int .i64 (0:Int), .nil, .nil, .int .i64 (0:Int), .nil]), (10000002, .sl 3 (.int .i64) r4_ .shallow), (10000003, .sl 3 (.int .i64) r5_ .shallow), (10000004, .sl 23 (.sl (.int .i64)) r6_ .shallow)]) rfl rfl ⟨⟨rfl, ⟨⟨rfl, rfl⟩, trivial⟩, ⟨⟨rfl, rfl⟩, trivial⟩, rfl, ⟨⟨rfl, rfl⟩, trivial⟩, trivial⟩, ⟨rfl, rfl, rfl, rfl, rfl, trivial⟩, ⟨rfl, rfl⟩, ⟨rfl, rfl⟩, ⟨rfl, rfl⟩, trivial⟩ ⟨⟨⟨rfl, rfl⟩, rfl⟩, ⟨⟨rfl, rfl⟩, rfl⟩, trivial⟩)⟩
      · skip
        refine And.intro ?_ (And.intro ?_ (trivial))
        · skip
          refine ⟨r4_, hq1, ?_⟩
          refine And.intro ?_ trivial
          refine And.intro ?_ trivial
          refine ⟨r5_, hq2, ?_⟩
          refine And.intro ?_ trivial
          refine ⟨r6_, hq3, ?_⟩
          refine And.intro ?_ trivial
          refine And.intro ?_ trivial
          refine And.intro ?_ trivial
          exact ⟨(r4_, r5_, r6_), he, (leads_ren [(10000000, 1), (10000001, 2), (10000002, 8900), (10000003, 11900), (10000004, 14900)] (l := [(1, .c (.ptr 10000000 0)), (2, .c (.ptr 10000001 0))]) (st' := [(10000000, .rc [.int .i64 (r__0, (r__1, (r__2, (r__3, r__4)))).1, .own 10000002 false, .own 10000003 false, .int .i64 (r__0, (r__1, (r__2, (r__3, r__4)))).2.2.2.1, .own 10000004 false]), (10000001, .rc [.int .i64 (0:Int), .nil, .nil, .int .i64 (0:Int), .nil]), (10000002, .sl 3 (.int .i64) r4_ .shallow), (10000003, .sl 3 (.int .i64) r5_ .shallow), (10000004, .sl 23 (.sl (.int .i64)) r6_ .shallow)]) rfl rfl ⟨⟨rfl, ⟨⟨rfl, rfl⟩, trivial⟩, ⟨⟨rfl, rfl⟩, trivial⟩, rfl, ⟨⟨rfl, rfl⟩, trivial⟩, trivial⟩, ⟨rfl, rfl, rfl, rfl, rfl, trivial⟩, ⟨rfl, rfl⟩, ⟨rfl, rfl⟩, ⟨rfl, rfl⟩, trivial⟩ ⟨⟨⟨rfl, rfl⟩, rfl⟩, ⟨⟨rfl, rfl⟩, rfl⟩, trivial⟩)⟩
        · skip
          refine And.intro ?_ trivial
          refine ⟨r4_, hq1, ?_⟩
          refine And.intro ?_ trivial
          refine ⟨r5_, hq2, ?_⟩
          refine And.intro ?_ trivial
          refine ⟨r6_, hq3, ?_⟩
          refine And.intro ?_ trivial
          refine And.intro ?_ trivial
          refine And.intro ?_ trivial
          exact ⟨(r4_, r5_, r6_), he, (leads_ren [(10000000, 1), (10000001, 2), (10000002, 8900), (10000003, 11900), (10000004, 14900)] (l := [(1, .c (.ptr 10000000 0)), (2, .c (.ptr 10000001 0))]) (st' := [(10000000, .rc [.int .i64 (r__0, (r__1, (r__2, (r__3, r__4)))).1, .own 10000002 false, .own 10000003 false, .int .i64 (r__0, (r__1, (r__2, (r__3, r__4)))).2.2.2.1, .own 10000004 false]), (10000001, .rc [.int .i64 (0:Int), .nil, .nil, .int .i64 (0:Int), .nil]), (10000002, .sl 3 (.int .i64) r4_ .shallow), (10000003, .sl 3 (.int .i64) r5_ .shallow), (10000004, .sl 23 (.sl (.int .i64)) r6_ .shallow)]) rfl rfl ⟨⟨rfl, ⟨⟨rfl, rfl⟩, trivial⟩, ⟨⟨rfl, rfl⟩, trivial⟩, rfl, ⟨⟨rfl, rfl⟩, trivial⟩, trivial⟩, ⟨rfl, rfl, rfl, rfl, rfl, trivial⟩, ⟨rfl, rfl⟩, ⟨rfl, rfl⟩, ⟨rfl, rfl⟩, trivial⟩ ⟨⟨⟨rfl, rfl⟩, rfl⟩, ⟨⟨rfl, rfl⟩, rfl⟩, trivial⟩)⟩
    · skip
      refine And.intro ?_ (And.intro ?_ (trivial))
      · skip
        refine And.intro ?_ (And.intro ?_ (trivial))
        · skip
          refine ⟨r4_, hq1, ?_⟩
          refine And.intro ?_ (And.intro ?_ (trivial))
          · skip
            refine ⟨r5_, hq2, ?_⟩
            refine And.intro ?_ trivial
            refine And.intro ?_ trivial
            refine ⟨r6_, hq3, ?_⟩
            refine And.intro ?_ trivial
            refine And.intro ?_ trivial
            refine And.intro ?_ trivial
            exact ⟨(r4_, r5_, r6_), he, (leads_ren [(10000000, 1), (10000001, 2), (10000002, 8900), (10000003, 11900), (10000004, 14900)] (l := [(1, .c (.ptr 10000000 0)), (2, .c (.ptr 10000001 0))]) (st' := [(10000000, .rc [.int .i64 (r__0, (r__1, (r__2, (r__3, r__4)))).1, .own 10000002 false, .own 10000003 false, .int .i64 (r__0, (r__1, (r__2, (r__3, r__4)))).2.2.2.1, .own 10000004 false]), (10000001, .rc [.int .i64 (0:Int), .nil, .nil, .int .i64 (0:Int), .nil]), (10000002, .sl 3 (.int .i64) r4_ .shallow), (10000003, .sl 3 (.int .i64) r5_ .shallow), (10000004, .sl 23 (.sl (.int .i64)) r6_ .shallow)]) rfl rfl ⟨⟨rfl, ⟨⟨rfl, rfl⟩, trivial⟩, ⟨⟨rfl, rfl⟩, trivial⟩, rfl, ⟨⟨rfl, rfl⟩, trivial⟩, trivial⟩, ⟨rfl, rfl, rfl, rfl, rfl, trivial⟩, ⟨rfl, rfl⟩, ⟨rfl, rfl⟩, ⟨rfl, rfl⟩, trivial⟩ ⟨⟨⟨rfl, rfl⟩, rfl⟩, ⟨⟨rfl, rfl⟩, rfl⟩, trivial⟩)⟩
          · skip
            refine And.intro ?_ trivial
            refine ⟨r5_, hq2, ?_⟩
            refine And.intro ?_ trivial
            refine ⟨r6_, hq3, ?_⟩
            refine And.intro ?_ trivial
            refine And.intro ?_ trivial
            refine And.intro ?_ trivial
            exact ⟨(r4_, r5_, r6_), he, (leads_ren [(10000000, 1), (10000001, 2), (10000002, 8900), (10000003, 11900), (10000004, 14900)] (l := [(1, .c (.ptr 10000000 0)), (2, .c (.ptr 10000001 0))]) (st' := [(10000000, .rc [.int .i64 (r__0, (r__1, (r__2, (r__3, r__4)))).1, .own 10000002 false, .own 10000003 false, .int .i64 (r__0, (r__1, (r__2, (r__3, r__4)))).2.2.2.1, .own 10000004 false]), (10000001, .rc [.int .i64 (0:Int), .nil, .nil, .int .i64 (0:Int), .nil]), (10000002, .sl 3 (.int .i64) r4_ .shallow), (10000003, .sl 3 (.int .i64) r5_ .shallow), (10000004, .sl 23 (.sl (.int .i64)) r6_ .shallow)]) rfl rfl ⟨⟨rfl, ⟨⟨rfl, rfl⟩, trivial⟩, ⟨⟨rfl, rfl⟩, trivial⟩, rfl, ⟨⟨rfl, rfl⟩, trivial⟩, trivial⟩, ⟨rfl, rfl, rfl, rfl, rfl, trivial⟩, ⟨rfl, rfl⟩, ⟨rfl, rfl⟩, ⟨rfl, rfl⟩, trivial⟩ ⟨⟨⟨rfl, rfl⟩, rfl⟩, ⟨⟨rfl, rfl⟩, rfl⟩, trivial⟩)⟩
        · skip
          refine And.intro ?_ trivial
          refine ⟨r4_, hq1, ?_⟩
          refine And.intro ?_ trivial
          refine ⟨r5_, hq2, ?_⟩
          refine And.intro ?_ trivial
          refine ⟨r6_, hq3, ?_⟩
          refine And.intro ?_ trivial
          refine And.intro ?_ trivial
          refine And.intro ?_ trivial
          exact ⟨(r4_, r5_, r6_), he, (leads_ren [(10000000, 1), (10000001, 2), (10000002, 8900), (10000003, 11900), (10000004, 14900)] (l := [(1, .c (.ptr 10000000 0)), (2, .c (.ptr 10000001 0))]) (st' := [(10000000, .rc [.int .i64 (r__0, (r__1, (r__2, (r__3, r__4)))).1, .own 10000002 false, .own 10000003 false, .int .i64 (r__0, (r__1, (r__2, (r__3, r__4)))).2.2.2.1, .own 10000004 false]), (10000001, .rc [.int .i64 (0:Int), .nil, .nil, .int .i64 (0:Int), .nil]), (10000002, .sl 3 (.int .i64) r4_ .shallow), (10000003, .sl 3 (.int .i64) r5_ .shallow), (10000004, .sl 23 (.sl (.int .i64)) r6_ .shallow)]) rfl rfl ⟨⟨rfl, ⟨⟨rfl, rfl⟩, trivial⟩, ⟨⟨rfl, rfl⟩, trivial⟩, rfl, ⟨⟨rfl, rfl⟩, trivial⟩, trivial⟩, ⟨rfl, rfl, rfl, rfl, rfl, trivial⟩, ⟨rfl, rfl⟩, ⟨rfl, rfl⟩, ⟨rfl, rfl⟩, trivial⟩ ⟨⟨⟨rfl, rfl⟩, rfl⟩, ⟨⟨rfl, rfl⟩, rfl⟩, trivial⟩)⟩
      · skip
        refine And.intro ?_ trivial
        refine And.intro ?_ trivial
        refine ⟨r4_, hq1, ?_⟩
        refine And.intro ?_ trivial
        refine ⟨r5_, hq2, ?_⟩
        refine And.intro ?_ trivial
        refine ⟨r6_, hq3, ?_⟩
        refine And.intro ?_ trivial
        refine And.intro ?_ trivial
        refine And.intro ?_ trivial
        exact ⟨(r4_, r5_, r6_), he, (leads_ren [(10000000, 1), (10000001, 2), (10000002, 8900), (10000003, 11900), (10000004, 14900)] (l := [(1, .c (.ptr 10000000 0)), (2, .c (.ptr 10000001 0))]) (st' := [(10000000, .rc [.int .i64 (r__0, (r__1, (r__2, (r__3, r__4)))).1, .own 10000002 false, .own 10000003 false, .int .i64 (r__0, (r__1, (r__2, (r__3, r__4)))).2.2.2.1, .own 10000004 false]), (10000001, .rc [.int .i64 (0:Int), .nil, .nil, .int .i64 (0:Int), .nil]), (10000002, .sl 3 (.int .i64) r4_ .shallow), (10000003, .sl 3 (.int .i64) r5_ .shallow), (10000004, .sl 23 (.sl (.int .i64)) r6_ .shallow)]) rfl rfl ⟨⟨rfl, ⟨⟨rfl, rfl⟩, trivial⟩, ⟨⟨rfl, rfl⟩, trivial⟩, rfl, ⟨⟨rfl, rfl⟩, trivial⟩, trivial⟩, ⟨rfl, rfl, rfl, rfl, rfl, trivial⟩, ⟨rfl, rfl⟩, ⟨rfl, rfl⟩, ⟨rfl, rfl⟩, trivial⟩ ⟨⟨⟨rfl, rfl⟩, rfl⟩, ⟨⟨rfl, rfl⟩, rfl⟩, trivial⟩)⟩
    · skip
      refine And.intro ?_ (And.intro ?_ (trivial))
      · skip
        refine And.intro ?_ (And.intro ?_ (trivial))
        · skip
          refine ⟨r4_, hq1, ?_⟩
          refine And.intro ?_ trivial
          refine And.intro ?_ trivial
          refine ⟨r5_, hq2, ?_⟩
          refine And.intro ?_ trivial
          refine ⟨r6_, hq3, ?_⟩
          refine And.intro ?_ trivial
          refine And.intro ?_ trivial
          refine And.intro ?_ trivial
          exact ⟨(r4_, r5_, r6_), he, (leads_ren [(10000000, 1), (10000001, 2), (10000002, 8900), (10000003, 11900), (10000004, 14900)] (l := [(1, .c (.ptr 10000000 0)), (2, .c (.ptr 10000001 0))]) (st' := [(10000000, .rc [.int .i64 (r__0, (r__1, (r__2, (r__3, r__4)))).1, .own 10000002 false, .own 10000003 false, .int .i64 (r__0, (r__1, (r__2, (r__3, r__4)))).2.2.2.1, .own 10000004 false]), (10000001, .rc [.int .i64 (0:Int), .nil, .nil, .int .i64 (0:Int), .nil]), (10000002, .sl 3 (.int .i64) r4_ .shallow), (10000003, .sl 3 (.int .i64) r5_ .shallow), (10000004, .sl 23 (.sl (.int .i64)) r6_ .shallow)]) rfl rfl ⟨⟨rfl, ⟨⟨rfl, rfl⟩, trivial⟩, ⟨⟨rfl, rfl⟩, trivial⟩, rfl, ⟨⟨rfl, rfl⟩, trivial⟩, trivial⟩, ⟨rfl, rfl, rfl, rfl, rfl, trivial⟩, ⟨rfl, rfl⟩, ⟨rfl, rfl⟩, ⟨rfl, rfl⟩, trivial⟩ ⟨⟨⟨rfl, rfl⟩, rfl⟩, ⟨⟨rfl, rfl⟩, rfl⟩, trivial⟩)⟩
        · skip
          refine And.intro ?_ trivial
          refine ⟨r4_, hq1, ?_⟩
          refine And.intro ?_ trivial
          refine ⟨r5_, hq2, ?_⟩
          refine And.intro ?_ trivial
          refine ⟨r6_, hq3, ?_⟩
          refine And.intro ?_ trivial
          refine And.intro ?_ trivial
          refine And.intro ?_ trivial
          exact ⟨(r4_, r5_, r6_), he, (leads_ren [(10000000, 1), (10000001, 2), (10000002, 8900), (10000003, 11900), (10000004, 14900)] (l := [(1, .c (.ptr 10000000 0)), (2, .c (.ptr 10000001 0))]) (st' := [(10000000, .rc [.int .i64 (r__0, (r__1, (r__2, (r__3, r__4)))).1, .own 10000002 false, .own 10000003 false, .int .i64 (r__0, (r__1, (r__2, (r__3, r__4)))).2.2.2.1, .own 10000004 false]), (10000001, .rc [.int .i64 (0:Int), .nil, .nil, .int .i64 (0:Int), .nil]), (10000002, .sl 3 (.int .i64) r4_ .shallow), (10000003, .sl 3 (.int .i64) r5_ .shallow), (10000004, .sl 23 (.sl (.int .i64)) r6_ .shallow)]) rfl rfl ⟨⟨rfl, ⟨⟨rfl, rfl⟩, trivial⟩, ⟨⟨rfl, rfl⟩, trivial⟩, rfl, ⟨⟨rfl, rfl⟩, trivial⟩, trivial⟩, ⟨rfl, rfl, rfl, rfl, rfl, trivial⟩, ⟨rfl, rfl⟩, ⟨rfl, rfl⟩, ⟨rfl, rfl⟩, trivial⟩ ⟨⟨⟨rfl, rfl⟩, rfl⟩, ⟨⟨rfl, rfl⟩, rfl⟩, trivial⟩)⟩
      · skip
        refine And.intro ?_ trivial
        refine And.intro ?_ trivial
        refine ⟨r4_, hq1, ?_⟩
        refine And.intro ?_ trivial
        refine ⟨r5_, hq2, ?_⟩
        refine And.intro ?_ trivial
        refine ⟨r6_, hq3, ?_⟩
        refine And.intro ?_ trivial
        refine And.intro ?_ trivial
        refine And.intro ?_ trivial
        exact ⟨(r4_, r5_, r6_), he, (leads_ren [(10000000, 1), (10000001, 2), (10000002, 8900), (10000003, 11900), (10000004, 14900)] (l := [(1, .c (.ptr 10000000 0)), (2, .c (.ptr 10000001 0))]) (st' := [(10000000, .rc [.int .i64 (r__0, (r__1, (r__2, (r__3, r__4)))).1, .own 10000002 false, .own 10000003 false, .int .i64 (r__0, (r__1, (r__2, (r__3, r__4)))).2.2.2.1, .own 10000004 false]), (10000001, .rc [.int .i64 (0:Int), .nil, .nil, .int .i64 (0:Int), .nil]), (10000002, .sl 3 (.int .i64) r4_ .shallow), (10000003, .sl 3 (.int .i64) r5_ .shallow), (10000004, .sl 23 (.sl (.int .i64)) r6_ .shallow)]) rfl rfl ⟨⟨rfl, ⟨⟨rfl, rfl⟩, trivial⟩, ⟨⟨rfl, rfl⟩, trivial⟩, rfl, ⟨⟨rfl, rfl⟩, trivial⟩, trivial⟩, ⟨rfl, rfl, rfl, rfl, rfl, trivial⟩, ⟨rfl, rfl⟩, ⟨rfl, rfl⟩, ⟨rfl, rfl⟩, trivial⟩ ⟨⟨⟨rfl, rfl⟩, rfl⟩, ⟨⟨rfl, rfl⟩, rfl⟩, trivial⟩)⟩

noncomputable def c_impl_Model_own : Con := fun args st => match args, st with
  | [.agg [.imm (.int .i64) m_0, .imm (.pair (.int .i64) (.pair (.sl (.int .i64)) (.pair (.sl (.int .i64)) (.pair (.int .i64) (.sl (.sl (.int .i64))))))) m_1]], [] => .opt ((List Int) × (List (Int × (List Int) × (List Int) × Int × (List (List Int))))) (impl_Model_own (m_0, m_1)) (fun r => .ret (.agg [.own 901 false, .own 902 false]) [(900, .rc [.own 901 false, .own 902 false]), (901, .sl 3 (.int .i64) r.1 .shallow), (902, .sl 124 (.pair (.int .i64) (.pair (.sl (.int .i64)) (.pair (.sl (.int .i64)) (.pair (.int .i64) (.sl (.sl (.int .i64))))))) r.2 (.deep true .no))])
  | _, _ => .fail

noncomputable def C_impl_Model_own : Cfg := { y := tys, n := 26, h := 0, tab := [(150, c_slices_Clone_int), (249, c_impl_Rule_own)], cut := [], hand := [(249, [0])], good := [], deep := [21], sched := [(5, (.first 0 (.alt 1 (.alt 2 (.alt 3 (.alt 4 (.alt 5 (.first 6 (.alt 7 .done .stop)) .stop) .stop) .stop) .stop) (.alt 2 (.alt 1 (.alt 3 (.alt 4 (.alt 5 (.first 6 (.alt 7 .done .stop)) .stop) .stop) .stop) (.alt 3 (.alt 1 (.alt 4 (.alt 5 (.first 6 (.alt 7 .done .stop)) .stop) .stop) (.alt 4 (.alt 1 (.alt 5 (.first 6 (.alt 7 .done .stop)) .stop) .stop) .stop)) .stop)) .stop))))] }

theorem t_impl_Model_own : TabOk Try.prog C_impl_Model_own := by
  refine tabOk_of ?_
  simp only [C_impl_Model_own, List.forall_mem_cons]
  exact ⟨k_slices_Clone_int, k_impl_Rule_own, fun p h => by cases h⟩

theorem k_impl_Model_own : Entry Try.prog 212 c_impl_Model_own := by
  refine entry_by (C := C_impl_Model_own) mixed tys_ok t_impl_Model_own (fn := Try.f212) (c := bd Try.f212) (by kernel_rfl) (by kernel_rfl) (by kernel_rfl) (by kernel_rfl) ?_
  intro args st k he
  unfold c_impl_Model_own at he
  split at he
  rotate_left
  · exact he.elim
  rename_i m_0 m_1
  have he : Ok (impl_Model_own (m_0, m_1)) (fun r => k (.agg [.own 901 false, .own 902 false]) [(900, .rc [.own 901 false, .own 902 false]), (901, .sl 3 (.int .i64) r.1 .shallow), (902, .sl 124 (.pair (.int .i64) (.pair (.sl (.int .i64)) (.pair (.sl (.int .i64)) (.pair (.int .i64) (.sl (.sl (.int .i64))))))) r.2 (.deep true .no))]) := he
  refine ⟨rfl, rfl, ?_⟩
  obtain ⟨r1_, hr, he⟩ := ok_bind he
  refine ⟨r1_, hr, ?_⟩
  refine loop_model mixed tys_ok t_impl_Model_own (S := Int × (List (Int × (List Int) × (List Int) × Int × (List (List Int))))) (I := (fun (i, out_1) => (envOf [(2, .c (.ptr 10000000 0)), (3, .c (.ptr 10000001 0)), (11, .c (.imm (.pair (.int .i64) (.pair (.sl (.int .i64)) (.pair (.sl (.int .i64)) (.pair (.int .i64) (.sl (.sl (.int .i64))))))) (m_0, m_1).2)), (12, .c (.int .i64 ((m_0, m_1).2.length:Int))), (13, .c (.int .i64 i))], [(10000000, .rc [.nil, .nil]), (10000001, .rc [.own 10000002 false, .own 10000003 false]), (10000002, .sl 3 (.int .i64) r1_ .shallow), (10000003, .sl 124 (.pair (.int .i64) (.pair (.sl (.int .i64)) (.pair (.sl (.int .i64)) (.pair (.int .i64) (.sl (.sl (.int .i64))))))) out_1 (.deep true .no))]))) (f := impl_Model_own_l1 (m_0, m_1) r1_) (K := (fun r => k (.agg [.own 901 false, .own 902 false]) [(900, .rc [.own 901 false, .own 902 false]), (901, .sl 3 (.int .i64) r.1 .shallow), (902, .sl 124 (.pair (.int .i64) (.pair (.sl (.int .i64)) (.pair (.sl (.int .i64)) (.pair (.int .i64) (.sl (.sl (.int .i64))))))) r.2 (.deep true .no))])) he (leads_ren [(10000000, 2), (10000001, 3), (10000002, 9900)] (l := [(2, .c (.ptr 10000000 0)), (3, .c (.ptr 10000001 0)), (11, .c (.imm (.pair (.int .i64) (.pair (.sl (.int .i64)) (.pair (.sl (.int .i64)) (.pair (.int .i64) (.sl (.sl (.int .i64))))))) (m_0, m_1).2)), (12, .c (.int .i64 ((m_0, m_1).2.length:Int))), (13, .c (.int .i64 (0:Int)))]) (st' := [(10000000, .rc [.nil, .nil]), (10000001, .rc [.own 10000002 false, .own 10000003 false]), (10000002, .sl 3 (.int .i64) r1_ .shallow), (10000003, .sl 124 (.pair (.int .i64) (.pair (.sl (.int .i64)) (.pair (.sl (.int .i64)) (.pair (.int .i64) (.sl (.sl (.int .i64))))))) ([] : List (Int × (List Int) × (List Int) × Int × (List (List Int)))) (.deep true .no))]) rfl rfl ⟨⟨rfl, rfl, trivial⟩, ⟨⟨⟨rfl, rfl⟩, trivial⟩, ⟨rfl, trivial⟩, trivial⟩, ⟨rfl, rfl⟩, trivial, trivial⟩ ⟨⟨⟨rfl, rfl⟩, rfl⟩, ⟨⟨rfl, rfl⟩, rfl⟩, .inl rfl, rfl, rfl, trivial⟩) ?_
  rintro ⟨i, out_1⟩ J1 he
  refine And.intro (fun hb => ?_) (fun hb => ?_)
  · have he := ok_t he hb
    have he := ok_rq he
    refine And.intro he.1 ?_
    have he := he.2
    refine And.intro (by kernel_rfl) ?_
    obtain ⟨r4_, hq1, he⟩ := ok_bind he
    have he := ok_rq he
    have hq2 := he.1
    have he := he.2
    refine And.intro ?_ (And.intro ?_ (trivial))
    · skip
      refine And.intro ?_ trivial
      refine And.intro ?_ trivial
      refine ⟨r4_, hq1, ?_⟩
      refine And.intro ?_ trivial
      refine And.intro ?_ trivial
      refine And.intro hq2 ?_
      refine And.intro ?_ trivial
      have he := ok_rq he
      refine And.intro he.1 ?_
      have he := he.2
      have he := ok_some he
      exact ⟨((i + (1:Int)), (out_1 ++ [(r4_.1, (r4_.2.2.1, (r4_.2.2.2.1, (r4_.2.1, r4_.2.2.2.2))))])), he, (leads_ren [(10000003, 22)] (l := [(2, .c (.ptr 10000000 0)), (3, .c (.ptr 10000001 0)), (11, .c (.imm (.pair (.int .i64) (.pair (.sl (.int .i64)) (.pair (.sl (.int .i64)) (.pair (.int .i64) (.sl (.sl (.int .i64))))))) (m_0, m_1).2)), (12, .c (.int .i64 ((m_0, m_1).2.length:Int))), (13, .c (.int .i64 (i + (1:Int))))]) (st' := [(10000000, .rc [.nil, .nil]), (10000001, .rc [.own 10000002 false, .own 10000003 false]), (10000002, .sl 3 (.int .i64) r1_ .shallow), (10000003, .sl 124 (.pair (.int .i64) (.pair (.sl (.int .i64)) (.pair (.sl (.int .i64)) (.pair (.int .i64) (.sl (.sl (.int .i64))))))) (out_1 ++ [(r4_.1, (r4_.2.2.1, (r4_.2.2.2.1, (r4_.2.1, r4_.2.2.2.2))))]) (.deep true .no))]) rfl rfl ⟨⟨rfl, rfl, trivial⟩, ⟨⟨⟨rfl, rfl⟩, trivial⟩, ⟨⟨rfl, rfl⟩, trivial⟩, trivial⟩, ⟨rfl, rfl⟩, ⟨rfl, rfl⟩, trivial⟩ ⟨⟨⟨rfl, rfl⟩, rfl⟩, ⟨⟨rfl, rfl⟩, rfl⟩, .inl rfl, rfl, rfl, trivial⟩)⟩
    · skip
      refine And.intro ?_ (And.intro ?_ (trivial))
      · skip
        refine And.intro ?_ trivial
        refine ⟨r4_, hq1, ?_⟩
        refine And.intro ?_ trivial
        refine And.intro ?_ trivial
        refine And.intro hq2 ?_
        refine And.intro ?_ trivial
        have he := ok_rq he
        refine And.intro he.1 ?_
        have he := he.2
        have he := ok_some he
        exact ⟨((i + (1:Int)), (out_1 ++ [(r4_.1, (r4_.2.2.1, (r4_.2.2.2.1, (r4_.2.1, r4_.2.2.2.2))))])), he, (leads_ren [(10000003, 22)] (l := [(2, .c (.ptr 10000000 0)), (3, .c (.ptr 10000001 0)), (11, .c (.imm (.pair (.int .i64) (.pair (.sl (.int .i64)) (.pair (.sl (.int .i64)) (.pair (.int .i64) (.sl (.sl (.int .i64))))))) (m_0, m_1).2)), (12, .c (.int .i64 ((m_0, m_1).2.length:Int))), (13, .c (.int .i64 (i + (1:Int))))]) (st' := [(10000000, .rc [.nil, .nil]), (10000001, .rc [.own 10000002 false, .own 10000003 false]), (10000002, .sl 3 (.int .i64) r1_ .shallow), (10000003, .sl 124 (.pair (.int .i64) (.pair (.sl (.int .i64)) (.pair (.sl (.int .i64)) (.pair (.int .i64) (.sl (.sl (.int .i64))))))) (out_1 ++ [(r4_.1, (r4_.2.2.1, (r4_.2.2.2.1, (r4_.2.1, r4_.2.2.2.2))))]) (.deep true .no))]) rfl rfl ⟨⟨rfl, rfl, trivial⟩, ⟨⟨⟨rfl, rfl⟩, trivial⟩, ⟨⟨rfl, rfl⟩, trivial⟩, trivial⟩, ⟨rfl, rfl⟩, ⟨rfl, rfl⟩, trivial⟩ ⟨⟨⟨rfl, rfl⟩, rfl⟩, ⟨⟨rfl, rfl⟩, rfl⟩, .inl rfl, rfl, rfl, trivial⟩)⟩
      · skip
        refine ⟨r4_, hq1, ?_⟩
        refine And.intro ?_ (And.intro ?_ (trivial))
        · skip
          refine And.intro ?_ trivial
          refine And.intro ?_ trivial
          refine And.intro hq2 ?_
          refine And.intro ?_ trivial
          have he := ok_rq he
          refine And.intro he.1 ?_
          have he := he.2
          have he := ok_some he
          exact ⟨((i + (1:Int)), (out_1 ++ [(r4_.1, (r4_.2.2.1, (r4_.2.2.2.1, (r4_.2.1, r4_.2.2.2.2))))])), he, (leads_ren [(10000003, 22)] (l := [(2, .c (.ptr 10000000 0)), (3, .c (.ptr 10000001 0)), (11, .c (.imm (.pair (.int .i64) (.pair (.sl (.int .i64)) (.pair (.sl (.int .i64)) (.pair (.int .i64) (.sl (.sl (.int .i64))))))) (m_0, m_1).2)), (12, .c (.int .i64 ((m_0, m_1).2.length:Int))), (13, .c (.int .i64 (i + (1:Int))))]) (st' := [(10000000, .rc [.nil, .nil]), (10000001, .rc [.own 10000002 false, .own 10000003 false]), (10000002, .sl 3 (.int .i64) r1_ .shallow), (10000003, .sl 124 (.pair (.int .i64) (.pair (.sl (.int .i64)) (.pair (.sl (.int .i64)) (.pair (.int .i64) (.sl (.sl (.int .i64))))))) (out_1 ++ [(r4_.1, (r4_.2.2.1, (r4_.2.2.2.1, (r4_.2.1, r4_.2.2.2.2))))]) (.deep true .no))]) rfl rfl ⟨⟨rfl, rfl, trivial⟩, ⟨⟨⟨rfl, rfl⟩, trivial⟩, ⟨⟨rfl, rfl⟩, trivial⟩, trivial⟩, ⟨rfl, rfl⟩, ⟨rfl, rfl⟩, trivial⟩ ⟨⟨⟨rfl, rfl⟩, rfl⟩, ⟨⟨rfl, rfl⟩, rfl⟩, .inl rfl, rfl, rfl, trivial⟩)⟩
        · skip
          refine And.intro ?_ trivial
          refine And.intro ?_ trivial
          refine And.intro hq2 ?_
          refine And.intro ?_ trivial
          have he := ok_rq he
          refine And.intro he.1 ?_
          have he := he.2
          have he := ok_some he
          exact ⟨((i + (1:Int)), (out_1 ++ [(r4_.1, (r4_.2.2.1, (r4_.2.2.2.1, (r4_.2.1, r4_.2.2.2.2))))])), he, (leads_ren [(10000003, 22)] (l := [(2, .c (.ptr 10000000 0)), (3, .c (.ptr 10000001 0)), (11, .c (.imm (.pair (.int .i64) (.pair (.sl (.int .i64)) (.pair (.sl (.int .i64)) (.pair (.int .i64) (.sl (.sl (.int .i64))))))) (m_0, m_1).2)), (12, .c (.int .i64 ((m_0, m_1).2.length:Int))), (13, .c (.int .i64 (i + (1:Int))))]) (st' := [(10000000, .rc [.nil, .nil]), (10000001, .rc [.own 10000002 false, .own 10000003 false]), (10000002, .sl 3 (.int .i64) r1_ .shallow), (10000003, .sl 124 (.pair (.int .i64) (.pair (.sl (.int .i64)) (.pair (.sl (.int .i64)) (.pair (.int .i64) (.sl (.sl (.int .i64))))))) (out_1 ++ [(r4_.1, (r4_.2.2.1, (r4_.2.2.2.1, (r4_.2.1, r4_.2.2.2.2))))]) (.deep true .no))]) rfl rfl ⟨⟨rfl, rfl, trivial⟩, ⟨⟨⟨rfl, rfl⟩, trivial⟩, ⟨⟨rfl, rfl⟩, trivial⟩, trivial⟩, ⟨rfl, rfl⟩, ⟨rfl, rfl⟩, trivial⟩ ⟨⟨⟨rfl, rfl⟩, rfl⟩, ⟨⟨rfl, rfl⟩, rfl⟩, .inl rfl, rfl, rfl, trivial⟩)⟩
  · have he := ok_f he hb
    have he := ok_some he
    exact ⟨rfl, _, _, (leads_ren [(900, 10000000), (901, 10000002), (902, 10000003)] (l := [(2, .c (.ptr 900 0))]) (st' := [(900, .rc [.own 901 false, .own 902 false]), (901, .sl 3 (.int .i64) r1_ .shallow), (902, .sl 124 (.pair (.int .i64) (.pair (.sl (.int .i64)) (.pair (.sl (.int .i64)) (.pair (.int .i64) (.sl (.sl (.int .i64))))))) out_1 (.deep true .no))]) rfl rfl ⟨⟨⟨⟨rfl, rfl⟩, trivial⟩, ⟨⟨rfl, rfl⟩, trivial⟩, trivial⟩, ⟨rfl, rfl⟩, ⟨rfl, rfl⟩, trivial⟩ ⟨⟨⟨rfl, rfl⟩, rfl⟩, trivial⟩), he⟩

noncomputable def c_impl_Model_permuted : Con := fun args st => match args, st with
  | [.agg [.imm (.int .i64) m_0, .imm (.pair (.int .i64) (.pair (.sl (.int .i64)) (.pair (.sl (.int .i64)) (.pair (.int .i64) (.sl (.sl (.int .i64))))))) m_1], .c (.imm (.int .i64) perm)], [] => .opt ((List Int) × (List (Int × (List Int) × (List Int) × Int × (List (List Int))))) (impl_Model_permuted (m_0, m_1) perm) (fun r => .ret (.agg [.own 901 false, .own 902 false]) [(900, .rc [.own 901 false, .own 902 false]), (901, .sl 3 (.int .i64) r.1 .shallow), (902, .sl 124 (.pair (.int .i64) (.pair (.sl (.int .i64)) (.pair (.sl (.int .i64)) (.pair (.int .i64) (.sl (.sl (.int .i64))))))) r.2 (.deep true .no))])
  | _, _ => .fail

noncomputable def C_impl_Model_permuted : Cfg := { y := tys, n := 38, h := 0, tab := [(212, c_impl_Model_own)], cut := [], hand := [], good := [], deep := [], sched := [(8, (.first 0 (.first 2 (.first 3 (.first 4 (.first 5 (.first 6 (.alt 1 (.first 7 (.alt 8 .done .stop)) .stop))))))))] }

theorem t_impl_Model_permuted : TabOk Try.prog C_impl_Model_permuted := by
  refine tabOk_of ?_
  simp only [C_impl_Model_permuted, List.forall_mem_cons]
  exact ⟨k_impl_Model_own, fun p h => by cases h⟩

theorem k_impl_Model_permuted : Entry Try.prog 124 c_impl_Model_permuted := by
  refine entry_by (C := C_impl_Model_permuted) mixed tys_ok t_impl_Model_permuted (fn := Try.f124) (c := bd Try.f124) (by kernel_rfl) (by kernel_rfl) (by kernel_rfl) (by kernel_rfl) ?_
  intro args st k he
  unfold c_impl_Model_permuted at he
  split at he
  rotate_left
  · exact he.elim
  rename_i m_0 m_1 perm
  have he : Ok (impl_Model_permuted (m_0, m_1) perm) (fun r => k (.agg [.own 901 false, .own 902 false]) [(900, .rc [.own 901 false, .own 902 false]), (901, .sl 3 (.int .i64) r.1 .shallow), (902, .sl 124 (.pair (.int .i64) (.pair (.sl (.int .i64)) (.pair (.sl (.int .i64)) (.pair (.int .i64) (.sl (.sl (.int .i64))))))) r.2 (.deep true .no))]) := he
  refine ⟨rfl, rfl, ?_⟩
  obtain ⟨r1_, hr, he⟩ := ok_bind he
  refine ⟨r1_, hr, ?_⟩
  refine loop_model mixed tys_ok t_impl_Model_permuted (S := Int × (List (Int × (List Int) × (List Int) × Int × (List (List Int))))) (I := (fun (i, i3) => (envOf [(1, .c (.imm (.int .i64) perm)), (4, .c (.ptr 10000000 0)), (5, .c (.ptr 10000001 0)), (13, .c (.own 10000002 false)), (14, .c (.int .i64 (r1_.2.length:Int))), (15, .c (.int .i64 i))], [(10000000, .rc [.nil, .nil]), (10000001, .rc [.own 10000003 false, .own 10000002 false]), (10000002, .sl 124 (.pair (.int .i64) (.pair (.sl (.int .i64)) (.pair (.sl (.int .i64)) (.pair (.int .i64) (.sl (.sl (.int .i64))))))) i3 (.deep true .no)), (10000003, .sl 3 (.int .i64) r1_.1 .shallow)]))) (f := impl_Model_permuted_l1 perm r1_) (K := (fun r => k (.agg [.own 901 false, .own 902 false]) [(900, .rc [.own 901 false, .own 902 false]), (901, .sl 3 (.int .i64) r.1 .shallow), (902, .sl 124 (.pair (.int .i64) (.pair (.sl (.int .i64)) (.pair (.sl (.int .i64)) (.pair (.int .i64) (.sl (.sl (.int .i64))))))) r.2 (.deep true .no))])) he (leads_ren [(10000000, 4), (10000001, 5), (10000002, 12902), (10000003, 12901)] (l := [(1, .c (.imm (.int .i64) perm)), (4, .c (.ptr 10000000 0)), (5, .c (.ptr 10000001 0)), (13, .c (.own 10000002 false)), (14, .c (.int .i64 (r1_.2.length:Int))), (15, .c (.int .i64 (0:Int)))]) (st' := [(10000000, .rc [.nil, .nil]), (10000001, .rc [.own 10000003 false, .own 10000002 false]), (10000002, .sl 124 (.pair (.int .i64) (.pair (.sl (.int .i64)) (.pair (.sl (.int .i64)) (.pair (.int .i64) (.sl (.sl (.int .i64))))))) r1_.2 (.deep true .no)), (10000003, .sl 3 (.int .i64) r1_.1 .shallow)]) rfl rfl ⟨⟨rfl, rfl, trivial⟩, ⟨⟨⟨rfl, rfl⟩, trivial⟩, ⟨⟨rfl, rfl⟩, trivial⟩, trivial⟩, ⟨rfl, rfl⟩, ⟨rfl, rfl⟩, trivial⟩ ⟨.inl rfl, ⟨⟨rfl, rfl⟩, rfl⟩, ⟨⟨rfl, rfl⟩, rfl⟩, ⟨⟨rfl, rfl⟩, trivial⟩, rfl, rfl, trivial⟩) ?_
  rintro ⟨i, i3⟩ J1 he
  refine And.intro (fun hb => ?_) (fun hb => ?_)
  · have he := ok_t he hb
    have he := ok_rq he
    refine And.intro he.1 ?_
    have he := he.2
    refine loop_model mixed tys_ok t_impl_Model_permuted (S := Int × (List Int)) (I := (fun (i4, i5) => (envOf [(1, .c (.imm (.int .i64) perm)), (4, .c (.ptr 10002000 0)), (5, .c (.ptr 10002001 0)), (7, .c (.ptr 10002002 0)), (13, .c (.own 10000002 false)), (14, .c (.int .i64 (r1_.2.length:Int))), (15, .c (.int .i64 i)), (20, .c (.own 19001 false)), (21, .c (.int .i64 ((i3.getD i.toNat (0, ([], ([], (0, []))))).2.1.length:Int))), (22, .c (.int .i64 i4))], [(19001, .sl 0 (.int .i64) i5 (.deep false .no)), (19002, .sl 0 (.int .i64) (i3.getD i.toNat (0, ([], ([], (0, []))))).2.2.1 (.deep false .no)), (19004, .sl 0 (.sl (.int .i64)) (i3.getD i.toNat (0, ([], ([], (0, []))))).2.2.2.2 (.deep false .no)), (10000002, .sl 124 (.pair (.int .i64) (.pair (.sl (.int .i64)) (.pair (.sl (.int .i64)) (.pair (.int .i64) (.sl (.sl (.int .i64))))))) i3 (.deep true (.at i.toNat 0 5 19000))), (10002000, .rc [.nil, .nil]), (10002001, .rc [.own 10002003 false, .own 10000002 false]), (10002002, .rc [.int .i64 (i3.getD i.toNat (0, ([], ([], (0, []))))).1, .own 19001 false, .own 19002 false, .int .i64 (i3.getD i.toNat (0, ([], ([], (0, []))))).2.2.2.1, .own 19004 false]), (10002003, .sl 3 (.int .i64) r1_.1 .shallow)]))) (f := impl_Model_permuted_l2 perm i i3) (K := (LK J1 (fun r => k (.agg [.own 901 false, .own 902 false]) [(900, .rc [.own 901 false, .own 902 false]), (901, .sl 3 (.int .i64) r.1 .shallow), (902, .sl 124 (.pair (.int .i64) (.pair (.sl (.int .i64)) (.pair (.sl (.int .i64)) (.pair (.int .i64) (.sl (.sl (.int .i64))))))) r.2 (.deep true .no))]))) he (leads_ren [(10002000, 10000000), (10002001, 10000001), (10002002, 7), (10002003, 10000003)] (l := [(1, .c (.imm (.int .i64) perm)), (4, .c (.ptr 10002000 0)), (5, .c (.ptr 10002001 0)), (7, .c (.ptr 10002002 0)), (13, .c (.own 10000002 false)), (14, .c (.int .i64 (r1_.2.length:Int))), (15, .c (.int .i64 i)), (20, .c (.own 19001 false)), (21, .c (.int .i64 ((i3.getD i.toNat (0, ([], ([], (0, []))))).2.1.length:Int))), (22, .c (.int .i64 (0:Int)))]) (st' := [(19001, .sl 0 (.int .i64) (i3.getD i.toNat (0, ([], ([], (0, []))))).2.1 (.deep false .no)), (19002, .sl 0 (.int .i64) (i3.getD i.toNat (0, ([], ([], (0, []))))).2.2.1 (.deep false .no)), (19004, .sl 0 (.sl (.int .i64)) (i3.getD i.toNat (0, ([], ([], (0, []))))).2.2.2.2 (.deep false .no)), (10000002, .sl 124 (.pair (.int .i64) (.pair (.sl (.int .i64)) (.pair (.sl (.int .i64)) (.pair (.int .i64) (.sl (.sl (.int .i64))))))) i3 (.deep true (.at i.toNat 0 5 19000))), (10002000, .rc [.nil, .nil]), (10002001, .rc [.own 10002003 false, .own 10000002 false]), (10002002, .rc [.int .i64 (i3.getD i.toNat (0, ([], ([], (0, []))))).1, .own 19001 false, .own 19002 false, .int .i64 (i3.getD i.toNat (0, ([], ([], (0, []))))).2.2.2.1, .own 19004 false]), (10002003, .sl 3 (.int .i64) r1_.1 .shallow)]) rfl rfl ⟨⟨rfl, rfl⟩, ⟨rfl, rfl⟩, ⟨rfl, rfl⟩, ⟨rfl, rfl⟩, ⟨rfl, rfl, trivial⟩, ⟨⟨⟨rfl, rfl⟩, trivial⟩, ⟨⟨rfl, rfl⟩, trivial⟩, trivial⟩, ⟨rfl, ⟨⟨rfl, rfl⟩, trivial⟩, ⟨⟨rfl, rfl⟩, trivial⟩, rfl, ⟨⟨rfl, rfl⟩, trivial⟩, trivial⟩, ⟨rfl, rfl⟩, trivial⟩ ⟨.inl rfl, ⟨⟨rfl, rfl⟩, rfl⟩, ⟨⟨rfl, rfl⟩, rfl⟩, ⟨⟨rfl, rfl⟩, rfl⟩, ⟨⟨rfl, rfl⟩, trivial⟩, rfl, rfl, ⟨⟨rfl, rfl⟩, trivial⟩, rfl, rfl, trivial⟩) ?_
    rintro ⟨i4, i5⟩ J2 he
    refine And.intro (fun hb => ?_) (fun hb => ?_)
    · have he := ok_t he hb
      have he := ok_rq he
      refine And.intro he.1 ?_
      have he := he.2
      refine And.intro (by kernel_rfl) ?_
      have he := ok_rq he
      refine And.intro he.1 ?_
      have he := he.2
      refine And.intro ?_ trivial
      have he := ok_rq he
      refine And.intro he.1 ?_
      have he := he.2
      refine And.intro ?_ trivial
      have he := ok_rq he
      refine And.intro he.1 ?_
      have he := he.2
      have he := ok_some he
      exact ⟨((i4 + (1:Int)), (i5.set i4.toNat (perm.getD (i5.getD i4.toNat 0).toNat 0))), he, (leads_ren [] (l := [(1, .c (.imm (.int .i64) perm)), (4, .c (.ptr 10002000 0)), (5, .c (.ptr 10002001 0)), (7, .c (.ptr 10002002 0)), (13, .c (.own 10000002 false)), (14, .c (.int .i64 (r1_.2.length:Int))), (15, .c (.int .i64 i)), (20, .c (.own 19001 false)), (21, .c (.int .i64 ((i3.getD i.toNat (0, ([], ([], (0, []))))).2.1.length:Int))), (22, .c (.int .i64 (i4 + (1:Int))))]) (st' := [(19001, .sl 0 (.int .i64) (i5.set i4.toNat (perm.getD (i5.getD i4.toNat 0).toNat 0)) (.deep false .no)), (19002, .sl 0 (.int .i64) (i3.getD i.toNat (0, ([], ([], (0, []))))).2.2.1 (.deep false .no)), (19004, .sl 0 (.sl (.int .i64)) (i3.getD i.toNat (0, ([], ([], (0, []))))).2.2.2.2 (.deep false .no)), (10000002, .sl 124 (.pair (.int .i64) (.pair (.sl (.int .i64)) (.pair (.sl (.int .i64)) (.pair (.int .i64) (.sl (.sl (.int .i64))))))) i3 (.deep true (.at i.toNat 0 5 19000))), (10002000, .rc [.nil, .nil]), (10002001, .rc [.own 10002003 false, .own 10000002 false]), (10002002, .rc [.int .i64 (i3.getD i.toNat (0, ([], ([], (0, []))))).1, .own 19001 false, .own 19002 false, .int .i64 (i3.getD i.toNat (0, ([], ([], (0, []))))).2.2.2.1, .own 19004 false]), (10002003, .sl 3 (.int .i64) r1_.1 .shallow)]) rfl rfl ⟨⟨rfl, rfl⟩, ⟨rfl, rfl⟩, ⟨rfl, rfl⟩, ⟨rfl, rfl⟩, ⟨rfl, rfl, trivial⟩, ⟨⟨⟨rfl, rfl⟩, trivial⟩, ⟨⟨rfl, rfl⟩, trivial⟩, trivial⟩, ⟨rfl, ⟨⟨rfl, rfl⟩, trivial⟩, ⟨⟨rfl, rfl⟩, trivial⟩, rfl, ⟨⟨rfl, rfl⟩, trivial⟩, trivial⟩, ⟨rfl, rfl⟩, trivial⟩ ⟨.inl rfl, ⟨⟨rfl, rfl⟩, rfl⟩, ⟨⟨rfl, rfl⟩, rfl⟩, ⟨⟨rfl, rfl⟩, rfl⟩, ⟨⟨rfl, rfl⟩, trivial⟩, rfl, rfl, ⟨⟨rfl, rfl⟩, trivial⟩, rfl, rfl, trivial⟩)⟩
    · have he := ok_f he hb
      have he := ok_rq he
      refine And.intro he.1 ?_
      have he := he.2
      have he := ok_some he
      exact ⟨((i + (1:Int)), (i3.set i.toNat ((i3.getD i.toNat (0, ([], ([], (0, []))))).1, (i5, (i3.getD i.toNat (0, ([], ([], (0, []))))).2.2)))), he, ((leads_close [10000002] rfl).trans (leads_ren [(10000000, 10002000), (10000001, 10002001), (10000003, 10002003)] (l := [(1, .c (.imm (.int .i64) perm)), (4, .c (.ptr 10000000 0)), (5, .c (.ptr 10000001 0)), (13, .c (.own 10000002 false)), (14, .c (.int .i64 (r1_.2.length:Int))), (15, .c (.int .i64 (i + (1:Int))))]) (st' := [(10000000, .rc [.nil, .nil]), (10000001, .rc [.own 10000003 false, .own 10000002 false]), (10000002, .sl 124 (.pair (.int .i64) (.pair (.sl (.int .i64)) (.pair (.sl (.int .i64)) (.pair (.int .i64) (.sl (.sl (.int .i64))))))) (i3.set i.toNat ((i3.getD i.toNat (0, ([], ([], (0, []))))).1, (i5, (i3.getD i.toNat (0, ([], ([], (0, []))))).2.2))) (.deep true .no)), (10000003, .sl 3 (.int .i64) r1_.1 .shallow)]) rfl rfl (by exact ⟨⟨rfl, rfl, trivial⟩, ⟨⟨⟨rfl, rfl⟩, trivial⟩, ⟨⟨rfl, rfl⟩, trivial⟩, trivial⟩, ⟨rfl, rfl⟩, ⟨rfl, rfl⟩, trivial⟩) (by exact ⟨.inl rfl, ⟨⟨rfl, rfl⟩, rfl⟩, ⟨⟨rfl, rfl⟩, rfl⟩, ⟨⟨rfl, rfl⟩, trivial⟩, rfl, rfl, trivial⟩)))⟩
  · have he := ok_f he hb
    have he := ok_some he
    exact ⟨rfl, _, _, (leads_ren [(900, 10000000), (901, 10000003), (902, 10000002)] (l := [(4, .c (.ptr 900 0))]) (st' := [(900, .rc [.own 901 false, .own 902 false]), (901, .sl 3 (.int .i64) r1_.1 .shallow), (902, .sl 124 (.pair (.int .i64) (.pair (.sl (.int .i64)) (.pair (.sl (.int .i64)) (.pair (.int .i64) (.sl (.sl (.int .i64))))))) i3 (.deep true .no))]) rfl rfl ⟨⟨⟨⟨rfl, rfl⟩, trivial⟩, ⟨⟨rfl, rfl⟩, trivial⟩, trivial⟩, ⟨rfl, rfl⟩, ⟨rfl, rfl⟩, trivial⟩ ⟨⟨⟨rfl, rfl⟩, rfl⟩, trivial⟩), he⟩

noncomputable def c_impl_PermuteModel : Con := fun args st => match args, st with
  | [.agg [.imm (.int .i64) m_0, .imm (.pair (.int .i64) (.pair (.sl (.int .i64)) (.pair (.sl (.int .i64)) (.pair (.int .i64) (.sl (.sl (.int .i64))))))) m_1], .c (.imm (.int .i64) perm)], [] => .opt (Bool × (List Int) × (List (Int × (List Int) × (List Int) × Int × (List (List Int))))) (impl_PermuteModel (m_0, m_1) perm) (fun r => .ret (.tup [.agg [.own 901 false, .own 902 false], .c (.bool r.1)]) [(900, .rc [.own 901 false, .own 902 false]), (901, .sl 3 (.int .i64) r.2.1 .shallow), (902, .sl 124 (.pair (.int .i64) (.pair (.sl (.int .i64)) (.pair (.sl (.int .i64)) (.pair (.int .i64) (.sl (.sl (.int .i64))))))) r.2.2 (.deep true .no))])
  | _, _ => .fail

noncomputable def C_impl_PermuteModel : Cfg := { y := tys, n := 14, h := 0, tab := [(123, c_impl_PermValid), (124, c_impl_Model_permuted)], cut := [], hand := [], good := [], deep := [], sched := [] }

theorem t_impl_PermuteModel : TabOk Try.prog C_impl_PermuteModel := by
  refine tabOk_of ?_
  simp only [C_impl_PermuteModel, List.forall_mem_cons]
  exact ⟨k_impl_PermValid, k_impl_Model_permuted, fun p h => by cases h⟩

theorem k_impl_PermuteModel : Entry Try.prog 35 c_impl_PermuteModel := by
  refine entry_by (C := C_impl_PermuteModel) mixed tys_ok t_impl_PermuteModel (fn := Try.f35) (c := bd Try.f35) (by kernel_rfl) (by kernel_rfl) (by kernel_rfl) (by kernel_rfl) ?_
  intro args st k he
  unfold c_impl_PermuteModel at he
  split at he
  rotate_left
  · exact he.elim
  rename_i m_0 m_1 perm
  have he : Ok (impl_PermuteModel (m_0, m_1) perm) (fun r => k (.tup [.agg [.own 901 false, .own 902 false], .c (.bool r.1)]) [(900, .rc [.own 901 false, .own 902 false]), (901, .sl 3 (.int .i64) r.2.1 .shallow), (902, .sl 124 (.pair (.int .i64) (.pair (.sl (.int .i64)) (.pair (.sl (.int .i64)) (.pair (.int .i64) (.sl (.sl (.int .i64))))))) r.2.2 (.deep true .no))]) := he
  refine ⟨rfl, rfl, ?_⟩
  obtain ⟨r1_, hr, he⟩ := ok_bind he
  refine ⟨r1_, hr, ?_⟩
  refine And.intro (fun hb => ?_) (fun hb => ?_)
  · have he := ok_t he hb
    have he := ok_some he
    exact ⟨rfl, _, _, (leads_ren [(900, 4)] (l := [(4, .c (.ptr 900 0)), (5, .c (.bool false))]) (st' := [(900, .rc [.own 901 false, .own 902 false]), (901, .sl 3 (.int .i64) ([] : List Int) .shallow), (902, .sl 124 (.pair (.int .i64) (.pair (.sl (.int .i64)) (.pair (.sl (.int .i64)) (.pair (.int .i64) (.sl (.sl (.int .i64))))))) ([] : List (Int × (List Int) × (List Int) × Int × (List (List Int)))) (.deep true .no))]) rfl rfl ⟨⟨⟨rfl, trivial⟩, ⟨rfl, trivial⟩, trivial⟩, trivial, trivial, trivial⟩ ⟨⟨⟨rfl, rfl⟩, rfl⟩, .inr rfl, trivial⟩), he⟩
  · have he := ok_f he hb
    obtain ⟨r2_, hr, he⟩ := ok_bind he
    refine ⟨r2_, hr, ?_⟩
    have he := ok_some he
    exact ⟨rfl, _, _, (leads_ren [(900, 4), (901, 14901), (902, 14902)] (l := [(4, .c (.ptr 900 0)), (5, .c (.bool true))]) (st' := [(900, .rc [.own 901 false, .own 902 false]), (901, .sl 3 (.int .i64) r2_.1 .shallow), (902, .sl 124 (.pair (.int .i64) (.pair (.sl (.int .i64)) (.pair (.sl (.int .i64)) (.pair (.int .i64) (.sl (.sl (.int .i64))))))) r2_.2 (.deep true .no))]) rfl rfl ⟨⟨⟨⟨rfl, rfl⟩, trivial⟩, ⟨⟨rfl, rfl⟩, trivial⟩, trivial⟩, ⟨rfl, rfl⟩, ⟨rfl, rfl⟩, trivial⟩ ⟨⟨⟨rfl, rfl⟩, rfl⟩, .inr rfl, trivial⟩), he⟩

noncomputable def c_spec_l6Vars : Con := fun args st => match args, st with
  | [.agg [.imm (.int .i64) m_0, .imm (.pair (.int .i64) (.pair (.sl (.int .i64)) (.pair (.sl (.int .i64)) (.pair (.int .i64) (.sl (.sl (.int .i64))))))) m_1], .c (.imm (.int .i64) list_)], [] => .opt (Bool) (spec_l6Vars (m_0, m_1) list_) (fun r => .ret (.c (.bool r)) [])
  | _, _ => .fail

noncomputable def C_spec_l6Vars : Cfg := { y := tys, n := 45, h := 0, tab := [], cut := [], hand := [], good := [], deep := [], sched := [] }

theorem t_spec_l6Vars : TabOk Try.prog C_spec_l6Vars := tabOk_of (fun p h => by cases h)

theorem k_spec_l6Vars : Entry Try.prog 213 c_spec_l6Vars := by
  refine entry_by (C := C_spec_l6Vars) mixed tys_ok t_spec_l6Vars (fn := Try.f213) (c := bd Try.f213) (by kernel_rfl) (by kernel_rfl) (by kernel_rfl) (by kernel_rfl) ?_
  intro args st k he
  unfold c_spec_l6Vars at he
  split at he
  rotate_left
  · exact he.elim
  rename_i m_0 m_1 list_
  have he : Ok (spec_l6Vars (m_0, m_1) list_) (fun r => k (.c (.bool r)) []) := he
  refine ⟨rfl, rfl, ?_⟩
  refine loop_model mixed tys_ok t_spec_l6Vars (S := Int) (I := (fun i => (envOf [(1, .c (.imm (.int .i64) list_)), (2, .c (.ptr 10000000 0)), (5, .c (.int .i64 i))], [(10000000, .rc [.imm (.int .i64) (m_0, m_1).1, .imm (.pair (.int .i64) (.pair (.sl (.int .i64)) (.pair (.sl (.int .i64)) (.pair (.int .i64) (.sl (.sl (.int .i64))))))) (m_0, m_1).2])]))) (f := spec_l6Vars_l1 (m_0, m_1) list_) (K := (fun r => k (.c (.bool r)) [])) he (leads_ren [(10000000, 2)] (l := [(1, .c (.imm (.int .i64) list_)), (2, .c (.ptr 10000000 0)), (5, .c (.int .i64 (0:Int)))]) (st' := [(10000000, .rc [.imm (.int .i64) (m_0, m_1).1, .imm (.pair (.int .i64) (.pair (.sl (.int .i64)) (.pair (.sl (.int .i64)) (.pair (.int .i64) (.sl (.sl (.int .i64))))))) (m_0, m_1).2])]) rfl rfl ⟨⟨.inl rfl, .inl rfl, trivial⟩, trivial⟩ ⟨.inl rfl, ⟨⟨rfl, rfl⟩, rfl⟩, rfl, trivial⟩) ?_
  rintro i J1 he
  refine And.intro (fun hb => ?_) (fun hb => ?_)
  · have he := ok_t he hb
    refine And.intro (by kernel_rfl) ?_
    have he := ok_rq he
    refine And.intro he.1 ?_
    have he := he.2
    refine And.intro (fun hb => ?_) (fun hb => ?_)
    · have he := ok_f he hb
      have he := ok_rq he
      refine And.intro he.1 ?_
      have he := he.2
      refine And.intro (fun hb => ?_) (fun hb => ?_)
      · have he := ok_t he hb
        have he := ok_some he
        exact ⟨rfl, _, _, (leads_ren [] (l := [(4, .c (.bool false))]) (st' := []) rfl rfl trivial ⟨.inr rfl, trivial⟩), he⟩
      · have he := ok_f he hb
        refine loop_model mixed tys_ok t_spec_l6Vars (S := Int) (I := (fun k_ => (envOf [(1, .c (.imm (.int .i64) list_)), (2, .c (.ptr 10001000 0)), (5, .c (.int .i64 i)), (6, .c (.int .i64 k_))], [(10001000, .rc [.imm (.int .i64) (m_0, m_1).1, .imm (.pair (.int .i64) (.pair (.sl (.int .i64)) (.pair (.sl (.int .i64)) (.pair (.int .i64) (.sl (.sl (.int .i64))))))) (m_0, m_1).2])]))) (f := spec_l6Vars_l2 list_ i) (K := (LK J1 (fun r => k (.c (.bool r)) []))) he (leads_ren [(10001000, 10000000)] (l := [(1, .c (.imm (.int .i64) list_)), (2, .c (.ptr 10001000 0)), (5, .c (.int .i64 i)), (6, .c (.int .i64 (0:Int)))]) (st' := [(10001000, .rc [.imm (.int .i64) (m_0, m_1).1, .imm (.pair (.int .i64) (.pair (.sl (.int .i64)) (.pair (.sl (.int .i64)) (.pair (.int .i64) (.sl (.sl (.int .i64))))))) (m_0, m_1).2])]) rfl rfl ⟨⟨.inl rfl, .inl rfl, trivial⟩, trivial⟩ ⟨.inl rfl, ⟨⟨rfl, rfl⟩, rfl⟩, rfl, rfl, trivial⟩) ?_
        rintro k_ J2 he
        refine And.intro (fun hb => ?_) (fun hb => ?_)
        · have he := ok_t he hb
          refine And.intro (by kernel_rfl) ?_
          have he := ok_rq he
          refine And.intro he.1 ?_
          have he := he.2
          have he := ok_rq he
          refine And.intro he.1 ?_
          have he := he.2
          refine And.intro (fun hb => ?_) (fun hb => ?_)
          · have he := ok_t he hb
            have he := ok_some he
            exact ⟨rfl, _, _, (leads_ren [] (l := [(4, .c (.bool false))]) (st' := []) rfl rfl trivial ⟨.inr rfl, trivial⟩), he⟩
          · have he := ok_f he hb
            have he := ok_rq he
            refine And.intro he.1 ?_
            have he := he.2
            have he := ok_some he
            exact ⟨(k_ + (1:Int)), he, (leads_ren [] (l := [(1, .c (.imm (.int .i64) list_)), (2, .c (.ptr 10001000 0)), (5, .c (.int .i64 i)), (6, .c (.int .i64 (k_ + (1:Int))))]) (st' := [(10001000, .rc [.imm (.int .i64) (m_0, m_1).1, .imm (.pair (.int .i64) (.pair (.sl (.int .i64)) (.pair (.sl (.int .i64)) (.pair (.int .i64) (.sl (.sl (.int .i64))))))) (m_0, m_1).2])]) rfl rfl ⟨⟨.inl rfl, .inl rfl, trivial⟩, trivial⟩ ⟨.inl rfl, ⟨⟨rfl, rfl⟩, rfl⟩, rfl, rfl, trivial⟩)⟩
        · have he := ok_f he hb
          have he := ok_rq he
          refine And.intro he.1 ?_
          have he := he.2
          have he := ok_some he
          exact ⟨(i + (1:Int)), he, (leads_ren [(10000000, 10001000)] (l := [(1, .c (.imm (.int .i64) list_)), (2, .c (.ptr 10000000 0)), (5, .c (.int .i64 (i + (1:Int))))]) (st' := [(10000000, .rc [.imm (.int .i64) (m_0, m_1).1, .imm (.pair (.int .i64) (.pair (.sl (.int .i64)) (.pair (.sl (.int .i64)) (.pair (.int .i64) (.sl (.sl (.int .i64))))))) (m_0, m_1).2])]) rfl rfl ⟨⟨.inl rfl, .inl rfl, trivial⟩, trivial⟩ ⟨.inl rfl, ⟨⟨rfl, rfl⟩, rfl⟩, rfl, trivial⟩)⟩
    · have he := ok_t he hb
      have he := ok_some he
      exact ⟨rfl, _, _, (leads_ren [] (l := [(4, .c (.bool false))]) (st' := []) rfl rfl trivial ⟨.inr rfl, trivial⟩), he⟩
  · have he := ok_f he hb
    have he := ok_some he
    exact ⟨rfl, _, _, (leads_ren [] (l := [(4, .c (.bool (decide ((1:Int) ≤ (list_.length:Int)))))]) (st' := []) rfl rfl trivial ⟨.inl rfl, trivial⟩), he⟩

noncomputable def c_spec_l6Linear : Con := fun args st => match args, st with
  | [.agg [.int .i64 r__0, .imm (.int .i64) r__1, .imm (.int .i64) r__2, .int .i64 r__3, .imm (.sl (.int .i64)) r__4]], [] => .opt (Bool) (spec_l6Linear (r__0, (r__1, (r__2, (r__3, r__4))))) (fun r => .ret (.c (.bool r)) [])
  | _, _ => .fail

noncomputable def C_spec_l6Linear : Cfg := { y := tys, n := 50, h := 0, tab := [], cut := [], hand := [], good := [], deep := [], sched := [] }

theorem t_spec_l6Linear : TabOk Try.prog C_spec_l6Linear := tabOk_of (fun p h => by cases h)

theorem k_spec_l6Linear : Entry Try.prog 279 c_spec_l6Linear := by
  refine entry_by (C := C_spec_l6Linear) mixed tys_ok t_spec_l6Linear (fn := Try.f279) (c := bd Try.f279) (by kernel_rfl) (by kernel_rfl) (by kernel_rfl) (by kernel_rfl) ?_
  intro args st k he
  unfold c_spec_l6Linear at he
  split at he
  rotate_left
  · exact he.elim
  rename_i r__0 r__1 r__2 r__3 r__4
  have he : Ok (spec_l6Linear (r__0, (r__1, (r__2, (r__3, r__4))))) (fun r => k (.c (.bool r)) []) := he
  refine ⟨rfl, rfl, ?_⟩
  refine loop_model mixed tys_ok t_spec_l6Linear (S := Int) (I := (fun i => (envOf [(1, .c (.ptr 10000000 0)), (3, .c (.int .i64 i))], [(10000000, .rc [.int .i64 (r__0, (r__1, (r__2, (r__3, r__4)))).1, .imm (.int .i64) (r__0, (r__1, (r__2, (r__3, r__4)))).2.1, .imm (.int .i64) (r__0, (r__1, (r__2, (r__3, r__4)))).2.2.1, .int .i64 (r__0, (r__1, (r__2, (r__3, r__4)))).2.2.2.1, .imm (.sl (.int .i64)) (r__0, (r__1, (r__2, (r__3, r__4)))).2.2.2.2])]))) (f := spec_l6Linear_l1 (r__0, (r__1, (r__2, (r__3, r__4))))) (K := (fun r => k (.c (.bool r)) [])) he (leads_ren [(10000000, 1)] (l := [(1, .c (.ptr 10000000 0)), (3, .c (.int .i64 (0:Int)))]) (st' := [(10000000, .rc [.int .i64 (r__0, (r__1, (r__2, (r__3, r__4)))).1, .imm (.int .i64) (r__0, (r__1, (r__2, (r__3, r__4)))).2.1, .imm (.int .i64) (r__0, (r__1, (r__2, (r__3, r__4)))).2.2.1, .int .i64 (r__0, (r__1, (r__2, (r__3, r__4)))).2.2.2.1, .imm (.sl (.int .i64)) (r__0, (r__1, (r__2, (r__3, r__4)))).2.2.2.2])]) rfl rfl ⟨⟨rfl, .inl rfl, .inl rfl, rfl, .inl rfl, trivial⟩, trivial⟩ ⟨⟨⟨rfl, rfl⟩, rfl⟩, rfl, trivial⟩) ?_
  rintro i J1 he
  refine And.intro (fun hb => ?_) (fun hb => ?_)
  · have he := ok_t he hb
    have he := ok_rq he
    refine And.intro he.1 ?_
    have he := he.2
    refine And.intro (fun hb => ?_) (fun hb => ?_)
    · have he := ok_f he hb
      have he := ok_rq he
      refine And.intro he.1 ?_
      have he := he.2
      refine And.intro (fun hb => ?_) (fun hb => ?_)
      · have he := ok_f he hb
        have he := ok_rq he
        refine And.intro he.1 ?_
        have he := he.2
        refine And.intro (fun hb => ?_) (fun hb => ?_)
        · have he := ok_t he hb
          have he := ok_some he
          exact ⟨rfl, _, _, (leads_ren [] (l := [(2, .c (.bool false))]) (st' := []) rfl rfl trivial ⟨.inr rfl, trivial⟩), he⟩
        · have he := ok_f he hb
          have he := ok_rq he
          refine And.intro he.1 ?_
          have he := he.2
          have he := ok_some he
          exact ⟨(i + (1:Int)), he, (leads_ren [] (l := [(1, .c (.ptr 10000000 0)), (3, .c (.int .i64 (i + (1:Int))))]) (st' := [(10000000, .rc [.int .i64 (r__0, (r__1, (r__2, (r__3, r__4)))).1, .imm (.int .i64) (r__0, (r__1, (r__2, (r__3, r__4)))).2.1, .imm (.int .i64) (r__0, (r__1, (r__2, (r__3, r__4)))).2.2.1, .int .i64 (r__0, (r__1, (r__2, (r__3, r__4)))).2.2.2.1, .imm (.sl (.int .i64)) (r__0, (r__1, (r__2, (r__3, r__4)))).2.2.2.2])]) rfl rfl ⟨⟨rfl, .inl rfl, .inl rfl, rfl, .inl rfl, trivial⟩, trivial⟩ ⟨⟨⟨rfl, rfl⟩, rfl⟩, rfl, trivial⟩)⟩
      · have he := ok_t he hb
        have he := ok_some he
        exact ⟨rfl, _, _, (leads_ren [] (l := [(2, .c (.bool false))]) (st' := []) rfl rfl trivial ⟨.inr rfl, trivial⟩), he⟩
    · have he := ok_t he hb
      have he := ok_some he
      exact ⟨rfl, _, _, (leads_ren [] (l := [(2, .c (.bool false))]) (st' := []) rfl rfl trivial ⟨.inr rfl, trivial⟩), he⟩
  · have he := ok_f he hb
    refine And.intro (fun hb => ?_) (fun hb => ?_)
    · have he := ok_t he hb
      refine And.intro (fun hb => ?_) (fun hb => ?_)
      · have he := ok_t he hb
        have he := ok_some he
        exact ⟨rfl, _, _, (leads_ren [] (l := [(2, .c (.bool (decide ((r__0, (r__1, (r__2, (r__3, r__4)))).2.2.2.1 ≤ (1000:Int)))))]) (st' := []) rfl rfl trivial ⟨.inl rfl, trivial⟩), he⟩
      · have he := ok_f he hb
        have he := ok_some he
        exact ⟨rfl, _, _, (leads_ren [] (l := [(2, .c (.bool false))]) (st' := []) rfl rfl trivial ⟨.inr rfl, trivial⟩), he⟩
    · have he := ok_f he hb
      have he := ok_some he
      exact ⟨rfl, _, _, (leads_ren [] (l := [(2, .c (.bool false))]) (st' := []) rfl rfl trivial ⟨.inr rfl, trivial⟩), he⟩

noncomputable def c_spec_l6Table : Con := fun args st => match args, st with
  | [.agg [.int .i64 r__0, .imm (.int .i64) r__1, .imm (.int .i64) r__2, .int .i64 r__3, .imm (.sl (.int .i64)) r__4]], [] => .opt (Bool) (spec_l6Table (r__0, (r__1, (r__2, (r__3, r__4))))) (fun r => .ret (.c (.bool r)) [])
  | _, _ => .fail

noncomputable def C_spec_l6Table : Cfg := { y := tys, n := 56, h := 0, tab := [], cut := [], hand := [], good := [], deep := [], sched := [] }

theorem t_spec_l6Table : TabOk Try.prog C_spec_l6Table := tabOk_of (fun p h => by cases h)

theorem k_spec_l6Table : Entry Try.prog 280 c_spec_l6Table := by
  refine entry_by (C := C_spec_l6Table) mixed tys_ok t_spec_l6Table (fn := Try.f280) (c := bd Try.f280) (by kernel_rfl) (by kernel_rfl) (by kernel_rfl) (by kernel_rfl) ?_
  intro args st k he
  unfold c_spec_l6Table at he
  split at he
  rotate_left
  · exact he.elim
  rename_i r__0 r__1 r__2 r__3 r__4
  have he : Ok (spec_l6Table (r__0, (r__1, (r__2, (r__3, r__4))))) (fun r => k (.c (.bool r)) []) := he
  refine ⟨rfl, rfl, ?_⟩
  refine loop_model mixed tys_ok t_spec_l6Table (S := Int) (I := (fun i => (envOf [(1, .c (.ptr 10000000 0)), (3, .c (.int .i64 i))], [(10000000, .rc [.int .i64 (r__0, (r__1, (r__2, (r__3, r__4)))).1, .imm (.int .i64) (r__0, (r__1, (r__2, (r__3, r__4)))).2.1, .imm (.int .i64) (r__0, (r__1, (r__2, (r__3, r__4)))).2.2.1, .int .i64 (r__0, (r__1, (r__2, (r__3, r__4)))).2.2.2.1, .imm (.sl (.int .i64)) (r__0, (r__1, (r__2, (r__3, r__4)))).2.2.2.2])]))) (f := spec_l6Table_l1 (r__0, (r__1, (r__2, (r__3, r__4))))) (K := (fun r => k (.c (.bool r)) [])) he (leads_ren [(10000000, 1)] (l := [(1, .c (.ptr 10000000 0)), (3, .c (.int .i64 (0:Int)))]) (st' := [(10000000, .rc [.int .i64 (r__0, (r__1, (r__2, (r__3, r__4)))).1, .imm (.int .i64) (r__0, (r__1, (r__2, (r__3, r__4)))).2.1, .imm (.int .i64) (r__0, (r__1, (r__2, (r__3, r__4)))).2.2.1, .int .i64 (r__0, (r__1, (r__2, (r__3, r__4)))).2.2.2.1, .imm (.sl (.int .i64)) (r__0, (r__1, (r__2, (r__3, r__4)))).2.2.2.2])]) rfl rfl ⟨⟨rfl, .inl rfl, .inl rfl, rfl, .inl rfl, trivial⟩, trivial⟩ ⟨⟨⟨rfl, rfl⟩, rfl⟩, rfl, trivial⟩) ?_
  rintro i J1 he
  refine And.intro (fun hb => ?_) (fun hb => ?_)
  · have he := ok_t he hb
    refine And.intro (by kernel_rfl) ?_
    have he := ok_rq he
    refine And.intro he.1 ?_
    have he := he.2
    refine And.intro (fun hb => ?_) (fun hb => ?_)
    · have he := ok_t he hb
      have he := ok_some he
      exact ⟨rfl, _, _, (leads_ren [] (l := [(2, .c (.bool false))]) (st' := []) rfl rfl trivial ⟨.inr rfl, trivial⟩), he⟩
    · have he := ok_f he hb
      refine loop_model mixed tys_ok t_spec_l6Table (S := Int) (I := (fun k_ => (envOf [(1, .c (.ptr 10001000 0)), (3, .c (.int .i64 i)), (4, .c (.int .i64 k_))], [(10001000, .rc [.int .i64 (r__0, (r__1, (r__2, (r__3, r__4)))).1, .imm (.int .i64) (r__0, (r__1, (r__2, (r__3, r__4)))).2.1, .imm (.int .i64) (r__0, (r__1, (r__2, (r__3, r__4)))).2.2.1, .int .i64 (r__0, (r__1, (r__2, (r__3, r__4)))).2.2.2.1, .imm (.sl (.int .i64)) (r__0, (r__1, (r__2, (r__3, r__4)))).2.2.2.2])]))) (f := spec_l6Table_l2 (r__0, (r__1, (r__2, (r__3, r__4)))) i) (K := (LK J1 (fun r => k (.c (.bool r)) []))) he (leads_ren [(10001000, 10000000)] (l := [(1, .c (.ptr 10001000 0)), (3, .c (.int .i64 i)), (4, .c (.int .i64 (0:Int)))]) (st' := [(10001000, .rc [.int .i64 (r__0, (r__1, (r__2, (r__3, r__4)))).1, .imm (.int .i64) (r__0, (r__1, (r__2, (r__3, r__4)))).2.1, .imm (.int .i64) (r__0, (r__1, (r__2, (r__3, r__4)))).2.2.1, .int .i64 (r__0, (r__1, (r__2, (r__3, r__4)))).2.2.2.1, .imm (.sl (.int .i64)) (r__0, (r__1, (r__2, (r__3, r__4)))).2.2.2.2])]) rfl rfl ⟨⟨rfl, .inl rfl, .inl rfl, rfl, .inl rfl, trivial⟩, trivial⟩ ⟨⟨⟨rfl, rfl⟩, rfl⟩, rfl, rfl, trivial⟩) ?_
      rintro k_ J2 he
      have he := ok_rq he
      refine And.intro he.1 ?_
      have he := he.2
      refine And.intro (fun hb => ?_) (fun hb => ?_)
      · have he := ok_t he hb
        have he := ok_rq he
        refine And.intro he.1 ?_
        have he := he.2
        have he := ok_rq he
        refine And.intro he.1 ?_
        have he := he.2
        refine And.intro (fun hb => ?_) (fun hb => ?_)
        · have he := ok_f he hb
          have he := ok_rq he
          refine And.intro he.1 ?_
          have he := he.2
          have he := ok_rq he
          refine And.intro he.1 ?_
          have he := he.2
          refine And.intro (fun hb => ?_) (fun hb => ?_)
          · have he := ok_t he hb
            have he := ok_some he
            exact ⟨rfl, _, _, (leads_ren [] (l := [(2, .c (.bool false))]) (st' := []) rfl rfl trivial ⟨.inr rfl, trivial⟩), he⟩
          · have he := ok_f he hb
            have he := ok_rq he
            refine And.intro he.1 ?_
            have he := he.2
            have he := ok_some he
            exact ⟨(k_ + (1:Int)), he, (leads_ren [] (l := [(1, .c (.ptr 10001000 0)), (3, .c (.int .i64 i)), (4, .c (.int .i64 (k_ + (1:Int))))]) (st' := [(10001000, .rc [.int .i64 (r__0, (r__1, (r__2, (r__3, r__4)))).1, .imm (.int .i64) (r__0, (r__1, (r__2, (r__3, r__4)))).2.1, .imm (.int .i64) (r__0, (r__1, (r__2, (r__3, r__4)))).2.2.1, .int .i64 (r__0, (r__1, (r__2, (r__3, r__4)))).2.2.2.1, .imm (.sl (.int .i64)) (r__0, (r__1, (r__2, (r__3, r__4)))).2.2.2.2])]) rfl rfl ⟨⟨rfl, .inl rfl, .inl rfl, rfl, .inl rfl, trivial⟩, trivial⟩ ⟨⟨⟨rfl, rfl⟩, rfl⟩, rfl, rfl, trivial⟩)⟩
        · have he := ok_t he hb
          have he := ok_some he
          exact ⟨rfl, _, _, (leads_ren [] (l := [(2, .c (.bool false))]) (st' := []) rfl rfl trivial ⟨.inr rfl, trivial⟩), he⟩
      · have he := ok_f he hb
        have he := ok_rq he
        refine And.intro he.1 ?_
        have he := he.2
        have he := ok_some he
        exact ⟨(i + (1:Int)), he, (leads_ren [(10000000, 10001000)] (l := [(1, .c (.ptr 10000000 0)), (3, .c (.int .i64 (i + (1:Int))))]) (st' := [(10000000, .rc [.int .i64 (r__0, (r__1, (r__2, (r__3, r__4)))).1, .imm (.int .i64) (r__0, (r__1, (r__2, (r__3, r__4)))).2.1, .imm (.int .i64) (r__0, (r__1, (r__2, (r__3, r__4)))).2.2.1, .int .i64 (r__0, (r__1, (r__2, (r__3, r__4)))).2.2.2.1, .imm (.sl (.int .i64)) (r__0, (r__1, (r__2, (r__3, r__4)))).2.2.2.2])]) rfl rfl ⟨⟨rfl, .inl rfl, .inl rfl, rfl, .inl rfl, trivial⟩, trivial⟩ ⟨⟨⟨rfl, rfl⟩, rfl⟩, rfl, trivial⟩)⟩
  · have he := ok_f he hb
    have he := ok_some he
    exact ⟨rfl, _, _, (leads_ren [] (l := [(2, .c (.bool (decide (((r__0, (r__1, (r__2, (r__3, r__4)))).2.2.2.2.length:Int) ≤ (8:Int)))))]) (st' := []) rfl rfl trivial ⟨.inl rfl, trivial⟩), he⟩

noncomputable def c_spec_l6Rule : Con := fun args st => match args, st with
  | [.agg [.imm (.int .i64) m_0, .imm (.pair (.int .i64) (.pair (.sl (.int .i64)) (.pair (.sl (.int .i64)) (.pair (.int .i64) (.sl (.sl (.int .i64))))))) m_1], .agg [.int .i64 r__0, .imm (.int .i64) r__1, .imm (.int .i64) r__2, .int .i64 r__3, .imm (.sl (.int .i64)) r__4]], [] => .opt (Bool) (spec_l6Rule (m_0, m_1) (r__0, (r__1, (r__2, (r__3, r__4))))) (fun r => .ret (.c (.bool r)) [])
  | _, _ => .fail

noncomputable def C_spec_l6Rule : Cfg := { y := tys, n := 55, h := 0, tab := [(213, c_spec_l6Vars), (279, c_spec_l6Linear), (280, c_spec_l6Table)], cut := [3], hand := [], good := [], deep := [], sched := [] }

theorem t_spec_l6Rule : TabOk Try.prog C_spec_l6Rule := by
  refine tabOk_of ?_
  simp only [C_spec_l6Rule, List.forall_mem_cons]
  exact ⟨k_spec_l6Vars, k_spec_l6Linear, k_spec_l6Table, fun p h => by cases h⟩

theorem k_spec_l6Rule : Entry Try.prog 255 c_spec_l6Rule := by
  refine entry_by (C := C_spec_l6Rule) mixed tys_ok t_spec_l6Rule (fn := Try.f255) (c := bd Try.f255) (by kernel_rfl) (by kernel_rfl) (by kernel_rfl) (by kernel_rfl) ?_
  intro args st k he
  unfold c_spec_l6Rule at he
  split at he
  rotate_left
  · exact he.elim
  rename_i m_0 m_1 r__0 r__1 r__2 r__3 r__4
  have he : Ok (spec_l6Rule (m_0, m_1) (r__0, (r__1, (r__2, (r__3, r__4))))) (fun r => k (.c (.bool r)) []) := he
  refine ⟨rfl, rfl, ?_⟩
  refine seq_model mixed tys_ok t_spec_l6Rule (S := Unit) (I := (fun _ => (envOf [(3, .c (.ptr 10000000 0))], [(10000000, .rc [.int .i64 (r__0, (r__1, (r__2, (r__3, r__4)))).1, .imm (.int .i64) (r__0, (r__1, (r__2, (r__3, r__4)))).2.1, .imm (.int .i64) (r__0, (r__1, (r__2, (r__3, r__4)))).2.2.1, .int .i64 (r__0, (r__1, (r__2, (r__3, r__4)))).2.2.2.1, .imm (.sl (.int .i64)) (r__0, (r__1, (r__2, (r__3, r__4)))).2.2.2.2])]))) (B := fun s => Ok (spec_l6Rule_j1 (r__0, (r__1, (r__2, (r__3, r__4)))) s) (fun r => k (.c (.bool r)) [])) ?_ ?_
  · rintro ⟨⟩ he
    refine And.intro (fun hb => ?_) (fun hb => ?_)
    · have he := ok_t he hb
      obtain ⟨r2_, hr, he⟩ := ok_bind he
      refine ⟨r2_, hr, ?_⟩
      have he := ok_some he
      exact ⟨rfl, _, _, (leads_ren [] (l := [(4, .c (.bool r2_))]) (st' := []) rfl rfl trivial ⟨.inl rfl, trivial⟩), he⟩
    · have he := ok_f he hb
      refine And.intro (fun hb => ?_) (fun hb => ?_)
      · have he := ok_t he hb
        have he := ok_some he
        exact ⟨rfl, _, _, (leads_ren [] (l := [(4, .c (.bool true))]) (st' := []) rfl rfl trivial ⟨.inr rfl, trivial⟩), he⟩
      · have he := ok_f he hb
        refine And.intro (fun hb => ?_) (fun hb => ?_)
        · have he := ok_t he hb
          obtain ⟨r3_, hr, he⟩ := ok_bind he
          refine ⟨r3_, hr, ?_⟩
          have he := ok_some he
          exact ⟨rfl, _, _, (leads_ren [] (l := [(4, .c (.bool r3_))]) (st' := []) rfl rfl trivial ⟨.inl rfl, trivial⟩), he⟩
        · have he := ok_f he hb
          refine And.intro (fun hb => ?_) (fun hb => ?_)
          · have he := ok_t he hb
            have he := ok_some he
            exact ⟨rfl, _, _, (leads_ren [] (l := [(4, .c (.bool (((r__0, (r__1, (r__2, (r__3, r__4)))).2.1.length:Int) == (2:Int))))]) (st' := []) rfl rfl trivial ⟨.inl rfl, trivial⟩), he⟩
          · have he := ok_f he hb
            have he := ok_some he
            exact ⟨rfl, _, _, (leads_ren [] (l := [(4, .c (.bool false))]) (st' := []) rfl rfl trivial ⟨.inr rfl, trivial⟩), he⟩
  · skip
    obtain ⟨r1_, hr, he⟩ := ok_bind he
    refine ⟨r1_, hr, ?_⟩
    refine And.intro (fun hb => ?_) (fun hb => ?_)
    · have he := ok_f he hb
      refine And.intro (fun hb => ?_) (fun hb => ?_)
      · have he := ok_t he hb
        refine And.intro (fun hb => ?_) (fun hb => ?_)
        · have he := ok_f he hb
          refine And.intro (fun hb => ?_) (fun hb => ?_)
          · have he := ok_f he hb
            refine And.intro (fun hb => ?_) (fun hb => ?_)
            · have he := ok_t he hb
              refine And.intro (fun hb => ?_) (fun hb => ?_)
              · have he := ok_t he hb
                have he := ok_some he
                exact ⟨rfl, _, _, (leads_ren [] (l := [(4, .c (.bool false))]) (st' := []) rfl rfl trivial ⟨.inr rfl, trivial⟩), he⟩
              · have he := ok_f he hb
                exact ⟨(), he, (leads_ren [(10000000, 3)] (l := [(3, .c (.ptr 10000000 0))]) (st' := [(10000000, .rc [.int .i64 (r__0, (r__1, (r__2, (r__3, r__4)))).1, .imm (.int .i64) (r__0, (r__1, (r__2, (r__3, r__4)))).2.1, .imm (.int .i64) (r__0, (r__1, (r__2, (r__3, r__4)))).2.2.1, .int .i64 (r__0, (r__1, (r__2, (r__3, r__4)))).2.2.2.1, .imm (.sl (.int .i64)) (r__0, (r__1, (r__2, (r__3, r__4)))).2.2.2.2])]) rfl rfl ⟨⟨rfl, .inl rfl, .inl rfl, rfl, .inl rfl, trivial⟩, trivial⟩ ⟨⟨⟨rfl, rfl⟩, rfl⟩, trivial⟩)⟩
            · have he := ok_f he hb
              exact ⟨(), he, (leads_ren [(10000000, 3)] (l := [(3, .c (.ptr 10000000 0))]) (st' := [(10000000, .rc [.int .i64 (r__0, (r__1, (r__2, (r__3, r__4)))).1, .imm (.int .i64) (r__0, (r__1, (r__2, (r__3, r__4)))).2.1, .imm (.int .i64) (r__0, (r__1, (r__2, (r__3, r__4)))).2.2.1, .int .i64 (r__0, (r__1, (r__2, (r__3, r__4)))).2.2.2.1, .imm (.sl (.int .i64)) (r__0, (r__1, (r__2, (r__3, r__4)))).2.2.2.2])]) rfl rfl ⟨⟨rfl, .inl rfl, .inl rfl, rfl, .inl rfl, trivial⟩, trivial⟩ ⟨⟨⟨rfl, rfl⟩, rfl⟩, trivial⟩)⟩
          · have he := ok_t he hb
            have he := ok_some he
            exact ⟨rfl, _, _, (leads_ren [] (l := [(4, .c (.bool false))]) (st' := []) rfl rfl trivial ⟨.inr rfl, trivial⟩), he⟩
        · have he := ok_t he hb
          have he := ok_some he
          exact ⟨rfl, _, _, (leads_ren [] (l := [(4, .c (.bool false))]) (st' := []) rfl rfl trivial ⟨.inr rfl, trivial⟩), he⟩
      · have he := ok_f he hb
        refine And.intro (fun hb => ?_) (fun hb => ?_)
        · have he := ok_t he hb
          refine And.intro (fun hb => ?_) (fun hb => ?_)
          · have he := ok_t he hb
            have he := ok_some he
            exact ⟨rfl, _, _, (leads_ren [] (l := [(4, .c (.bool false))]) (st' := []) rfl rfl trivial ⟨.inr rfl, trivial⟩), he⟩
          · have he := ok_f he hb
            exact ⟨(), he, (leads_ren [(10000000, 3)] (l := [(3, .c (.ptr 10000000 0))]) (st' := [(10000000, .rc [.int .i64 (r__0, (r__1, (r__2, (r__3, r__4)))).1, .imm (.int .i64) (r__0, (r__1, (r__2, (r__3, r__4)))).2.1, .imm (.int .i64) (r__0, (r__1, (r__2, (r__3, r__4)))).2.2.1, .int .i64 (r__0, (r__1, (r__2, (r__3, r__4)))).2.2.2.1, .imm (.sl (.int .i64)) (r__0, (r__1, (r__2, (r__3, r__4)))).2.2.2.2])]) rfl rfl ⟨⟨rfl, .inl rfl, .inl rfl, rfl, .inl rfl, trivial⟩, trivial⟩ ⟨⟨⟨rfl, rfl⟩, rfl⟩, trivial⟩)⟩
        · have he := ok_f he hb
          exact ⟨(), he, (leads_ren [(10000000, 3)] (l := [(3, .c (.ptr 10000000 0))]) (st' := [(10000000, .rc [.int .i64 (r__0, (r__1, (r__2, (r__3, r__4)))).1, .imm (.int .i64) (r__0, (r__1, (r__2, (r__3, r__4)))).2.1, .imm (.int .i64) (r__0, (r__1, (r__2, (r__3, r__4)))).2.2.1, .int .i64 (r__0, (r__1, (r__2, (r__3, r__4)))).2.2.2.1, .imm (.sl (.int .i64)) (r__0, (r__1, (r__2, (r__3, r__4)))).2.2.2.2])]) rfl rfl ⟨⟨rfl, .inl rfl, .inl rfl, rfl, .inl rfl, trivial⟩, trivial⟩ ⟨⟨⟨rfl, rfl⟩, rfl⟩, trivial⟩)⟩
    · have he := ok_t he hb
      have he := ok_some he
      exact ⟨rfl, _, _, (leads_ren [] (l := [(4, .c (.bool false))]) (st' := []) rfl rfl trivial ⟨.inr rfl, trivial⟩), he⟩

end Go.AE.Y
