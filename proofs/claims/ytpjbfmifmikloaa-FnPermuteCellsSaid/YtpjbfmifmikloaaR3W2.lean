/-
  Walks: each function keeps the contract that its model gives. No conditions.
-/
import Derived.Test.YtpjbfmifmikloaaR3Tab
import Derived.Test.YtpjbfmifmikloaaR3W1
namespace Go.AE.Y
open Go Go.AE Go.Proofs
set_option linter.unusedVariables false
set_option maxHeartbeats 2000000
set_option maxRecDepth 100000

noncomputable def c_slices_ContainsFunc_int__impl_ruleValid_2_1 : Con := fun args st => match args, st with
  | [.c (.imm (.int .i64) s_), .c (.fn 189 [])], [] => .opt (Bool) (slices_ContainsFunc_int__impl_ruleValid_2_1 s_) (fun r => .ret (.c (.bool r)) [])
  | _, _ => .fail

noncomputable def C_slices_ContainsFunc_int__impl_ruleValid_2_1 : Cfg := { y := tys, n := 9, h := 0, tab := [(151, c_slices_IndexFunc_int__impl_ruleValid_2_1)], cut := [], hand := [], good := [], deep := [], sched := [] }

theorem t_slices_ContainsFunc_int__impl_ruleValid_2_1 : TabOk Try.prog C_slices_ContainsFunc_int__impl_ruleValid_2_1 := by
  refine tabOk_of ?_
  simp only [C_slices_ContainsFunc_int__impl_ruleValid_2_1, List.forall_mem_cons]
  exact ⟨k_slices_IndexFunc_int__impl_ruleValid_2_1, fun p h => by cases h⟩

theorem k_slices_ContainsFunc_int__impl_ruleValid_2_1 : Entry Try.prog 91 c_slices_ContainsFunc_int__impl_ruleValid_2_1 := by
  refine entry_by (C := C_slices_ContainsFunc_int__impl_ruleValid_2_1) mixed tys_ok t_slices_ContainsFunc_int__impl_ruleValid_2_1 (fn := Try.f91) (c := bd Try.f91) (by kernel_rfl) (by kernel_rfl) (by kernel_rfl) (by kernel_rfl) ?_
  intro args st k he
  unfold c_slices_ContainsFunc_int__impl_ruleValid_2_1 at he
  split at he
  rotate_left
  · exact he.elim
  rename_i s_
  have he : Ok (slices_ContainsFunc_int__impl_ruleValid_2_1 s_) (fun r => k (.c (.bool r)) []) := he
  refine ⟨rfl, rfl, ?_⟩
  obtain ⟨r1_, hr, he⟩ := ok_bind he
  refine ⟨r1_, hr, ?_⟩
  have he := ok_some he
  exact ⟨rfl, _, _, Leads.refl _ _, he⟩

noncomputable def c_impl_ruleValid_2 : Con := fun args st => match args, st with
  | [.c (.imm (.int .i64) row), .c (.ptr 0 0)], [(0, .rc [.int .i64 o0_0, .imm (.int .i64) o0_1, .imm (.int .i64) o0_2, .int .i64 o0_3, .imm (.sl (.int .i64)) o0_4])] => .opt (Bool) (impl_ruleValid_2 row (o0_0, (o0_1, (o0_2, (o0_3, o0_4))))) (fun r => .ret (.c (.bool r)) [(0, .rc [.int .i64 o0_0, .imm (.int .i64) o0_1, .imm (.int .i64) o0_2, .int .i64 o0_3, .imm (.sl (.int .i64)) o0_4])])
  | _, _ => .fail

noncomputable def C_impl_ruleValid_2 : Cfg := { y := tys, n := 14, h := 1, tab := [(91, c_slices_ContainsFunc_int__impl_ruleValid_2_1)], cut := [], hand := [], good := [], deep := [], sched := [] }

theorem t_impl_ruleValid_2 : TabOk Try.prog C_impl_ruleValid_2 := by
  refine tabOk_of ?_
  simp only [C_impl_ruleValid_2, List.forall_mem_cons]
  exact ⟨k_slices_ContainsFunc_int__impl_ruleValid_2_1, fun p h => by cases h⟩

theorem k_impl_ruleValid_2 : Entry Try.prog 188 c_impl_ruleValid_2 := by
  refine entry_by (C := C_impl_ruleValid_2) mixed tys_ok t_impl_ruleValid_2 (fn := Try.f188) (c := bd Try.f188) (by kernel_rfl) (by kernel_rfl) (by kernel_rfl) (by kernel_rfl) ?_
  intro args st k he
  unfold c_impl_ruleValid_2 at he
  split at he
  rotate_left
  · exact he.elim
  rename_i row o0_0 o0_1 o0_2 o0_3 o0_4
  have he : Ok (impl_ruleValid_2 row (o0_0, (o0_1, (o0_2, (o0_3, o0_4))))) (fun r => k (.c (.bool r)) [(0, .rc [.int .i64 o0_0, .imm (.int .i64) o0_1, .imm (.int .i64) o0_2, .int .i64 o0_3, .imm (.sl (.int .i64)) o0_4])]) := he
  refine ⟨rfl, rfl, ?_⟩
  refine And.intro (fun hb => ?_) (fun hb => ?_)
  · have he := ok_f he hb
    obtain ⟨r1_, hr, he⟩ := ok_bind he
    refine ⟨r1_, hr, ?_⟩
    have he := ok_some he
    exact ⟨rfl, _, _, (leads_ren [] (l := [(3, .c (.bool r1_))]) (st' := [(0, .rc [.int .i64 o0_0, .imm (.int .i64) o0_1, .imm (.int .i64) o0_2, .int .i64 o0_3, .imm (.sl (.int .i64)) o0_4])]) rfl rfl ⟨⟨rfl, .inl rfl, .inl rfl, rfl, .inl rfl, trivial⟩, trivial⟩ ⟨.inl rfl, trivial⟩), he⟩
  · have he := ok_t he hb
    have he := ok_some he
    exact ⟨rfl, _, _, (leads_ren [] (l := [(3, .c (.bool true))]) (st' := [(0, .rc [.int .i64 o0_0, .imm (.int .i64) o0_1, .imm (.int .i64) o0_2, .int .i64 o0_3, .imm (.sl (.int .i64)) o0_4])]) rfl rfl ⟨⟨rfl, .inl rfl, .inl rfl, rfl, .inl rfl, trivial⟩, trivial⟩ ⟨.inr rfl, trivial⟩), he⟩

noncomputable def c_slices_IndexFunc_s_int__impl_ruleValid_2 : Con := fun args st => match args, st with
  | [.c (.imm (.sl (.int .i64)) s_), .c (.fn 188 [0])], [(0, .rc [.int .i64 o0_0, .imm (.int .i64) o0_1, .imm (.int .i64) o0_2, .int .i64 o0_3, .imm (.sl (.int .i64)) o0_4])] => .opt (Int) (slices_IndexFunc_s_int__impl_ruleValid_2 s_ (o0_0, (o0_1, (o0_2, (o0_3, o0_4))))) (fun r => .ret (.c (.int .i64 r)) [(0, .rc [.int .i64 o0_0, .imm (.int .i64) o0_1, .imm (.int .i64) o0_2, .int .i64 o0_3, .imm (.sl (.int .i64)) o0_4])])
  | _, _ => .fail

noncomputable def C_slices_IndexFunc_s_int__impl_ruleValid_2 : Cfg := { y := tys, n := 19, h := 1, tab := [(188, c_impl_ruleValid_2)], cut := [], hand := [], good := [], deep := [], sched := [] }

theorem t_slices_IndexFunc_s_int__impl_ruleValid_2 : TabOk Try.prog C_slices_IndexFunc_s_int__impl_ruleValid_2 := by
  refine tabOk_of ?_
  simp only [C_slices_IndexFunc_s_int__impl_ruleValid_2, List.forall_mem_cons]
  exact ⟨k_impl_ruleValid_2, fun p h => by cases h⟩

theorem k_slices_IndexFunc_s_int__impl_ruleValid_2 : Entry Try.prog 197 c_slices_IndexFunc_s_int__impl_ruleValid_2 := by
  refine entry_by (C := C_slices_IndexFunc_s_int__impl_ruleValid_2) mixed tys_ok t_slices_IndexFunc_s_int__impl_ruleValid_2 (fn := Try.f197) (c := bd Try.f197) (by kernel_rfl) (by kernel_rfl) (by kernel_rfl) (by kernel_rfl) ?_
  intro args st k he
  unfold c_slices_IndexFunc_s_int__impl_ruleValid_2 at he
  split at he
  rotate_left
  · exact he.elim
  rename_i s_ o0_0 o0_1 o0_2 o0_3 o0_4
  have he : Ok (slices_IndexFunc_s_int__impl_ruleValid_2 s_ (o0_0, (o0_1, (o0_2, (o0_3, o0_4))))) (fun r => k (.c (.int .i64 r)) [(0, .rc [.int .i64 o0_0, .imm (.int .i64) o0_1, .imm (.int .i64) o0_2, .int .i64 o0_3, .imm (.sl (.int .i64)) o0_4])]) := he
  refine ⟨rfl, rfl, ?_⟩
  refine loop_model mixed tys_ok t_slices_IndexFunc_s_int__impl_ruleValid_2 (S := Int) (I := (fun i => (envOf [(0, .c (.imm (.sl (.int .i64)) s_)), (1, .c (.fn 188 [0])), (7, .c (.int .i64 (s_.length:Int))), (8, .c (.int .i64 i))], [(0, .rc [.int .i64 (o0_0, (o0_1, (o0_2, (o0_3, o0_4)))).1, .imm (.int .i64) (o0_0, (o0_1, (o0_2, (o0_3, o0_4)))).2.1, .imm (.int .i64) (o0_0, (o0_1, (o0_2, (o0_3, o0_4)))).2.2.1, .int .i64 (o0_0, (o0_1, (o0_2, (o0_3, o0_4)))).2.2.2.1, .imm (.sl (.int .i64)) (o0_0, (o0_1, (o0_2, (o0_3, o0_4)))).2.2.2.2])]))) (f := slices_IndexFunc_s_int__impl_ruleValid_2_l1 s_ (o0_0, (o0_1, (o0_2, (o0_3, o0_4))))) (K := (fun r => k (.c (.int .i64 r)) [(0, .rc [.int .i64 o0_0, .imm (.int .i64) o0_1, .imm (.int .i64) o0_2, .int .i64 o0_3, .imm (.sl (.int .i64)) o0_4])])) he (leads_ren [] (l := [(0, .c (.imm (.sl (.int .i64)) s_)), (1, .c (.fn 188 [0])), (7, .c (.int .i64 (s_.length:Int))), (8, .c (.int .i64 (0:Int)))]) (st' := [(0, .rc [.int .i64 (o0_0, (o0_1, (o0_2, (o0_3, o0_4)))).1, .imm (.int .i64) (o0_0, (o0_1, (o0_2, (o0_3, o0_4)))).2.1, .imm (.int .i64) (o0_0, (o0_1, (o0_2, (o0_3, o0_4)))).2.2.1, .int .i64 (o0_0, (o0_1, (o0_2, (o0_3, o0_4)))).2.2.2.1, .imm (.sl (.int .i64)) (o0_0, (o0_1, (o0_2, (o0_3, o0_4)))).2.2.2.2])]) rfl rfl ⟨⟨rfl, .inl rfl, .inl rfl, rfl, .inl rfl, trivial⟩, trivial⟩ ⟨.inl rfl, ⟨rfl, ⟨⟨rfl, rfl⟩, trivial⟩⟩, rfl, rfl, trivial⟩) ?_
  rintro i J1 he
  refine And.intro (fun hb => ?_) (fun hb => ?_)
  · have he := ok_t he hb
    have he := ok_rq he
    refine And.intro he.1 ?_
    have he := he.2
    obtain ⟨r1_, hr, he⟩ := ok_bind he
    refine ⟨r1_, hr, ?_⟩
    refine And.intro (fun hb => ?_) (fun hb => ?_)
    · have he := ok_t he hb
      have he := ok_some he
      exact ⟨rfl, _, _, (leads_ren [] (l := [(4, .c (.int .i64 i))]) (st' := [(0, .rc [.int .i64 o0_0, .imm (.int .i64) o0_1, .imm (.int .i64) o0_2, .int .i64 o0_3, .imm (.sl (.int .i64)) o0_4])]) rfl rfl ⟨⟨rfl, .inl rfl, .inl rfl, rfl, .inl rfl, trivial⟩, trivial⟩ ⟨rfl, trivial⟩), he⟩
    · have he := ok_f he hb
      have he := ok_rq he
      refine And.intro he.1 ?_
      have he := he.2
      have he := ok_some he
      exact ⟨(i + (1:Int)), he, (leads_ren [] (l := [(0, .c (.imm (.sl (.int .i64)) s_)), (1, .c (.fn 188 [0])), (7, .c (.int .i64 (s_.length:Int))), (8, .c (.int .i64 (i + (1:Int))))]) (st' := [(0, .rc [.int .i64 (o0_0, (o0_1, (o0_2, (o0_3, o0_4)))).1, .imm (.int .i64) (o0_0, (o0_1, (o0_2, (o0_3, o0_4)))).2.1, .imm (.int .i64) (o0_0, (o0_1, (o0_2, (o0_3, o0_4)))).2.2.1, .int .i64 (o0_0, (o0_1, (o0_2, (o0_3, o0_4)))).2.2.2.1, .imm (.sl (.int .i64)) (o0_0, (o0_1, (o0_2, (o0_3, o0_4)))).2.2.2.2])]) rfl rfl ⟨⟨rfl, .inl rfl, .inl rfl, rfl, .inl rfl, trivial⟩, trivial⟩ ⟨.inl rfl, ⟨rfl, ⟨⟨rfl, rfl⟩, trivial⟩⟩, rfl, rfl, trivial⟩)⟩
  · have he := ok_f he hb
    have he := ok_some he
    exact ⟨rfl, _, _, (leads_ren [] (l := [(4, .c (.int .i64 (-1:Int)))]) (st' := [(0, .rc [.int .i64 o0_0, .imm (.int .i64) o0_1, .imm (.int .i64) o0_2, .int .i64 o0_3, .imm (.sl (.int .i64)) o0_4])]) rfl rfl ⟨⟨rfl, .inl rfl, .inl rfl, rfl, .inl rfl, trivial⟩, trivial⟩ ⟨rfl, trivial⟩), he⟩

noncomputable def c_slices_ContainsFunc_s_int__impl_ruleValid_2 : Con := fun args st => match args, st with
  | [.c (.imm (.sl (.int .i64)) s_), .c (.fn 188 [0])], [(0, .rc [.int .i64 o0_0, .imm (.int .i64) o0_1, .imm (.int .i64) o0_2, .int .i64 o0_3, .imm (.sl (.int .i64)) o0_4])] => .opt (Bool) (slices_ContainsFunc_s_int__impl_ruleValid_2 s_ (o0_0, (o0_1, (o0_2, (o0_3, o0_4))))) (fun r => .ret (.c (.bool r)) [(0, .rc [.int .i64 o0_0, .imm (.int .i64) o0_1, .imm (.int .i64) o0_2, .int .i64 o0_3, .imm (.sl (.int .i64)) o0_4])])
  | _, _ => .fail

noncomputable def C_slices_ContainsFunc_s_int__impl_ruleValid_2 : Cfg := { y := tys, n := 9, h := 1, tab := [(197, c_slices_IndexFunc_s_int__impl_ruleValid_2)], cut := [], hand := [], good := [], deep := [], sched := [] }

theorem t_slices_ContainsFunc_s_int__impl_ruleValid_2 : TabOk Try.prog C_slices_ContainsFunc_s_int__impl_ruleValid_2 := by
  refine tabOk_of ?_
  simp only [C_slices_ContainsFunc_s_int__impl_ruleValid_2, List.forall_mem_cons]
  exact ⟨k_slices_IndexFunc_s_int__impl_ruleValid_2, fun p h => by cases h⟩

theorem k_slices_ContainsFunc_s_int__impl_ruleValid_2 : Entry Try.prog 187 c_slices_ContainsFunc_s_int__impl_ruleValid_2 := by
  refine entry_by (C := C_slices_ContainsFunc_s_int__impl_ruleValid_2) mixed tys_ok t_slices_ContainsFunc_s_int__impl_ruleValid_2 (fn := Try.f187) (c := bd Try.f187) (by kernel_rfl) (by kernel_rfl) (by kernel_rfl) (by kernel_rfl) ?_
  intro args st k he
  unfold c_slices_ContainsFunc_s_int__impl_ruleValid_2 at he
  split at he
  rotate_left
  · exact he.elim
  rename_i s_ o0_0 o0_1 o0_2 o0_3 o0_4
  have he : Ok (slices_ContainsFunc_s_int__impl_ruleValid_2 s_ (o0_0, (o0_1, (o0_2, (o0_3, o0_4))))) (fun r => k (.c (.bool r)) [(0, .rc [.int .i64 o0_0, .imm (.int .i64) o0_1, .imm (.int .i64) o0_2, .int .i64 o0_3, .imm (.sl (.int .i64)) o0_4])]) := he
  refine ⟨rfl, rfl, ?_⟩
  obtain ⟨r1_, hr, he⟩ := ok_bind he
  refine ⟨r1_, hr, ?_⟩
  have he := ok_some he
  exact ⟨rfl, _, _, (leads_ren [] (l := [(4, .c (.bool (decide ((0:Int) ≤ r1_))))]) (st' := [(0, .rc [.int .i64 o0_0, .imm (.int .i64) o0_1, .imm (.int .i64) o0_2, .int .i64 o0_3, .imm (.sl (.int .i64)) o0_4])]) rfl rfl ⟨⟨rfl, .inl rfl, .inl rfl, rfl, .inl rfl, trivial⟩, trivial⟩ ⟨.inl rfl, trivial⟩), he⟩

noncomputable def c_impl_ruleValid : Con := fun args st => match args, st with
  | [.agg [.int .i64 a0_0, .imm (.int .i64) a0_1, .imm (.int .i64) a0_2, .int .i64 a0_3, .imm (.sl (.int .i64)) a0_4], .c (.int .i64 a1)], [] => .opt (Bool) (impl_ruleValid (a0_0, (a0_1, (a0_2, (a0_3, a0_4)))) a1) (fun r => .ret (.c (.bool r)) [])
  | _, _ => .fail

noncomputable def C_impl_ruleValid : Cfg := { y := tys, n := 104, h := 0, tab := [(91, c_slices_ContainsFunc_int__impl_ruleValid_1), (101, c_impl_within), (102, c_slices_Contains_int), (187, c_slices_ContainsFunc_s_int__impl_ruleValid_2)], cut := [9], hand := [], good := [], deep := [], sched := [] }

theorem t_impl_ruleValid : TabOk Try.prog C_impl_ruleValid := by
  refine tabOk_of ?_
  simp only [C_impl_ruleValid, List.forall_mem_cons]
  exact ⟨k_slices_ContainsFunc_int__impl_ruleValid_1, k_impl_within, k_slices_Contains_int, k_slices_ContainsFunc_s_int__impl_ruleValid_2, fun p h => by cases h⟩

theorem k_impl_ruleValid : Entry Try.prog 158 c_impl_ruleValid := by
  refine entry_by (C := C_impl_ruleValid) mixed tys_ok t_impl_ruleValid (fn := Try.f158) (c := bd Try.f158) (by kernel_rfl) (by kernel_rfl) (by kernel_rfl) (by kernel_rfl) ?_
  intro args st k he
  unfold c_impl_ruleValid at he
  split at he
  rotate_left
  · exact he.elim
  rename_i a0_0 a0_1 a0_2 a0_3 a0_4 a1
  have he : Ok (impl_ruleValid (a0_0, (a0_1, (a0_2, (a0_3, a0_4)))) a1) (fun r => k (.c (.bool r)) []) := he
  refine ⟨rfl, rfl, ?_⟩
  refine loop_model mixed tys_ok t_impl_ruleValid (S := Int) (I := (fun i => (envOf [(1, .c (.int .i64 a1)), (2, .c (.ptr 10000000 0)), (8, .c (.imm (.int .i64) (a0_0, (a0_1, (a0_2, (a0_3, a0_4)))).2.1)), (9, .c (.int .i64 ((a0_0, (a0_1, (a0_2, (a0_3, a0_4)))).2.1.length:Int))), (10, .c (.int .i64 i))], [(10000000, .rc [.int .i64 (a0_0, (a0_1, (a0_2, (a0_3, a0_4)))).1, .imm (.int .i64) (a0_0, (a0_1, (a0_2, (a0_3, a0_4)))).2.1, .imm (.int .i64) (a0_0, (a0_1, (a0_2, (a0_3, a0_4)))).2.2.1, .int .i64 (a0_0, (a0_1, (a0_2, (a0_3, a0_4)))).2.2.2.1, .imm (.sl (.int .i64)) (a0_0, (a0_1, (a0_2, (a0_3, a0_4)))).2.2.2.2])]))) (f := impl_ruleValid_l1 (a0_0, (a0_1, (a0_2, (a0_3, a0_4)))) a1) (K := (fun r => k (.c (.bool r)) [])) he (leads_ren [(10000000, 2)] (l := [(1, .c (.int .i64 a1)), (2, .c (.ptr 10000000 0)), (8, .c (.imm (.int .i64) (a0_0, (a0_1, (a0_2, (a0_3, a0_4)))).2.1)), (9, .c (.int .i64 ((a0_0, (a0_1, (a0_2, (a0_3, a0_4)))).2.1.length:Int))), (10, .c (.int .i64 (0:Int)))]) (st' := [(10000000, .rc [.int .i64 (a0_0, (a0_1, (a0_2, (a0_3, a0_4)))).1, .imm (.int .i64) (a0_0, (a0_1, (a0_2, (a0_3, a0_4)))).2.1, .imm (.int .i64) (a0_0, (a0_1, (a0_2, (a0_3, a0_4)))).2.2.1, .int .i64 (a0_0, (a0_1, (a0_2, (a0_3, a0_4)))).2.2.2.1, .imm (.sl (.int .i64)) (a0_0, (a0_1, (a0_2, (a0_3, a0_4)))).2.2.2.2])]) rfl rfl ⟨⟨rfl, .inl rfl, .inl rfl, rfl, .inl rfl, trivial⟩, trivial⟩ ⟨rfl, ⟨⟨rfl, rfl⟩, rfl⟩, .inl rfl, rfl, rfl, trivial⟩) ?_
  rintro i J1 he
  refine And.intro (fun hb => ?_) (fun hb => ?_)
  · have he := ok_t he hb
    have he := ok_rq he
    refine And.intro he.1 ?_
    have he := he.2
    have he := ok_rq he
    refine And.intro he.1 ?_
    have he := he.2
    obtain ⟨r1_, hr, he⟩ := ok_bind he
    refine ⟨r1_, hr, ?_⟩
    refine And.intro (fun hb => ?_) (fun hb => ?_)
    · have he := ok_f he hb
      have he := ok_rq he
      refine And.intro he.1 ?_
      have he := he.2
      obtain ⟨r2_, hr, he⟩ := ok_bind he
      refine ⟨r2_, hr, ?_⟩
      refine And.intro (fun hb => ?_) (fun hb => ?_)
      · have he := ok_t he hb
        have he := ok_some he
        exact ⟨rfl, _, _, (leads_ren [] (l := [(4, .c (.bool false))]) (st' := []) rfl rfl trivial ⟨.inr rfl, trivial⟩), he⟩
      · have he := ok_f he hb
        have he := ok_rq he
        refine And.intro he.1 ?_
        have he := he.2
        have he := ok_some he
        exact ⟨(i + (1:Int)), he, (leads_ren [] (l := [(1, .c (.int .i64 a1)), (2, .c (.ptr 10000000 0)), (8, .c (.imm (.int .i64) (a0_0, (a0_1, (a0_2, (a0_3, a0_4)))).2.1)), (9, .c (.int .i64 ((a0_0, (a0_1, (a0_2, (a0_3, a0_4)))).2.1.length:Int))), (10, .c (.int .i64 (i + (1:Int))))]) (st' := [(10000000, .rc [.int .i64 (a0_0, (a0_1, (a0_2, (a0_3, a0_4)))).1, .imm (.int .i64) (a0_0, (a0_1, (a0_2, (a0_3, a0_4)))).2.1, .imm (.int .i64) (a0_0, (a0_1, (a0_2, (a0_3, a0_4)))).2.2.1, .int .i64 (a0_0, (a0_1, (a0_2, (a0_3, a0_4)))).2.2.2.1, .imm (.sl (.int .i64)) (a0_0, (a0_1, (a0_2, (a0_3, a0_4)))).2.2.2.2])]) rfl rfl ⟨⟨rfl, .inl rfl, .inl rfl, rfl, .inl rfl, trivial⟩, trivial⟩ ⟨rfl, ⟨⟨rfl, rfl⟩, rfl⟩, .inl rfl, rfl, rfl, trivial⟩)⟩
    · have he := ok_t he hb
      have he := ok_some he
      exact ⟨rfl, _, _, (leads_ren [] (l := [(4, .c (.bool false))]) (st' := []) rfl rfl trivial ⟨.inr rfl, trivial⟩), he⟩
  · have he := ok_f he hb
    refine seq_model mixed tys_ok t_impl_ruleValid (S := Unit) (I := (fun _ => (envOf [(2, .c (.ptr 10001000 0))], [(10001000, .rc [.int .i64 (a0_0, (a0_1, (a0_2, (a0_3, a0_4)))).1, .imm (.int .i64) (a0_0, (a0_1, (a0_2, (a0_3, a0_4)))).2.1, .imm (.int .i64) (a0_0, (a0_1, (a0_2, (a0_3, a0_4)))).2.2.1, .int .i64 (a0_0, (a0_1, (a0_2, (a0_3, a0_4)))).2.2.2.1, .imm (.sl (.int .i64)) (a0_0, (a0_1, (a0_2, (a0_3, a0_4)))).2.2.2.2])]))) (B := fun s => Ok (impl_ruleValid_j1 (a0_0, (a0_1, (a0_2, (a0_3, a0_4)))) s) (LK J1 (fun r => k (.c (.bool r)) []))) ?_ ?_
    · rintro ⟨⟩ he
      refine And.intro (fun hb => ?_) (fun hb => ?_)
      · have he := ok_t he hb
        refine And.intro (fun hb => ?_) (fun hb => ?_)
        · have he := ok_t he hb
          obtain ⟨r3_, hr, he⟩ := ok_bind he
          refine ⟨r3_, hr, ?_⟩
          refine And.intro (fun hb => ?_) (fun hb => ?_)
          · have he := ok_t he hb
            obtain ⟨r4_, hr, he⟩ := ok_bind he
            refine ⟨r4_, hr, ?_⟩
            have he := ok_some he
            exact ⟨rfl, _, _, (leads_ren [] (l := [(4, .c (.bool (!r4_)))]) (st' := []) rfl rfl trivial ⟨.inl rfl, trivial⟩), he⟩
          · have he := ok_f he hb
            have he := ok_some he
            exact ⟨rfl, _, _, (leads_ren [] (l := [(4, .c (.bool false))]) (st' := []) rfl rfl trivial ⟨.inr rfl, trivial⟩), he⟩
        · have he := ok_f he hb
          have he := ok_some he
          exact ⟨rfl, _, _, (leads_ren [] (l := [(4, .c (.bool false))]) (st' := []) rfl rfl trivial ⟨.inr rfl, trivial⟩), he⟩
      · have he := ok_f he hb
        refine And.intro (fun hb => ?_) (fun hb => ?_)
        · have he := ok_t he hb
          refine And.intro (fun hb => ?_) (fun hb => ?_)
          · have he := ok_t he hb
            obtain ⟨r5_, hr, he⟩ := ok_bind he
            refine ⟨r5_, hr, ?_⟩
            have he := ok_some he
            exact ⟨rfl, _, _, (leads_ren [] (l := [(4, .c (.bool (!r5_)))]) (st' := []) rfl rfl trivial ⟨.inl rfl, trivial⟩), he⟩
          · have he := ok_f he hb
            have he := ok_some he
            exact ⟨rfl, _, _, (leads_ren [] (l := [(4, .c (.bool false))]) (st' := []) rfl rfl trivial ⟨.inr rfl, trivial⟩), he⟩
        · have he := ok_f he hb
          refine And.intro (fun hb => ?_) (fun hb => ?_)
          · have he := ok_t he hb
            have he := ok_some he
            exact ⟨rfl, _, _, (leads_ren [] (l := [(4, .c (.bool (((a0_0, (a0_1, (a0_2, (a0_3, a0_4)))).2.1.length:Int) == (2:Int))))]) (st' := []) rfl rfl trivial ⟨.inl rfl, trivial⟩), he⟩
          · have he := ok_f he hb
            have he := ok_some he
            exact ⟨rfl, _, _, (leads_ren [] (l := [(4, .c (.bool ((a0_0, (a0_1, (a0_2, (a0_3, a0_4)))).1 == (2:Int))))]) (st' := []) rfl rfl trivial ⟨.inl rfl, trivial⟩), he⟩
    · skip
      refine And.intro (fun hb => ?_) (fun hb => ?_)
      · have he := ok_f he hb
        refine And.intro (fun hb => ?_) (fun hb => ?_)
        · have he := ok_t he hb
          refine And.intro (fun hb => ?_) (fun hb => ?_)
          · have he := ok_f he hb
            refine And.intro (fun hb => ?_) (fun hb => ?_)
            · have he := ok_f he hb
              refine And.intro (fun hb => ?_) (fun hb => ?_)
              · have he := ok_t he hb
                refine And.intro (fun hb => ?_) (fun hb => ?_)
                · have he := ok_t he hb
                  have he := ok_some he
                  exact ⟨rfl, _, _, (leads_ren [] (l := [(4, .c (.bool false))]) (st' := []) rfl rfl trivial ⟨.inr rfl, trivial⟩), he⟩
                · have he := ok_f he hb
                  exact ⟨(), he, (leads_ren [(10001000, 10000000)] (l := [(2, .c (.ptr 10001000 0))]) (st' := [(10001000, .rc [.int .i64 (a0_0, (a0_1, (a0_2, (a0_3, a0_4)))).1, .imm (.int .i64) (a0_0, (a0_1, (a0_2, (a0_3, a0_4)))).2.1, .imm (.int .i64) (a0_0, (a0_1, (a0_2, (a0_3, a0_4)))).2.2.1, .int .i64 (a0_0, (a0_1, (a0_2, (a0_3, a0_4)))).2.2.2.1, .imm (.sl (.int .i64)) (a0_0, (a0_1, (a0_2, (a0_3, a0_4)))).2.2.2.2])]) rfl rfl ⟨⟨rfl, .inl rfl, .inl rfl, rfl, .inl rfl, trivial⟩, trivial⟩ ⟨⟨⟨rfl, rfl⟩, rfl⟩, trivial⟩)⟩
              · have he := ok_f he hb
                exact ⟨(), he, (leads_ren [(10001000, 10000000)] (l := [(2, .c (.ptr 10001000 0))]) (st' := [(10001000, .rc [.int .i64 (a0_0, (a0_1, (a0_2, (a0_3, a0_4)))).1, .imm (.int .i64) (a0_0, (a0_1, (a0_2, (a0_3, a0_4)))).2.1, .imm (.int .i64) (a0_0, (a0_1, (a0_2, (a0_3, a0_4)))).2.2.1, .int .i64 (a0_0, (a0_1, (a0_2, (a0_3, a0_4)))).2.2.2.1, .imm (.sl (.int .i64)) (a0_0, (a0_1, (a0_2, (a0_3, a0_4)))).2.2.2.2])]) rfl rfl ⟨⟨rfl, .inl rfl, .inl rfl, rfl, .inl rfl, trivial⟩, trivial⟩ ⟨⟨⟨rfl, rfl⟩, rfl⟩, trivial⟩)⟩
            · have he := ok_t he hb
              have he := ok_some he
              exact ⟨rfl, _, _, (leads_ren [] (l := [(4, .c (.bool false))]) (st' := []) rfl rfl trivial ⟨.inr rfl, trivial⟩), he⟩
          · have he := ok_t he hb
            have he := ok_some he
            exact ⟨rfl, _, _, (leads_ren [] (l := [(4, .c (.bool false))]) (st' := []) rfl rfl trivial ⟨.inr rfl, trivial⟩), he⟩
        · have he := ok_f he hb
          refine And.intro (fun hb => ?_) (fun hb => ?_)
          · have he := ok_t he hb
            refine And.intro (fun hb => ?_) (fun hb => ?_)
            · have he := ok_t he hb
              have he := ok_some he
              exact ⟨rfl, _, _, (leads_ren [] (l := [(4, .c (.bool false))]) (st' := []) rfl rfl trivial ⟨.inr rfl, trivial⟩), he⟩
            · have he := ok_f he hb
              exact ⟨(), he, (leads_ren [(10001000, 10000000)] (l := [(2, .c (.ptr 10001000 0))]) (st' := [(10001000, .rc [.int .i64 (a0_0, (a0_1, (a0_2, (a0_3, a0_4)))).1, .imm (.int .i64) (a0_0, (a0_1, (a0_2, (a0_3, a0_4)))).2.1, .imm (.int .i64) (a0_0, (a0_1, (a0_2, (a0_3, a0_4)))).2.2.1, .int .i64 (a0_0, (a0_1, (a0_2, (a0_3, a0_4)))).2.2.2.1, .imm (.sl (.int .i64)) (a0_0, (a0_1, (a0_2, (a0_3, a0_4)))).2.2.2.2])]) rfl rfl ⟨⟨rfl, .inl rfl, .inl rfl, rfl, .inl rfl, trivial⟩, trivial⟩ ⟨⟨⟨rfl, rfl⟩, rfl⟩, trivial⟩)⟩
          · have he := ok_f he hb
            exact ⟨(), he, (leads_ren [(10001000, 10000000)] (l := [(2, .c (.ptr 10001000 0))]) (st' := [(10001000, .rc [.int .i64 (a0_0, (a0_1, (a0_2, (a0_3, a0_4)))).1, .imm (.int .i64) (a0_0, (a0_1, (a0_2, (a0_3, a0_4)))).2.1, .imm (.int .i64) (a0_0, (a0_1, (a0_2, (a0_3, a0_4)))).2.2.1, .int .i64 (a0_0, (a0_1, (a0_2, (a0_3, a0_4)))).2.2.2.1, .imm (.sl (.int .i64)) (a0_0, (a0_1, (a0_2, (a0_3, a0_4)))).2.2.2.2])]) rfl rfl ⟨⟨rfl, .inl rfl, .inl rfl, rfl, .inl rfl, trivial⟩, trivial⟩ ⟨⟨⟨rfl, rfl⟩, rfl⟩, trivial⟩)⟩
      · have he := ok_t he hb
        have he := ok_some he
        exact ⟨rfl, _, _, (leads_ren [] (l := [(4, .c (.bool false))]) (st' := []) rfl rfl trivial ⟨.inr rfl, trivial⟩), he⟩

noncomputable def c_impl_ModelValid_1 : Con := fun args st => match args, st with
  | [.agg [.int .i64 r__0, .imm (.int .i64) r__1, .imm (.int .i64) r__2, .int .i64 r__3, .imm (.sl (.int .i64)) r__4], .c (.ptr 0 0)], [(0, .rc [.imm (.int .i64) o0_0, .imm (.pair (.int .i64) (.pair (.sl (.int .i64)) (.pair (.sl (.int .i64)) (.pair (.int .i64) (.sl (.sl (.int .i64))))))) o0_1])] => .opt (Bool) (impl_ModelValid_1 (r__0, (r__1, (r__2, (r__3, r__4)))) (o0_0, o0_1)) (fun r => .ret (.c (.bool r)) [(0, .rc [.imm (.int .i64) o0_0, .imm (.pair (.int .i64) (.pair (.sl (.int .i64)) (.pair (.sl (.int .i64)) (.pair (.int .i64) (.sl (.sl (.int .i64))))))) o0_1])])
  | _, _ => .fail

noncomputable def C_impl_ModelValid_1 : Cfg := { y := tys, n := 10, h := 1, tab := [(158, c_impl_ruleValid)], cut := [], hand := [], good := [], deep := [], sched := [] }

theorem t_impl_ModelValid_1 : TabOk Try.prog C_impl_ModelValid_1 := by
  refine tabOk_of ?_
  simp only [C_impl_ModelValid_1, List.forall_mem_cons]
  exact ⟨k_impl_ruleValid, fun p h => by cases h⟩

theorem k_impl_ModelValid_1 : Entry Try.prog 157 c_impl_ModelValid_1 := by
  refine entry_by (C := C_impl_ModelValid_1) mixed tys_ok t_impl_ModelValid_1 (fn := Try.f157) (c := bd Try.f157) (by kernel_rfl) (by kernel_rfl) (by kernel_rfl) (by kernel_rfl) ?_
  intro args st k he
  unfold c_impl_ModelValid_1 at he
  split at he
  rotate_left
  · exact he.elim
  rename_i r__0 r__1 r__2 r__3 r__4 o0_0 o0_1
  have he : Ok (impl_ModelValid_1 (r__0, (r__1, (r__2, (r__3, r__4)))) (o0_0, o0_1)) (fun r => k (.c (.bool r)) [(0, .rc [.imm (.int .i64) o0_0, .imm (.pair (.int .i64) (.pair (.sl (.int .i64)) (.pair (.sl (.int .i64)) (.pair (.int .i64) (.sl (.sl (.int .i64))))))) o0_1])]) := he
  refine ⟨rfl, rfl, ?_⟩
  obtain ⟨r1_, hr, he⟩ := ok_bind he
  refine ⟨r1_, hr, ?_⟩
  have he := ok_some he
  exact ⟨rfl, _, _, (leads_ren [] (l := [(3, .c (.bool (!r1_)))]) (st' := [(0, .rc [.imm (.int .i64) o0_0, .imm (.pair (.int .i64) (.pair (.sl (.int .i64)) (.pair (.sl (.int .i64)) (.pair (.int .i64) (.sl (.sl (.int .i64))))))) o0_1])]) rfl rfl ⟨⟨.inl rfl, .inl rfl, trivial⟩, trivial⟩ ⟨.inl rfl, trivial⟩), he⟩

noncomputable def c_slices_IndexFunc_impl_Rule__impl_ModelValid_1 : Con := fun args st => match args, st with
  | [.c (.imm (.pair (.int .i64) (.pair (.sl (.int .i64)) (.pair (.sl (.int .i64)) (.pair (.int .i64) (.sl (.sl (.int .i64))))))) s_), .c (.fn 157 [0])], [(0, .rc [.imm (.int .i64) o0_0, .imm (.pair (.int .i64) (.pair (.sl (.int .i64)) (.pair (.sl (.int .i64)) (.pair (.int .i64) (.sl (.sl (.int .i64))))))) o0_1])] => .opt (Int) (slices_IndexFunc_impl_Rule__impl_ModelValid_1 s_ (o0_0, o0_1)) (fun r => .ret (.c (.int .i64 r)) [(0, .rc [.imm (.int .i64) o0_0, .imm (.pair (.int .i64) (.pair (.sl (.int .i64)) (.pair (.sl (.int .i64)) (.pair (.int .i64) (.sl (.sl (.int .i64))))))) o0_1])])
  | _, _ => .fail

noncomputable def C_slices_IndexFunc_impl_Rule__impl_ModelValid_1 : Cfg := { y := tys, n := 19, h := 1, tab := [(157, c_impl_ModelValid_1)], cut := [], hand := [], good := [], deep := [], sched := [] }

theorem t_slices_IndexFunc_impl_Rule__impl_ModelValid_1 : TabOk Try.prog C_slices_IndexFunc_impl_Rule__impl_ModelValid_1 := by
  refine tabOk_of ?_
  simp only [C_slices_IndexFunc_impl_Rule__impl_ModelValid_1, List.forall_mem_cons]
  exact ⟨k_impl_ModelValid_1, fun p h => by cases h⟩

theorem k_slices_IndexFunc_impl_Rule__impl_ModelValid_1 : Entry Try.prog 185 c_slices_IndexFunc_impl_Rule__impl_ModelValid_1 := by
  refine entry_by (C := C_slices_IndexFunc_impl_Rule__impl_ModelValid_1) mixed tys_ok t_slices_IndexFunc_impl_Rule__impl_ModelValid_1 (fn := Try.f185) (c := bd Try.f185) (by kernel_rfl) (by kernel_rfl) (by kernel_rfl) (by kernel_rfl) ?_
  intro args st k he
  unfold c_slices_IndexFunc_impl_Rule__impl_ModelValid_1 at he
  split at he
  rotate_left
  · exact he.elim
  rename_i s_ o0_0 o0_1
  have he : Ok (slices_IndexFunc_impl_Rule__impl_ModelValid_1 s_ (o0_0, o0_1)) (fun r => k (.c (.int .i64 r)) [(0, .rc [.imm (.int .i64) o0_0, .imm (.pair (.int .i64) (.pair (.sl (.int .i64)) (.pair (.sl (.int .i64)) (.pair (.int .i64) (.sl (.sl (.int .i64))))))) o0_1])]) := he
  refine ⟨rfl, rfl, ?_⟩
  refine loop_model mixed tys_ok t_slices_IndexFunc_impl_Rule__impl_ModelValid_1 (S := Int) (I := (fun i => (envOf [(0, .c (.imm (.pair (.int .i64) (.pair (.sl (.int .i64)) (.pair (.sl (.int .i64)) (.pair (.int .i64) (.sl (.sl (.int .i64))))))) s_)), (1, .c (.fn 157 [0])), (7, .c (.int .i64 (s_.length:Int))), (8, .c (.int .i64 i))], [(0, .rc [.imm (.int .i64) (o0_0, o0_1).1, .imm (.pair (.int .i64) (.pair (.sl (.int .i64)) (.pair (.sl (.int .i64)) (.pair (.int .i64) (.sl (.sl (.int .i64))))))) (o0_0, o0_1).2])]))) (f := slices_IndexFunc_impl_Rule__impl_ModelValid_1_l1 s_ (o0_0, o0_1)) (K := (fun r => k (.c (.int .i64 r)) [(0, .rc [.imm (.int .i64) o0_0, .imm (.pair (.int .i64) (.pair (.sl (.int .i64)) (.pair (.sl (.int .i64)) (.pair (.int .i64) (.sl (.sl (.int .i64))))))) o0_1])])) he (leads_ren [] (l := [(0, .c (.imm (.pair (.int .i64) (.pair (.sl (.int .i64)) (.pair (.sl (.int .i64)) (.pair (.int .i64) (.sl (.sl (.int .i64))))))) s_)), (1, .c (.fn 157 [0])), (7, .c (.int .i64 (s_.length:Int))), (8, .c (.int .i64 (0:Int)))]) (st' := [(0, .rc [.imm (.int .i64) (o0_0, o0_1).1, .imm (.pair (.int .i64) (.pair (.sl (.int .i64)) (.pair (.sl (.int .i64)) (.pair (.int .i64) (.sl (.sl (.int .i64))))))) (o0_0, o0_1).2])]) rfl rfl ⟨⟨.inl rfl, .inl rfl, trivial⟩, trivial⟩ ⟨.inl rfl, ⟨rfl, ⟨⟨rfl, rfl⟩, trivial⟩⟩, rfl, rfl, trivial⟩) ?_
  rintro i J1 he
  refine And.intro (fun hb => ?_) (fun hb => ?_)
  · have he := ok_t he hb
    have he := ok_rq he
    refine And.intro he.1 ?_
    have he := he.2
    obtain ⟨r1_, hr, he⟩ := ok_bind he
    refine ⟨r1_, hr, ?_⟩
    refine And.intro (fun hb => ?_) (fun hb => ?_)
    · have he := ok_t he hb
      have he := ok_some he
      exact ⟨rfl, _, _, (leads_ren [] (l := [(4, .c (.int .i64 i))]) (st' := [(0, .rc [.imm (.int .i64) o0_0, .imm (.pair (.int .i64) (.pair (.sl (.int .i64)) (.pair (.sl (.int .i64)) (.pair (.int .i64) (.sl (.sl (.int .i64))))))) o0_1])]) rfl rfl ⟨⟨.inl rfl, .inl rfl, trivial⟩, trivial⟩ ⟨rfl, trivial⟩), he⟩
    · have he := ok_f he hb
      have he := ok_rq he
      refine And.intro he.1 ?_
      have he := he.2
      have he := ok_some he
      exact ⟨(i + (1:Int)), he, (leads_ren [] (l := [(0, .c (.imm (.pair (.int .i64) (.pair (.sl (.int .i64)) (.pair (.sl (.int .i64)) (.pair (.int .i64) (.sl (.sl (.int .i64))))))) s_)), (1, .c (.fn 157 [0])), (7, .c (.int .i64 (s_.length:Int))), (8, .c (.int .i64 (i + (1:Int))))]) (st' := [(0, .rc [.imm (.int .i64) (o0_0, o0_1).1, .imm (.pair (.int .i64) (.pair (.sl (.int .i64)) (.pair (.sl (.int .i64)) (.pair (.int .i64) (.sl (.sl (.int .i64))))))) (o0_0, o0_1).2])]) rfl rfl ⟨⟨.inl rfl, .inl rfl, trivial⟩, trivial⟩ ⟨.inl rfl, ⟨rfl, ⟨⟨rfl, rfl⟩, trivial⟩⟩, rfl, rfl, trivial⟩)⟩
  · have he := ok_f he hb
    have he := ok_some he
    exact ⟨rfl, _, _, (leads_ren [] (l := [(4, .c (.int .i64 (-1:Int)))]) (st' := [(0, .rc [.imm (.int .i64) o0_0, .imm (.pair (.int .i64) (.pair (.sl (.int .i64)) (.pair (.sl (.int .i64)) (.pair (.int .i64) (.sl (.sl (.int .i64))))))) o0_1])]) rfl rfl ⟨⟨.inl rfl, .inl rfl, trivial⟩, trivial⟩ ⟨rfl, trivial⟩), he⟩

noncomputable def c_slices_ContainsFunc_impl_Rule__impl_ModelValid_1 : Con := fun args st => match args, st with
  | [.c (.imm (.pair (.int .i64) (.pair (.sl (.int .i64)) (.pair (.sl (.int .i64)) (.pair (.int .i64) (.sl (.sl (.int .i64))))))) s_), .c (.fn 157 [0])], [(0, .rc [.imm (.int .i64) o0_0, .imm (.pair (.int .i64) (.pair (.sl (.int .i64)) (.pair (.sl (.int .i64)) (.pair (.int .i64) (.sl (.sl (.int .i64))))))) o0_1])] => .opt (Bool) (slices_ContainsFunc_impl_Rule__impl_ModelValid_1 s_ (o0_0, o0_1)) (fun r => .ret (.c (.bool r)) [(0, .rc [.imm (.int .i64) o0_0, .imm (.pair (.int .i64) (.pair (.sl (.int .i64)) (.pair (.sl (.int .i64)) (.pair (.int .i64) (.sl (.sl (.int .i64))))))) o0_1])])
  | _, _ => .fail

noncomputable def C_slices_ContainsFunc_impl_Rule__impl_ModelValid_1 : Cfg := { y := tys, n := 9, h := 1, tab := [(185, c_slices_IndexFunc_impl_Rule__impl_ModelValid_1)], cut := [], hand := [], good := [], deep := [], sched := [] }

theorem t_slices_ContainsFunc_impl_Rule__impl_ModelValid_1 : TabOk Try.prog C_slices_ContainsFunc_impl_Rule__impl_ModelValid_1 := by
  refine tabOk_of ?_
  simp only [C_slices_ContainsFunc_impl_Rule__impl_ModelValid_1, List.forall_mem_cons]
  exact ⟨k_slices_IndexFunc_impl_Rule__impl_ModelValid_1, fun p h => by cases h⟩

theorem k_slices_ContainsFunc_impl_Rule__impl_ModelValid_1 : Entry Try.prog 156 c_slices_ContainsFunc_impl_Rule__impl_ModelValid_1 := by
  refine entry_by (C := C_slices_ContainsFunc_impl_Rule__impl_ModelValid_1) mixed tys_ok t_slices_ContainsFunc_impl_Rule__impl_ModelValid_1 (fn := Try.f156) (c := bd Try.f156) (by kernel_rfl) (by kernel_rfl) (by kernel_rfl) (by kernel_rfl) ?_
  intro args st k he
  unfold c_slices_ContainsFunc_impl_Rule__impl_ModelValid_1 at he
  split at he
  rotate_left
  · exact he.elim
  rename_i s_ o0_0 o0_1
  have he : Ok (slices_ContainsFunc_impl_Rule__impl_ModelValid_1 s_ (o0_0, o0_1)) (fun r => k (.c (.bool r)) [(0, .rc [.imm (.int .i64) o0_0, .imm (.pair (.int .i64) (.pair (.sl (.int .i64)) (.pair (.sl (.int .i64)) (.pair (.int .i64) (.sl (.sl (.int .i64))))))) o0_1])]) := he
  refine ⟨rfl, rfl, ?_⟩
  obtain ⟨r1_, hr, he⟩ := ok_bind he
  refine ⟨r1_, hr, ?_⟩
  have he := ok_some he
  exact ⟨rfl, _, _, (leads_ren [] (l := [(4, .c (.bool (decide ((0:Int) ≤ r1_))))]) (st' := [(0, .rc [.imm (.int .i64) o0_0, .imm (.pair (.int .i64) (.pair (.sl (.int .i64)) (.pair (.sl (.int .i64)) (.pair (.int .i64) (.sl (.sl (.int .i64))))))) o0_1])]) rfl rfl ⟨⟨.inl rfl, .inl rfl, trivial⟩, trivial⟩ ⟨.inl rfl, trivial⟩), he⟩

noncomputable def c_impl_ModelValid : Con := fun args st => match args, st with
  | [.agg [.imm (.int .i64) m_0, .imm (.pair (.int .i64) (.pair (.sl (.int .i64)) (.pair (.sl (.int .i64)) (.pair (.int .i64) (.sl (.sl (.int .i64))))))) m_1]], [] => .opt (Bool) (impl_ModelValid (m_0, m_1)) (fun r => .ret (.c (.bool r)) [])
  | _, _ => .fail

noncomputable def C_impl_ModelValid : Cfg := { y := tys, n := 41, h := 0, tab := [(101, c_impl_within), (156, c_slices_ContainsFunc_impl_Rule__impl_ModelValid_1)], cut := [], hand := [], good := [], deep := [], sched := [] }

theorem t_impl_ModelValid : TabOk Try.prog C_impl_ModelValid := by
  refine tabOk_of ?_
  simp only [C_impl_ModelValid, List.forall_mem_cons]
  exact ⟨k_impl_within, k_slices_ContainsFunc_impl_Rule__impl_ModelValid_1, fun p h => by cases h⟩

theorem k_impl_ModelValid : Entry Try.prog 100 c_impl_ModelValid := by
  refine entry_by (C := C_impl_ModelValid) mixed tys_ok t_impl_ModelValid (fn := Try.f100) (c := bd Try.f100) (by kernel_rfl) (by kernel_rfl) (by kernel_rfl) (by kernel_rfl) ?_
  intro args st k he
  unfold c_impl_ModelValid at he
  split at he
  rotate_left
  · exact he.elim
  rename_i m_0 m_1
  have he : Ok (impl_ModelValid (m_0, m_1)) (fun r => k (.c (.bool r)) []) := he
  refine ⟨rfl, rfl, ?_⟩
  obtain ⟨r1_, hr, he⟩ := ok_bind he
  refine ⟨r1_, hr, ?_⟩
  refine And.intro (fun hb => ?_) (fun hb => ?_)
  · have he := ok_f he hb
    refine And.intro (fun hb => ?_) (fun hb => ?_)
    · have he := ok_t he hb
      have he := ok_some he
      exact ⟨rfl, _, _, (leads_ren [] (l := [(2, .c (.bool false))]) (st' := []) rfl rfl trivial ⟨.inr rfl, trivial⟩), he⟩
    · have he := ok_f he hb
      refine loop_model mixed tys_ok t_impl_ModelValid (S := Int × Int) (I := (fun (count, i) => (envOf [(1, .c (.ptr 10000000 0)), (3, .c (.int .i64 count)), (18, .c (.imm (.int .i64) (m_0, m_1).1)), (19, .c (.int .i64 ((m_0, m_1).1.length:Int))), (20, .c (.int .i64 i))], [(10000000, .rc [.imm (.int .i64) (m_0, m_1).1, .imm (.pair (.int .i64) (.pair (.sl (.int .i64)) (.pair (.sl (.int .i64)) (.pair (.int .i64) (.sl (.sl (.int .i64))))))) (m_0, m_1).2])]))) (f := impl_ModelValid_l1 (m_0, m_1)) (K := (fun r => k (.c (.bool r)) [])) he (leads_ren [(10000000, 1)] (l := [(1, .c (.ptr 10000000 0)), (3, .c (.int .i64 (0:Int))), (18, .c (.imm (.int .i64) (m_0, m_1).1)), (19, .c (.int .i64 ((m_0, m_1).1.length:Int))), (20, .c (.int .i64 (0:Int)))]) (st' := [(10000000, .rc [.imm (.int .i64) (m_0, m_1).1, .imm (.pair (.int .i64) (.pair (.sl (.int .i64)) (.pair (.sl (.int .i64)) (.pair (.int .i64) (.sl (.sl (.int .i64))))))) (m_0, m_1).2])]) rfl rfl ⟨⟨.inl rfl, .inl rfl, trivial⟩, trivial⟩ ⟨⟨⟨rfl, rfl⟩, rfl⟩, rfl, .inl rfl, rfl, rfl, trivial⟩) ?_
      rintro ⟨count, i⟩ J1 he
      refine And.intro (fun hb => ?_) (fun hb => ?_)
      · have he := ok_t he hb
        have he := ok_rq he
        refine And.intro he.1 ?_
        have he := he.2
        obtain ⟨r2_, hr, he⟩ := ok_bind he
        refine ⟨r2_, hr, ?_⟩
        refine And.intro (fun hb => ?_) (fun hb => ?_)
        · have he := ok_t he hb
          have he := ok_some he
          exact ⟨rfl, _, _, (leads_ren [] (l := [(2, .c (.bool false))]) (st' := []) rfl rfl trivial ⟨.inr rfl, trivial⟩), he⟩
        · have he := ok_f he hb
          have he := ok_rq he
          refine And.intro he.1 ?_
          have he := he.2
          have he := ok_rq he
          refine And.intro he.1 ?_
          have he := he.2
          have he := ok_rq he
          refine And.intro he.1 ?_
          have he := he.2
          have he := ok_some he
          exact ⟨((count + (((m_0, m_1).1.getD i.toNat 0) + (1:Int))), (i + (1:Int))), he, (leads_ren [] (l := [(1, .c (.ptr 10000000 0)), (3, .c (.int .i64 (count + (((m_0, m_1).1.getD i.toNat 0) + (1:Int))))), (18, .c (.imm (.int .i64) (m_0, m_1).1)), (19, .c (.int .i64 ((m_0, m_1).1.length:Int))), (20, .c (.int .i64 (i + (1:Int))))]) (st' := [(10000000, .rc [.imm (.int .i64) (m_0, m_1).1, .imm (.pair (.int .i64) (.pair (.sl (.int .i64)) (.pair (.sl (.int .i64)) (.pair (.int .i64) (.sl (.sl (.int .i64))))))) (m_0, m_1).2])]) rfl rfl ⟨⟨.inl rfl, .inl rfl, trivial⟩, trivial⟩ ⟨⟨⟨rfl, rfl⟩, rfl⟩, rfl, .inl rfl, rfl, rfl, trivial⟩)⟩
      · have he := ok_f he hb
        refine And.intro (fun hb => ?_) (fun hb => ?_)
        · have he := ok_t he hb
          obtain ⟨r3_, hr, he⟩ := ok_bind he
          refine ⟨r3_, hr, ?_⟩
          have he := ok_some he
          exact ⟨rfl, _, _, (leads_ren [] (l := [(2, .c (.bool (!r3_)))]) (st' := []) rfl rfl trivial ⟨.inl rfl, trivial⟩), he⟩
        · have he := ok_f he hb
          have he := ok_some he
          exact ⟨rfl, _, _, (leads_ren [] (l := [(2, .c (.bool false))]) (st' := []) rfl rfl trivial ⟨.inr rfl, trivial⟩), he⟩
  · have he := ok_t he hb
    have he := ok_some he
    exact ⟨rfl, _, _, (leads_ren [] (l := [(2, .c (.bool false))]) (st' := []) rfl rfl trivial ⟨.inr rfl, trivial⟩), he⟩

noncomputable def c_impl_PermValid : Con := fun args st => match args, st with
  | [.agg [.imm (.int .i64) m_0, .imm (.pair (.int .i64) (.pair (.sl (.int .i64)) (.pair (.sl (.int .i64)) (.pair (.int .i64) (.sl (.sl (.int .i64))))))) m_1], .c (.imm (.int .i64) perm)], [] => .opt (Bool) (impl_PermValid (m_0, m_1) perm) (fun r => .ret (.c (.bool r)) [])
  | _, _ => .fail

noncomputable def C_impl_PermValid : Cfg := { y := tys, n := 52, h := 0, tab := [(100, c_impl_ModelValid), (101, c_impl_within), (102, c_slices_Contains_int)], cut := [], hand := [], good := [], deep := [], sched := [(6, (.first 0 (.first 1 (.first 2 (.first 3 (.alt 4 (.first 5 (.first 6 (.first 7 (.first 9 (.first 12 (.first 14 (.alt 8 (.first 10 (.first 11 (.alt 13 (.first 15 (.first 16 (.first 17 (.first 18 (.first 19 (.first 20 (.first 21 (.first 23 (.alt 22 (.alt 24 (.first 25 .done) .stop) .stop))))))))) .stop))) (.alt 13 (.first 15 (.first 16 (.alt 8 (.first 10 (.first 11 (.first 17 (.first 18 (.first 19 (.first 20 (.first 21 (.first 23 (.alt 22 (.alt 24 (.first 25 .done) .stop) .stop))))))))) .stop))) .stop)))))))) .stop))))))] }

theorem t_impl_PermValid : TabOk Try.prog C_impl_PermValid := by
  refine tabOk_of ?_
  simp only [C_impl_PermValid, List.forall_mem_cons]
  exact ⟨k_impl_ModelValid, k_impl_within, k_slices_Contains_int, fun p h => by cases h⟩

theorem k_impl_PermValid : Entry Try.prog 39 c_impl_PermValid := by
  refine entry_by (C := C_impl_PermValid) mixed tys_ok t_impl_PermValid (fn := Try.f39) (c := bd Try.f39) (by kernel_rfl) (by kernel_rfl) (by kernel_rfl) (by kernel_rfl) ?_
  intro args st k he
  unfold c_impl_PermValid at he
  split at he
  rotate_left
  · exact he.elim
  rename_i m_0 m_1 perm
  have he : Ok (impl_PermValid (m_0, m_1) perm) (fun r => k (.c (.bool r)) []) := he
  refine ⟨rfl, rfl, ?_⟩
  obtain ⟨r1_, hr, he⟩ := ok_bind he
  refine ⟨r1_, hr, ?_⟩
  refine And.intro (fun hb => ?_) (fun hb => ?_)
  · have he := ok_f he hb
    refine And.intro (fun hb => ?_) (fun hb => ?_)
    · have he := ok_t he hb
      have he := ok_some he
      exact ⟨rfl, _, _, (leads_ren [] (l := [(4, .c (.bool false))]) (st' := []) rfl rfl trivial ⟨.inr rfl, trivial⟩), he⟩
    · have he := ok_f he hb
      refine loop_model mixed tys_ok t_impl_PermValid (S := Int) (I := (fun i => (envOf [(1, .c (.imm (.int .i64) perm)), (2, .c (.ptr 10000000 0)), (18, .c (.imm (.int .i64) perm)), (19, .c (.int .i64 (perm.length:Int))), (20, .c (.int .i64 i))], [(10000000, .rc [.imm (.int .i64) (m_0, m_1).1, .imm (.pair (.int .i64) (.pair (.sl (.int .i64)) (.pair (.sl (.int .i64)) (.pair (.int .i64) (.sl (.sl (.int .i64))))))) (m_0, m_1).2])]))) (f := impl_PermValid_l1 (m_0, m_1) perm) (K := (fun r => k (.c (.bool r)) [])) he (leads_ren [(10000000, 2)] (l := [(1, .c (.imm (.int .i64) perm)), (2, .c (.ptr 10000000 0)), (18, .c (.imm (.int .i64) perm)), (19, .c (.int .i64 (perm.length:Int))), (20, .c (.int .i64 (0:Int)))]) (st' := [(10000000, .rc [.imm (.int .i64) (m_0, m_1).1, .imm (.pair (.int .i64) (.pair (.sl (.int .i64)) (.pair (.sl (.int .i64)) (.pair (.int .i64) (.sl (.sl (.int .i64))))))) (m_0, m_1).2])]) rfl rfl ⟨⟨.inl rfl, .inl rfl, trivial⟩, trivial⟩ ⟨.inl rfl, ⟨⟨rfl, rfl⟩, rfl⟩, .inl rfl, rfl, rfl, trivial⟩) ?_
      rintro i J1 he
      refine And.intro (fun hb => ?_) (fun hb => ?_)
      · have he := ok_t he hb
        have he := ok_rq he
        refine And.intro he.1 ?_
        have he := he.2
        refine And.intro (by kernel_rfl) ?_
        have he := ok_rq he
        refine And.intro he.1 ?_
        have he := he.2
        refine And.intro ?_ trivial
        obtain ⟨r4_, hr, he⟩ := ok_bind he
        refine ⟨r4_, hr, ?_⟩
        refine And.intro (fun hb => ?_) (fun hb => ?_)
        · have he := ok_f he hb
          have he := ok_rq he
          have hq1 := he.1
          have he := he.2
          have he := ok_rq he
          have hq2 := he.1
          have he := he.2
          refine And.intro ?_ (And.intro ?_ (trivial))
          · skip
            refine And.intro hq1 ?_
            refine And.intro ?_ trivial
            refine And.intro hq2 ?_
            refine And.intro (fun hb => ?_) (fun hb => ?_)
            · have he := ok_f he hb
              refine And.intro ?_ trivial
              have he := ok_rq he
              refine And.intro he.1 ?_
              have he := he.2
              refine And.intro ?_ trivial
              obtain ⟨r5_, hr, he⟩ := ok_bind he
              refine ⟨r5_, hr, ?_⟩
              refine And.intro (fun hb => ?_) (fun hb => ?_)
              · have he := ok_t he hb
                have he := ok_some he
                exact ⟨rfl, _, _, (leads_ren [] (l := [(4, .c (.bool false))]) (st' := []) rfl rfl trivial ⟨.inr rfl, trivial⟩), he⟩
              · have he := ok_f he hb
                have he := ok_rq he
                refine And.intro he.1 ?_
                have he := he.2
                have he := ok_some he
                exact ⟨(i + (1:Int)), he, (leads_ren [] (l := [(1, .c (.imm (.int .i64) perm)), (2, .c (.ptr 10000000 0)), (18, .c (.imm (.int .i64) perm)), (19, .c (.int .i64 (perm.length:Int))), (20, .c (.int .i64 (i + (1:Int))))]) (st' := [(10000000, .rc [.imm (.int .i64) (m_0, m_1).1, .imm (.pair (.int .i64) (.pair (.sl (.int .i64)) (.pair (.sl (.int .i64)) (.pair (.int .i64) (.sl (.sl (.int .i64))))))) (m_0, m_1).2])]) rfl rfl ⟨⟨.inl rfl, .inl rfl, trivial⟩, trivial⟩ ⟨.inl rfl, ⟨⟨rfl, rfl⟩, rfl⟩, .inl rfl, rfl, rfl, trivial⟩)⟩
            · have he := ok_t he hb
              refine And.intro ?_ trivial
              refine And.intro ?_ trivial
              have he := ok_some he
              exact ⟨rfl, _, _, (leads_ren [] (l := [(4, .c (.bool false))]) (st' := []) rfl rfl trivial ⟨.inr rfl, trivial⟩), he⟩
          · skip
            refine And.intro hq2 ?_
            refine And.intro ?_ trivial
            refine And.intro hq1 ?_
            refine And.intro (fun hb => ?_) (fun hb => ?_)
            · have he := ok_f he hb
              refine And.intro ?_ trivial
              have he := ok_rq he
              refine And.intro he.1 ?_
              have he := he.2
              refine And.intro ?_ trivial
              obtain ⟨r5_, hr, he⟩ := ok_bind he
              refine ⟨r5_, hr, ?_⟩
              refine And.intro (fun hb => ?_) (fun hb => ?_)
              · have he := ok_t he hb
                have he := ok_some he
                exact ⟨rfl, _, _, (leads_ren [] (l := [(4, .c (.bool false))]) (st' := []) rfl rfl trivial ⟨.inr rfl, trivial⟩), he⟩
              · have he := ok_f he hb
                have he := ok_rq he
                refine And.intro he.1 ?_
                have he := he.2
                have he := ok_some he
                exact ⟨(i + (1:Int)), he, (leads_ren [] (l := [(1, .c (.imm (.int .i64) perm)), (2, .c (.ptr 10000000 0)), (18, .c (.imm (.int .i64) perm)), (19, .c (.int .i64 (perm.length:Int))), (20, .c (.int .i64 (i + (1:Int))))]) (st' := [(10000000, .rc [.imm (.int .i64) (m_0, m_1).1, .imm (.pair (.int .i64) (.pair (.sl (.int .i64)) (.pair (.sl (.int .i64)) (.pair (.int .i64) (.sl (.sl (.int .i64))))))) (m_0, m_1).2])]) rfl rfl ⟨⟨.inl rfl, .inl rfl, trivial⟩, trivial⟩ ⟨.inl rfl, ⟨⟨rfl, rfl⟩, rfl⟩, .inl rfl, rfl, rfl, trivial⟩)⟩
            · have he := ok_t he hb
              refine And.intro ?_ trivial
              refine And.intro ?_ trivial
              have he := ok_some he
              exact ⟨rfl, _, _, (leads_ren [] (l := [(4, .c (.bool false))]) (st' := []) rfl rfl trivial ⟨.inr rfl, trivial⟩), he⟩
        · have he := ok_t he hb
          refine And.intro ?_ (And.intro ?_ (trivial))
          · skip
            refine And.intro ?_ trivial
            refine And.intro ?_ trivial
            refine And.intro ?_ trivial
            have he := ok_some he
            exact ⟨rfl, _, _, (leads_ren [] (l := [(4, .c (.bool false))]) (st' := []) rfl rfl trivial ⟨.inr rfl, trivial⟩), he⟩
          · skip
            refine And.intro ?_ trivial
            refine And.intro ?_ trivial
            refine And.intro ?_ trivial
            have he := ok_some he
            exact ⟨rfl, _, _, (leads_ren [] (l := [(4, .c (.bool false))]) (st' := []) rfl rfl trivial ⟨.inr rfl, trivial⟩), he⟩
      · have he := ok_f he hb
        have he := ok_some he
        exact ⟨rfl, _, _, (leads_ren [] (l := [(4, .c (.bool true))]) (st' := []) rfl rfl trivial ⟨.inr rfl, trivial⟩), he⟩
  · have he := ok_t he hb
    have he := ok_some he
    exact ⟨rfl, _, _, (leads_ren [] (l := [(4, .c (.bool false))]) (st' := []) rfl rfl trivial ⟨.inr rfl, trivial⟩), he⟩

noncomputable def c_impl_CellsValid : Con := fun args st => match args, st with
  | [.agg [.imm (.int .i64) m_0, .imm (.pair (.int .i64) (.pair (.sl (.int .i64)) (.pair (.sl (.int .i64)) (.pair (.int .i64) (.sl (.sl (.int .i64))))))) m_1], .c (.imm (.int .i64) cells)], [] => .opt (Bool) (impl_CellsValid (m_0, m_1) cells) (fun r => .ret (.c (.bool r)) [])
  | _, _ => .fail

noncomputable def C_impl_CellsValid : Cfg := { y := tys, n := 34, h := 0, tab := [(100, c_impl_ModelValid), (101, c_impl_within)], cut := [], hand := [], good := [], deep := [], sched := [] }

theorem t_impl_CellsValid : TabOk Try.prog C_impl_CellsValid := by
  refine tabOk_of ?_
  simp only [C_impl_CellsValid, List.forall_mem_cons]
  exact ⟨k_impl_ModelValid, k_impl_within, fun p h => by cases h⟩

theorem k_impl_CellsValid : Entry Try.prog 41 c_impl_CellsValid := by
  refine entry_by (C := C_impl_CellsValid) mixed tys_ok t_impl_CellsValid (fn := Try.f41) (c := bd Try.f41) (by kernel_rfl) (by kernel_rfl) (by kernel_rfl) (by kernel_rfl) ?_
  intro args st k he
  unfold c_impl_CellsValid at he
  split at he
  rotate_left
  · exact he.elim
  rename_i m_0 m_1 cells
  have he : Ok (impl_CellsValid (m_0, m_1) cells) (fun r => k (.c (.bool r)) []) := he
  refine ⟨rfl, rfl, ?_⟩
  obtain ⟨r1_, hr, he⟩ := ok_bind he
  refine ⟨r1_, hr, ?_⟩
  refine And.intro (fun hb => ?_) (fun hb => ?_)
  · have he := ok_f he hb
    refine And.intro (fun hb => ?_) (fun hb => ?_)
    · have he := ok_t he hb
      have he := ok_some he
      exact ⟨rfl, _, _, (leads_ren [] (l := [(4, .c (.bool false))]) (st' := []) rfl rfl trivial ⟨.inr rfl, trivial⟩), he⟩
    · have he := ok_f he hb
      refine loop_model mixed tys_ok t_impl_CellsValid (S := Int) (I := (fun i => (envOf [(2, .c (.ptr 10000000 0)), (18, .c (.imm (.int .i64) cells)), (19, .c (.int .i64 (cells.length:Int))), (20, .c (.int .i64 i))], [(10000000, .rc [.imm (.int .i64) (m_0, m_1).1, .imm (.pair (.int .i64) (.pair (.sl (.int .i64)) (.pair (.sl (.int .i64)) (.pair (.int .i64) (.sl (.sl (.int .i64))))))) (m_0, m_1).2])]))) (f := impl_CellsValid_l1 (m_0, m_1) cells) (K := (fun r => k (.c (.bool r)) [])) he (leads_ren [(10000000, 2)] (l := [(2, .c (.ptr 10000000 0)), (18, .c (.imm (.int .i64) cells)), (19, .c (.int .i64 (cells.length:Int))), (20, .c (.int .i64 (0:Int)))]) (st' := [(10000000, .rc [.imm (.int .i64) (m_0, m_1).1, .imm (.pair (.int .i64) (.pair (.sl (.int .i64)) (.pair (.sl (.int .i64)) (.pair (.int .i64) (.sl (.sl (.int .i64))))))) (m_0, m_1).2])]) rfl rfl ⟨⟨.inl rfl, .inl rfl, trivial⟩, trivial⟩ ⟨⟨⟨rfl, rfl⟩, rfl⟩, .inl rfl, rfl, rfl, trivial⟩) ?_
      rintro i J1 he
      refine And.intro (fun hb => ?_) (fun hb => ?_)
      · have he := ok_t he hb
        have he := ok_rq he
        refine And.intro he.1 ?_
        have he := he.2
        have he := ok_rq he
        refine And.intro he.1 ?_
        have he := he.2
        obtain ⟨r2_, hr, he⟩ := ok_bind he
        refine ⟨r2_, hr, ?_⟩
        refine And.intro (fun hb => ?_) (fun hb => ?_)
        · have he := ok_t he hb
          have he := ok_some he
          exact ⟨rfl, _, _, (leads_ren [] (l := [(4, .c (.bool false))]) (st' := []) rfl rfl trivial ⟨.inr rfl, trivial⟩), he⟩
        · have he := ok_f he hb
          have he := ok_rq he
          refine And.intro he.1 ?_
          have he := he.2
          have he := ok_some he
          exact ⟨(i + (1:Int)), he, (leads_ren [] (l := [(2, .c (.ptr 10000000 0)), (18, .c (.imm (.int .i64) cells)), (19, .c (.int .i64 (cells.length:Int))), (20, .c (.int .i64 (i + (1:Int))))]) (st' := [(10000000, .rc [.imm (.int .i64) (m_0, m_1).1, .imm (.pair (.int .i64) (.pair (.sl (.int .i64)) (.pair (.sl (.int .i64)) (.pair (.int .i64) (.sl (.sl (.int .i64))))))) (m_0, m_1).2])]) rfl rfl ⟨⟨.inl rfl, .inl rfl, trivial⟩, trivial⟩ ⟨⟨⟨rfl, rfl⟩, rfl⟩, .inl rfl, rfl, rfl, trivial⟩)⟩
      · have he := ok_f he hb
        have he := ok_some he
        exact ⟨rfl, _, _, (leads_ren [] (l := [(4, .c (.bool true))]) (st' := []) rfl rfl trivial ⟨.inr rfl, trivial⟩), he⟩
  · have he := ok_t he hb
    have he := ok_some he
    exact ⟨rfl, _, _, (leads_ren [] (l := [(4, .c (.bool false))]) (st' := []) rfl rfl trivial ⟨.inr rfl, trivial⟩), he⟩

noncomputable def c_impl_PermuteCells : Con := fun args st => match args, st with
  | [.agg [.imm (.int .i64) m_0, .imm (.pair (.int .i64) (.pair (.sl (.int .i64)) (.pair (.sl (.int .i64)) (.pair (.int .i64) (.sl (.sl (.int .i64))))))) m_1], .c (.imm (.int .i64) perm), .c (.imm (.int .i64) cells)], [] => .opt (Bool × (List Int)) (impl_PermuteCells (m_0, m_1) perm cells) (fun r => .ret (.tup [.c (.own 900 false), .c (.bool r.1)]) [(900, .sl 3 (.int .i64) r.2 .shallow)])
  | _, _ => .fail

noncomputable def C_impl_PermuteCells : Cfg := { y := tys, n := 40, h := 0, tab := [(39, c_impl_PermValid), (41, c_impl_CellsValid)], cut := [], hand := [], good := [], deep := [], sched := [] }

theorem t_impl_PermuteCells : TabOk Try.prog C_impl_PermuteCells := by
  refine tabOk_of ?_
  simp only [C_impl_PermuteCells, List.forall_mem_cons]
  exact ⟨k_impl_PermValid, k_impl_CellsValid, fun p h => by cases h⟩

theorem k_impl_PermuteCells : Entry Try.prog 33 c_impl_PermuteCells := by
  refine entry_by (C := C_impl_PermuteCells) mixed tys_ok t_impl_PermuteCells (fn := Try.f33) (c := bd Try.f33) (by kernel_rfl) (by kernel_rfl) (by kernel_rfl) (by kernel_rfl) ?_
  intro args st k he
  unfold c_impl_PermuteCells at he
  split at he
  rotate_left
  · exact he.elim
  rename_i m_0 m_1 perm cells
  have he : Ok (impl_PermuteCells (m_0, m_1) perm cells) (fun r => k (.tup [.c (.own 900 false), .c (.bool r.1)]) [(900, .sl 3 (.int .i64) r.2 .shallow)]) := he
  refine ⟨rfl, rfl, ?_⟩
  obtain ⟨r1_, hr, he⟩ := ok_bind he
  refine ⟨r1_, hr, ?_⟩
  refine And.intro (fun hb => ?_) (fun hb => ?_)
  · have he := ok_f he hb
    obtain ⟨r2_, hr, he⟩ := ok_bind he
    refine ⟨r2_, hr, ?_⟩
    refine And.intro (fun hb => ?_) (fun hb => ?_)
    · have he := ok_t he hb
      have he := ok_some he
      exact ⟨rfl, _, _, (leads_ren [] (l := [(6, .c (.own 900 false)), (7, .c (.bool false))]) (st' := [(900, .sl 3 (.int .i64) ([] : List Int) .shallow)]) rfl rfl ⟨trivial, trivial⟩ ⟨⟨rfl, trivial⟩, .inr rfl, trivial⟩), he⟩
    · have he := ok_f he hb
      have he := ok_rq he
      refine And.intro he.1 ?_
      have he := he.2
      refine loop_model mixed tys_ok t_impl_PermuteCells (S := Int × (List Int)) (I := (fun (i, out) => (envOf [(1, .c (.imm (.int .i64) perm)), (8, .c (.own 10000000 false)), (24, .c (.imm (.int .i64) cells)), (25, .c (.int .i64 (cells.length:Int))), (26, .c (.int .i64 i))], [(10000000, .sl 3 (.int .i64) out .shallow)]))) (f := impl_PermuteCells_l1 perm cells) (K := (fun r => k (.tup [.c (.own 900 false), .c (.bool r.1)]) [(900, .sl 3 (.int .i64) r.2 .shallow)])) he (leads_ren [(10000000, 23)] (l := [(1, .c (.imm (.int .i64) perm)), (8, .c (.own 10000000 false)), (24, .c (.imm (.int .i64) cells)), (25, .c (.int .i64 (cells.length:Int))), (26, .c (.int .i64 (0:Int)))]) (st' := [(10000000, .sl 3 (.int .i64) (List.replicate (cells.length:Int).toNat 0) .shallow)]) rfl rfl ⟨⟨rfl, rfl⟩, trivial⟩ ⟨.inl rfl, ⟨⟨rfl, rfl⟩, trivial⟩, .inl rfl, rfl, rfl, trivial⟩) ?_
      rintro ⟨i, out⟩ J1 he
      refine And.intro (fun hb => ?_) (fun hb => ?_)
      · have he := ok_t he hb
        have he := ok_rq he
        refine And.intro he.1 ?_
        have he := he.2
        have he := ok_rq he
        refine And.intro he.1 ?_
        have he := he.2
        have he := ok_rq he
        refine And.intro he.1 ?_
        have he := he.2
        have he := ok_rq he
        refine And.intro he.1 ?_
        have he := he.2
        have he := ok_some he
        exact ⟨((i + (1:Int)), (out.set (perm.getD i.toNat 0).toNat (cells.getD i.toNat 0))), he, (leads_ren [] (l := [(1, .c (.imm (.int .i64) perm)), (8, .c (.own 10000000 false)), (24, .c (.imm (.int .i64) cells)), (25, .c (.int .i64 (cells.length:Int))), (26, .c (.int .i64 (i + (1:Int))))]) (st' := [(10000000, .sl 3 (.int .i64) (out.set (perm.getD i.toNat 0).toNat (cells.getD i.toNat 0)) .shallow)]) rfl rfl ⟨⟨rfl, rfl⟩, trivial⟩ ⟨.inl rfl, ⟨⟨rfl, rfl⟩, trivial⟩, .inl rfl, rfl, rfl, trivial⟩)⟩
      · have he := ok_f he hb
        have he := ok_some he
        exact ⟨rfl, _, _, (leads_ren [(900, 10000000)] (l := [(6, .c (.own 900 false)), (7, .c (.bool true))]) (st' := [(900, .sl 3 (.int .i64) out .shallow)]) rfl rfl ⟨⟨rfl, rfl⟩, trivial⟩ ⟨⟨⟨rfl, rfl⟩, trivial⟩, .inr rfl, trivial⟩), he⟩
  · have he := ok_t he hb
    have he := ok_some he
    exact ⟨rfl, _, _, (leads_ren [] (l := [(6, .c (.own 900 false)), (7, .c (.bool false))]) (st' := [(900, .sl 3 (.int .i64) ([] : List Int) .shallow)]) rfl rfl ⟨trivial, trivial⟩ ⟨⟨rfl, trivial⟩, .inr rfl, trivial⟩), he⟩

noncomputable def c_spec_l6Vars : Con := fun args st => match args, st with
  | [.agg [.imm (.int .i64) m_0, .imm (.pair (.int .i64) (.pair (.sl (.int .i64)) (.pair (.sl (.int .i64)) (.pair (.int .i64) (.sl (.sl (.int .i64))))))) m_1], .c (.imm (.int .i64) list_)], [] => .opt (Bool) (spec_l6Vars (m_0, m_1) list_) (fun r => .ret (.c (.bool r)) [])
  | _, _ => .fail

noncomputable def C_spec_l6Vars : Cfg := { y := tys, n := 45, h := 0, tab := [], cut := [], hand := [], good := [], deep := [], sched := [] }

theorem t_spec_l6Vars : TabOk Try.prog C_spec_l6Vars := tabOk_of (fun p h => by cases h)

theorem k_spec_l6Vars : Entry Try.prog 104 c_spec_l6Vars := by
  refine entry_by (C := C_spec_l6Vars) mixed tys_ok t_spec_l6Vars (fn := Try.f104) (c := bd Try.f104) (by kernel_rfl) (by kernel_rfl) (by kernel_rfl) (by kernel_rfl) ?_
  intro args st k he
  unfold c_spec_l6Vars at he
  split at he
  rotate_left
  · exact he.elim
  rename_i m_0 m_1 list_
  have he : Ok (spec_l6Vars (m_0, m_1) list_) (fun r => k (.c (.bool r)) []) := he
  refine ⟨rfl, rfl, ?_⟩
  refine loop_model mixed tys_ok t_spec_l6Vars (S := Int) (I := (fun i => (envOf [(1, .c (.imm (.int .i64) list_)), (2, .c (.ptr 10000000 0)), (5, .c (.int .i64 i))], [(10000000, .rc [.imm (.int .i64) (m_0, m_1).1, .imm (.pair (.int .i64) (.pair (.sl (.int .i64)) (.pair (.sl (.int .i64)) (.pair (.int .i64) (.sl (.sl (.int .i64))))))) (m_0, m_1).2])]))) (f := spec_l6Vars_l1 (m_0, m_1) list_) (K := (fun r => k (.c (.bool r)) [])) he (leads_ren [(10000000, 2)] (l := [(1, .c (.imm (.int .i64) list_)), (2, .c (.ptr 10000000 0)), (5, .c (.int .i64 (0:Int)))]) (st' := [(10000000, .rc [.imm (.int .i64) (m_0, m_1).1, .imm (.pair (.int .i64) (.pair (.sl (.int .i64)) (.pair (.sl (.int .i64)) (.pair (.int .i64) (.sl (.sl (.int .i64))))))) (m_0, m_1).2])]) rfl rfl ⟨⟨.inl rfl, .inl rfl, trivial⟩, trivial⟩ ⟨.inl rfl, ⟨⟨rfl, rfl⟩, rfl⟩, rfl, trivial⟩) ?_
  rintro i J1 he
  refine And.intro (fun hb => ?_) (fun hb => ?_)
  · have he := ok_t he hb
    refine And.intro (by kernel_rfl) ?_
    have he := ok_rq he
    refine And.intro he.1 ?_
    have he := he.2
    refine And.intro (fun hb => ?_) (fun hb => ?_)
    · have he := ok_f he hb
      have he := ok_rq he
      refine And.intro he.1 ?_
      have he := he.2
      refine And.intro (fun hb => ?_) (fun hb => ?_)
      · have he := ok_t he hb
        have he := ok_some he
        exact ⟨rfl, _, _, (leads_ren [] (l := [(4, .c (.bool false))]) (st' := []) rfl rfl trivial ⟨.inr rfl, trivial⟩), he⟩
      · have he := ok_f he hb
        refine loop_model mixed tys_ok t_spec_l6Vars (S := Int) (I := (fun k_ => (envOf [(1, .c (.imm (.int .i64) list_)), (2, .c (.ptr 10001000 0)), (5, .c (.int .i64 i)), (6, .c (.int .i64 k_))], [(10001000, .rc [.imm (.int .i64) (m_0, m_1).1, .imm (.pair (.int .i64) (.pair (.sl (.int .i64)) (.pair (.sl (.int .i64)) (.pair (.int .i64) (.sl (.sl (.int .i64))))))) (m_0, m_1).2])]))) (f := spec_l6Vars_l2 list_ i) (K := (LK J1 (fun r => k (.c (.bool r)) []))) he (leads_ren [(10001000, 10000000)] (l := [(1, .c (.imm (.int .i64) list_)), (2, .c (.ptr 10001000 0)), (5, .c (.int .i64 i)), (6, .c (.int .i64 (0:Int)))]) (st' := [(10001000, .rc [.imm (.int .i64) (m_0, m_1).1, .imm (.pair (.int .i64) (.pair (.sl (.int .i64)) (.pair (.sl (.int .i64)) (.pair (.int .i64) (.sl (.sl (.int .i64))))))) (m_0, m_1).2])]) rfl rfl ⟨⟨.inl rfl, .inl rfl, trivial⟩, trivial⟩ ⟨.inl rfl, ⟨⟨rfl, rfl⟩, rfl⟩, rfl, rfl, trivial⟩) ?_
        rintro k_ J2 he
        refine And.intro (fun hb => ?_) (fun hb => ?_)
        · have he := ok_t he hb
          refine And.intro (by kernel_rfl) ?_
          have he := ok_rq he
          refine And.intro he.1 ?_
          have he := he.2
          have he := ok_rq he
          refine And.intro he.1 ?_
          have he := he.2
          refine And.intro (fun hb => ?_) (fun hb => ?_)
          · have he := ok_t he hb
            have he := ok_some he
            exact ⟨rfl, _, _, (leads_ren [] (l := [(4, .c (.bool false))]) (st' := []) rfl rfl trivial ⟨.inr rfl, trivial⟩), he⟩
          · have he := ok_f he hb
            have he := ok_rq he
            refine And.intro he.1 ?_
            have he := he.2
            have he := ok_some he
            exact ⟨(k_ + (1:Int)), he, (leads_ren [] (l := [(1, .c (.imm (.int .i64) list_)), (2, .c (.ptr 10001000 0)), (5, .c (.int .i64 i)), (6, .c (.int .i64 (k_ + (1:Int))))]) (st' := [(10001000, .rc [.imm (.int .i64) (m_0, m_1).1, .imm (.pair (.int .i64) (.pair (.sl (.int .i64)) (.pair (.sl (.int .i64)) (.pair (.int .i64) (.sl (.sl (.int .i64))))))) (m_0, m_1).2])]) rfl rfl ⟨⟨.inl rfl, .inl rfl, trivial⟩, trivial⟩ ⟨.inl rfl, ⟨⟨rfl, rfl⟩, rfl⟩, rfl, rfl, trivial⟩)⟩
        · have he := ok_f he hb
          have he := ok_rq he
          refine And.intro he.1 ?_
          have he := he.2
          have he := ok_some he
          exact ⟨(i + (1:Int)), he, (leads_ren [(10000000, 10001000)] (l := [(1, .c (.imm (.int .i64) list_)), (2, .c (.ptr 10000000 0)), (5, .c (.int .i64 (i + (1:Int))))]) (st' := [(10000000, .rc [.imm (.int .i64) (m_0, m_1).1, .imm (.pair (.int .i64) (.pair (.sl (.int .i64)) (.pair (.sl (.int .i64)) (.pair (.int .i64) (.sl (.sl (.int .i64))))))) (m_0, m_1).2])]) rfl rfl ⟨⟨.inl rfl, .inl rfl, trivial⟩, trivial⟩ ⟨.inl rfl, ⟨⟨rfl, rfl⟩, rfl⟩, rfl, trivial⟩)⟩
    · have he := ok_t he hb
      have he := ok_some he
      exact ⟨rfl, _, _, (leads_ren [] (l := [(4, .c (.bool false))]) (st' := []) rfl rfl trivial ⟨.inr rfl, trivial⟩), he⟩
  · have he := ok_f he hb
    have he := ok_some he
    exact ⟨rfl, _, _, (leads_ren [] (l := [(4, .c (.bool (decide ((1:Int) ≤ (list_.length:Int)))))]) (st' := []) rfl rfl trivial ⟨.inl rfl, trivial⟩), he⟩

noncomputable def c_spec_l6Linear : Con := fun args st => match args, st with
  | [.agg [.int .i64 r__0, .imm (.int .i64) r__1, .imm (.int .i64) r__2, .int .i64 r__3, .imm (.sl (.int .i64)) r__4]], [] => .opt (Bool) (spec_l6Linear (r__0, (r__1, (r__2, (r__3, r__4))))) (fun r => .ret (.c (.bool r)) [])
  | _, _ => .fail

noncomputable def C_spec_l6Linear : Cfg := { y := tys, n := 50, h := 0, tab := [], cut := [], hand := [], good := [], deep := [], sched := [] }

theorem t_spec_l6Linear : TabOk Try.prog C_spec_l6Linear := tabOk_of (fun p h => by cases h)

theorem k_spec_l6Linear : Entry Try.prog 190 c_spec_l6Linear := by
  refine entry_by (C := C_spec_l6Linear) mixed tys_ok t_spec_l6Linear (fn := Try.f190) (c := bd Try.f190) (by kernel_rfl) (by kernel_rfl) (by kernel_rfl) (by kernel_rfl) ?_
  intro args st k he
  unfold c_spec_l6Linear at he
  split at he
  rotate_left
  · exact he.elim
  rename_i r__0 r__1 r__2 r__3 r__4
  have he : Ok (spec_l6Linear (r__0, (r__1, (r__2, (r__3, r__4))))) (fun r => k (.c (.bool r)) []) := he
  refine ⟨rfl, rfl, ?_⟩
  refine loop_model mixed tys_ok t_spec_l6Linear (S := Int) (I := (fun i => (envOf [(1, .c (.ptr 10000000 0)), (3, .c (.int .i64 i))], [(10000000, .rc [.int .i64 (r__0, (r__1, (r__2, (r__3, r__4)))).1, .imm (.int .i64) (r__0, (r__1, (r__2, (r__3, r__4)))).2.1, .imm (.int .i64) (r__0, (r__1, (r__2, (r__3, r__4)))).2.2.1, .int .i64 (r__0, (r__1, (r__2, (r__3, r__4)))).2.2.2.1, .imm (.sl (.int .i64)) (r__0, (r__1, (r__2, (r__3, r__4)))).2.2.2.2])]))) (f := spec_l6Linear_l1 (r__0, (r__1, (r__2, (r__3, r__4))))) (K := (fun r => k (.c (.bool r)) [])) he (leads_ren [(10000000, 1)] (l := [(1, .c (.ptr 10000000 0)), (3, .c (.int .i64 (0:Int)))]) (st' := [(10000000, .rc [.int .i64 (r__0, (r__1, (r__2, (r__3, r__4)))).1, .imm (.int .i64) (r__0, (r__1, (r__2, (r__3, r__4)))).2.1, .imm (.int .i64) (r__0, (r__1, (r__2, (r__3, r__4)))).2.2.1, .int .i64 (r__0, (r__1, (r__2, (r__3, r__4)))).2.2.2.1, .imm (.sl (.int .i64)) (r__0, (r__1, (r__2, (r__3, r__4)))).2.2.2.2])]) rfl rfl ⟨⟨rfl, .inl rfl, .inl rfl, rfl, .inl rfl, trivial⟩, trivial⟩ ⟨⟨⟨rfl, rfl⟩, rfl⟩, rfl, trivial⟩) ?_
  rintro i J1 he
  refine And.intro (fun hb => ?_) (fun hb => ?_)
  · have he := ok_t he hb
    have he := ok_rq he
    refine And.intro he.1 ?_
    have he := he.2
    refine And.intro (fun hb => ?_) (fun hb => ?_)
    · have he := ok_f he hb
      have he := ok_rq he
      refine And.intro he.1 ?_
      have he := he.2
      refine And.intro (fun hb => ?_) (fun hb => ?_)
      · have he := ok_f he hb
        have he := ok_rq he
        refine And.intro he.1 ?_
        have he := he.2
        refine And.intro (fun hb => ?_) (fun hb => ?_)
        · have he := ok_t he hb
          have he := ok_some he
          exact ⟨rfl, _, _, (leads_ren [] (l := [(2, .c (.bool false))]) (st' := []) rfl rfl trivial ⟨.inr rfl, trivial⟩), he⟩
        · have he := ok_f he hb
          have he := ok_rq he
          refine And.intro he.1 ?_
          have he := he.2
          have he := ok_some he
          exact ⟨(i + (1:Int)), he, (leads_ren [] (l := [(1, .c (.ptr 10000000 0)), (3, .c (.int .i64 (i + (1:Int))))]) (st' := [(10000000, .rc [.int .i64 (r__0, (r__1, (r__2, (r__3, r__4)))).1, .imm (.int .i64) (r__0, (r__1, (r__2, (r__3, r__4)))).2.1, .imm (.int .i64) (r__0, (r__1, (r__2, (r__3, r__4)))).2.2.1, .int .i64 (r__0, (r__1, (r__2, (r__3, r__4)))).2.2.2.1, .imm (.sl (.int .i64)) (r__0, (r__1, (r__2, (r__3, r__4)))).2.2.2.2])]) rfl rfl ⟨⟨rfl, .inl rfl, .inl rfl, rfl, .inl rfl, trivial⟩, trivial⟩ ⟨⟨⟨rfl, rfl⟩, rfl⟩, rfl, trivial⟩)⟩
      · have he := ok_t he hb
        have he := ok_some he
        exact ⟨rfl, _, _, (leads_ren [] (l := [(2, .c (.bool false))]) (st' := []) rfl rfl trivial ⟨.inr rfl, trivial⟩), he⟩
    · have he := ok_t he hb
      have he := ok_some he
      exact ⟨rfl, _, _, (leads_ren [] (l := [(2, .c (.bool false))]) (st' := []) rfl rfl trivial ⟨.inr rfl, trivial⟩), he⟩
  · have he := ok_f he hb
    refine And.intro (fun hb => ?_) (fun hb => ?_)
    · have he := ok_t he hb
      refine And.intro (fun hb => ?_) (fun hb => ?_)
      · have he := ok_t he hb
        have he := ok_some he
        exact ⟨rfl, _, _, (leads_ren [] (l := [(2, .c (.bool (decide ((r__0, (r__1, (r__2, (r__3, r__4)))).2.2.2.1 ≤ (1000:Int)))))]) (st' := []) rfl rfl trivial ⟨.inl rfl, trivial⟩), he⟩
      · have he := ok_f he hb
        have he := ok_some he
        exact ⟨rfl, _, _, (leads_ren [] (l := [(2, .c (.bool false))]) (st' := []) rfl rfl trivial ⟨.inr rfl, trivial⟩), he⟩
    · have he := ok_f he hb
      have he := ok_some he
      exact ⟨rfl, _, _, (leads_ren [] (l := [(2, .c (.bool false))]) (st' := []) rfl rfl trivial ⟨.inr rfl, trivial⟩), he⟩

noncomputable def c_spec_l6Table : Con := fun args st => match args, st with
  | [.agg [.int .i64 r__0, .imm (.int .i64) r__1, .imm (.int .i64) r__2, .int .i64 r__3, .imm (.sl (.int .i64)) r__4]], [] => .opt (Bool) (spec_l6Table (r__0, (r__1, (r__2, (r__3, r__4))))) (fun r => .ret (.c (.bool r)) [])
  | _, _ => .fail

noncomputable def C_spec_l6Table : Cfg := { y := tys, n := 56, h := 0, tab := [], cut := [], hand := [], good := [], deep := [], sched := [] }

theorem t_spec_l6Table : TabOk Try.prog C_spec_l6Table := tabOk_of (fun p h => by cases h)

theorem k_spec_l6Table : Entry Try.prog 191 c_spec_l6Table := by
  refine entry_by (C := C_spec_l6Table) mixed tys_ok t_spec_l6Table (fn := Try.f191) (c := bd Try.f191) (by kernel_rfl) (by kernel_rfl) (by kernel_rfl) (by kernel_rfl) ?_
  intro args st k he
  unfold c_spec_l6Table at he
  split at he
  rotate_left
  · exact he.elim
  rename_i r__0 r__1 r__2 r__3 r__4
  have he : Ok (spec_l6Table (r__0, (r__1, (r__2, (r__3, r__4))))) (fun r => k (.c (.bool r)) []) := he
  refine ⟨rfl, rfl, ?_⟩
  refine loop_model mixed tys_ok t_spec_l6Table (S := Int) (I := (fun i => (envOf [(1, .c (.ptr 10000000 0)), (3, .c (.int .i64 i))], [(10000000, .rc [.int .i64 (r__0, (r__1, (r__2, (r__3, r__4)))).1, .imm (.int .i64) (r__0, (r__1, (r__2, (r__3, r__4)))).2.1, .imm (.int .i64) (r__0, (r__1, (r__2, (r__3, r__4)))).2.2.1, .int .i64 (r__0, (r__1, (r__2, (r__3, r__4)))).2.2.2.1, .imm (.sl (.int .i64)) (r__0, (r__1, (r__2, (r__3, r__4)))).2.2.2.2])]))) (f := spec_l6Table_l1 (r__0, (r__1, (r__2, (r__3, r__4))))) (K := (fun r => k (.c (.bool r)) [])) he (leads_ren [(10000000, 1)] (l := [(1, .c (.ptr 10000000 0)), (3, .c (.int .i64 (0:Int)))]) (st' := [(10000000, .rc [.int .i64 (r__0, (r__1, (r__2, (r__3, r__4)))).1, .imm (.int .i64) (r__0, (r__1, (r__2, (r__3, r__4)))).2.1, .imm (.int .i64) (r__0, (r__1, (r__2, (r__3, r__4)))).2.2.1, .int .i64 (r__0, (r__1, (r__2, (r__3, r__4)))).2.2.2.1, .imm (.sl (.int .i64)) (r__0, (r__1, (r__2, (r__3, r__4)))).2.2.2.2])]) rfl rfl ⟨⟨rfl, .inl rfl, .inl rfl, rfl, .inl rfl, trivial⟩, trivial⟩ ⟨⟨⟨rfl, rfl⟩, rfl⟩, rfl, trivial⟩) ?_
  rintro i J1 he
  refine And.intro (fun hb => ?_) (fun hb => ?_)
  · have he := ok_t he hb
    refine And.intro (by kernel_rfl) ?_
    have he := ok_rq he
    refine And.intro he.1 ?_
    have he := he.2
    refine And.intro (fun hb => ?_) (fun hb => ?_)
    · have he := ok_t he hb
      have he := ok_some he
      exact ⟨rfl, _, _, (leads_ren [] (l := [(2, .c (.bool false))]) (st' := []) rfl rfl trivial ⟨.inr rfl, trivial⟩), he⟩
    · have he := ok_f he hb
      refine loop_model mixed tys_ok t_spec_l6Table (S := Int) (I := (fun k_ => (envOf [(1, .c (.ptr 10001000 0)), (3, .c (.int .i64 i)), (4, .c (.int .i64 k_))], [(10001000, .rc [.int .i64 (r__0, (r__1, (r__2, (r__3, r__4)))).1, .imm (.int .i64) (r__0, (r__1, (r__2, (r__3, r__4)))).2.1, .imm (.int .i64) (r__0, (r__1, (r__2, (r__3, r__4)))).2.2.1, .int .i64 (r__0, (r__1, (r__2, (r__3, r__4)))).2.2.2.1, .imm (.sl (.int .i64)) (r__0, (r__1, (r__2, (r__3, r__4)))).2.2.2.2])]))) (f := spec_l6Table_l2 (r__0, (r__1, (r__2, (r__3, r__4)))) i) (K := (LK J1 (fun r => k (.c (.bool r)) []))) he (leads_ren [(10001000, 10000000)] (l := [(1, .c (.ptr 10001000 0)), (3, .c (.int .i64 i)), (4, .c (.int .i64 (0:Int)))]) (st' := [(10001000, .rc [.int .i64 (r__0, (r__1, (r__2, (r__3, r__4)))).1, .imm (.int .i64) (r__0, (r__1, (r__2, (r__3, r__4)))).2.1, .imm (.int .i64) (r__0, (r__1, (r__2, (r__3, r__4)))).2.2.1, .int .i64 (r__0, (r__1, (r__2, (r__3, r__4)))).2.2.2.1, .imm (.sl (.int .i64)) (r__0, (r__1, (r__2, (r__3, r__4)))).2.2.2.2])]) rfl rfl ⟨⟨rfl, .inl rfl, .inl rfl, rfl, .inl rfl, trivial⟩, trivial⟩ ⟨⟨⟨rfl, rfl⟩, rfl⟩, rfl, rfl, trivial⟩) ?_
      rintro k_ J2 he
      have he := ok_rq he
      refine And.intro he.1 ?_
      have he := he.2
      refine And.intro (fun hb => ?_) (fun hb => ?_)
      · have he := ok_t he hb
        have he := ok_rq he
        refine And.intro he.1 ?_
        have he := he.2
        have he := ok_rq he
        refine And.intro he.1 ?_
        have he := he.2
        refine And.intro (fun hb => ?_) (fun hb => ?_)
        · have he := ok_f he hb
          have he := ok_rq he
          refine And.intro he.1 ?_
          have he := he.2
          have he := ok_rq he
          refine And.intro he.1 ?_
          have he := he.2
          refine And.intro (fun hb => ?_) (fun hb => ?_)
          · have he := ok_t he hb
            have he := ok_some he
            exact ⟨rfl, _, _, (leads_ren [] (l := [(2, .c (.bool false))]) (st' := []) rfl rfl trivial ⟨.inr rfl, trivial⟩), he⟩
          · have he := ok_f he hb
            have he := ok_rq he
            refine And.intro he.1 ?_
            have he := he.2
            have he := ok_some he
            exact ⟨(k_ + (1:Int)), he, (leads_ren [] (l := [(1, .c (.ptr 10001000 0)), (3, .c (.int .i64 i)), (4, .c (.int .i64 (k_ + (1:Int))))]) (st' := [(10001000, .rc [.int .i64 (r__0, (r__1, (r__2, (r__3, r__4)))).1, .imm (.int .i64) (r__0, (r__1, (r__2, (r__3, r__4)))).2.1, .imm (.int .i64) (r__0, (r__1, (r__2, (r__3, r__4)))).2.2.1, .int .i64 (r__0, (r__1, (r__2, (r__3, r__4)))).2.2.2.1, .imm (.sl (.int .i64)) (r__0, (r__1, (r__2, (r__3, r__4)))).2.2.2.2])]) rfl rfl ⟨⟨rfl, .inl rfl, .inl rfl, rfl, .inl rfl, trivial⟩, trivial⟩ ⟨⟨⟨rfl, rfl⟩, rfl⟩, rfl, rfl, trivial⟩)⟩
        · have he := ok_t he hb
          have he := ok_some he
          exact ⟨rfl, _, _, (leads_ren [] (l := [(2, .c (.bool false))]) (st' := []) rfl rfl trivial ⟨.inr rfl, trivial⟩), he⟩
      · have he := ok_f he hb
        have he := ok_rq he
        refine And.intro he.1 ?_
        have he := he.2
        have he := ok_some he
        exact ⟨(i + (1:Int)), he, (leads_ren [(10000000, 10001000)] (l := [(1, .c (.ptr 10000000 0)), (3, .c (.int .i64 (i + (1:Int))))]) (st' := [(10000000, .rc [.int .i64 (r__0, (r__1, (r__2, (r__3, r__4)))).1, .imm (.int .i64) (r__0, (r__1, (r__2, (r__3, r__4)))).2.1, .imm (.int .i64) (r__0, (r__1, (r__2, (r__3, r__4)))).2.2.1, .int .i64 (r__0, (r__1, (r__2, (r__3, r__4)))).2.2.2.1, .imm (.sl (.int .i64)) (r__0, (r__1, (r__2, (r__3, r__4)))).2.2.2.2])]) rfl rfl ⟨⟨rfl, .inl rfl, .inl rfl, rfl, .inl rfl, trivial⟩, trivial⟩ ⟨⟨⟨rfl, rfl⟩, rfl⟩, rfl, trivial⟩)⟩
  · have he := ok_f he hb
    have he := ok_some he
    exact ⟨rfl, _, _, (leads_ren [] (l := [(2, .c (.bool (decide (((r__0, (r__1, (r__2, (r__3, r__4)))).2.2.2.2.length:Int) ≤ (8:Int)))))]) (st' := []) rfl rfl trivial ⟨.inl rfl, trivial⟩), he⟩

noncomputable def c_spec_l6Rule : Con := fun args st => match args, st with
  | [.agg [.imm (.int .i64) m_0, .imm (.pair (.int .i64) (.pair (.sl (.int .i64)) (.pair (.sl (.int .i64)) (.pair (.int .i64) (.sl (.sl (.int .i64))))))) m_1], .agg [.int .i64 r__0, .imm (.int .i64) r__1, .imm (.int .i64) r__2, .int .i64 r__3, .imm (.sl (.int .i64)) r__4]], [] => .opt (Bool) (spec_l6Rule (m_0, m_1) (r__0, (r__1, (r__2, (r__3, r__4))))) (fun r => .ret (.c (.bool r)) [])
  | _, _ => .fail

noncomputable def C_spec_l6Rule : Cfg := { y := tys, n := 55, h := 0, tab := [(104, c_spec_l6Vars), (190, c_spec_l6Linear), (191, c_spec_l6Table)], cut := [3], hand := [], good := [], deep := [], sched := [] }

theorem t_spec_l6Rule : TabOk Try.prog C_spec_l6Rule := by
  refine tabOk_of ?_
  simp only [C_spec_l6Rule, List.forall_mem_cons]
  exact ⟨k_spec_l6Vars, k_spec_l6Linear, k_spec_l6Table, fun p h => by cases h⟩

theorem k_spec_l6Rule : Entry Try.prog 160 c_spec_l6Rule := by
  refine entry_by (C := C_spec_l6Rule) mixed tys_ok t_spec_l6Rule (fn := Try.f160) (c := bd Try.f160) (by kernel_rfl) (by kernel_rfl) (by kernel_rfl) (by kernel_rfl) ?_
  intro args st k he
  unfold c_spec_l6Rule at he
  split at he
  rotate_left
  · exact he.elim
  rename_i m_0 m_1 r__0 r__1 r__2 r__3 r__4
  have he : Ok (spec_l6Rule (m_0, m_1) (r__0, (r__1, (r__2, (r__3, r__4))))) (fun r => k (.c (.bool r)) []) := he
  refine ⟨rfl, rfl, ?_⟩
  refine seq_model mixed tys_ok t_spec_l6Rule (S := Unit) (I := (fun _ => (envOf [(3, .c (.ptr 10000000 0))], [(10000000, .rc [.int .i64 (r__0, (r__1, (r__2, (r__3, r__4)))).1, .imm (.int .i64) (r__0, (r__1, (r__2, (r__3, r__4)))).2.1, .imm (.int .i64) (r__0, (r__1, (r__2, (r__3, r__4)))).2.2.1, .int .i64 (r__0, (r__1, (r__2, (r__3, r__4)))).2.2.2.1, .imm (.sl (.int .i64)) (r__0, (r__1, (r__2, (r__3, r__4)))).2.2.2.2])]))) (B := fun s => Ok (spec_l6Rule_j1 (r__0, (r__1, (r__2, (r__3, r__4)))) s) (fun r => k (.c (.bool r)) [])) ?_ ?_
  · rintro ⟨⟩ he
    refine And.intro (fun hb => ?_) (fun hb => ?_)
    · have he := ok_t he hb
      obtain ⟨r2_, hr, he⟩ := ok_bind he
      refine ⟨r2_, hr, ?_⟩
      have he := ok_some he
      exact ⟨rfl, _, _, (leads_ren [] (l := [(4, .c (.bool r2_))]) (st' := []) rfl rfl trivial ⟨.inl rfl, trivial⟩), he⟩
    · have he := ok_f he hb
      refine And.intro (fun hb => ?_) (fun hb => ?_)
      · have he := ok_t he hb
        have he := ok_some he
        exact ⟨rfl, _, _, (leads_ren [] (l := [(4, .c (.bool true))]) (st' := []) rfl rfl trivial ⟨.inr rfl, trivial⟩), he⟩
      · have he := ok_f he hb
        refine And.intro (fun hb => ?_) (fun hb => ?_)
        · have he := ok_t he hb
          obtain ⟨r3_, hr, he⟩ := ok_bind he
          refine ⟨r3_, hr, ?_⟩
          have he := ok_some he
          exact ⟨rfl, _, _, (leads_ren [] (l := [(4, .c (.bool r3_))]) (st' := []) rfl rfl trivial ⟨.inl rfl, trivial⟩), he⟩
        · have he := ok_f he hb
          refine And.intro (fun hb => ?_) (fun hb => ?_)
          · have he := ok_t he hb
            have he := ok_some he
            exact ⟨rfl, _, _, (leads_ren [] (l := [(4, .c (.bool (((r__0, (r__1, (r__2, (r__3, r__4)))).2.1.length:Int) == (2:Int))))]) (st' := []) rfl rfl trivial ⟨.inl rfl, trivial⟩), he⟩
          · have he := ok_f he hb
            have he := ok_some he
            exact ⟨rfl, _, _, (leads_ren [] (l := [(4, .c (.bool false))]) (st' := []) rfl rfl trivial ⟨.inr rfl, trivial⟩), he⟩
  · skip
    obtain ⟨r1_, hr, he⟩ := ok_bind he
    refine ⟨r1_, hr, ?_⟩
    refine And.intro (fun hb => ?_) (fun hb => ?_)
    · have he := ok_f he hb
      refine And.intro (fun hb => ?_) (fun hb => ?_)
      · have he := ok_t he hb
        refine And.intro (fun hb => ?_) (fun hb => ?_)
        · have he := ok_f he hb
          refine And.intro (fun hb => ?_) (fun hb => ?_)
          · have he := ok_f he hb
            refine And.intro (fun hb => ?_) (fun hb => ?_)
            · have he := ok_t he hb
              refine And.intro (fun hb => ?_) (fun hb => ?_)
              · have he := ok_t he hb
                have he := ok_some he
                exact ⟨rfl, _, _, (leads_ren [] (l := [(4, .c (.bool false))]) (st' := []) rfl rfl trivial ⟨.inr rfl, trivial⟩), he⟩
              · have he := ok_f he hb
                exact ⟨(), he, (leads_ren [(10000000, 3)] (l := [(3, .c (.ptr 10000000 0))]) (st' := [(10000000, .rc [.int .i64 (r__0, (r__1, (r__2, (r__3, r__4)))).1, .imm (.int .i64) (r__0, (r__1, (r__2, (r__3, r__4)))).2.1, .imm (.int .i64) (r__0, (r__1, (r__2, (r__3, r__4)))).2.2.1, .int .i64 (r__0, (r__1, (r__2, (r__3, r__4)))).2.2.2.1, .imm (.sl (.int .i64)) (r__0, (r__1, (r__2, (r__3, r__4)))).2.2.2.2])]) rfl rfl ⟨⟨rfl, .inl rfl, .inl rfl, rfl, .inl rfl, trivial⟩, trivial⟩ ⟨⟨⟨rfl, rfl⟩, rfl⟩, trivial⟩)⟩
            · have he := ok_f he hb
              exact ⟨(), he, (leads_ren [(10000000, 3)] (l := [(3, .c (.ptr 10000000 0))]) (st' := [(10000000, .rc [.int .i64 (r__0, (r__1, (r__2, (r__3, r__4)))).1, .imm (.int .i64) (r__0, (r__1, (r__2, (r__3, r__4)))).2.1, .imm (.int .i64) (r__0, (r__1, (r__2, (r__3, r__4)))).2.2.1, .int .i64 (r__0, (r__1, (r__2, (r__3, r__4)))).2.2.2.1, .imm (.sl (.int .i64)) (r__0, (r__1, (r__2, (r__3, r__4)))).2.2.2.2])]) rfl rfl ⟨⟨rfl, .inl rfl, .inl rfl, rfl, .inl rfl, trivial⟩, trivial⟩ ⟨⟨⟨rfl, rfl⟩, rfl⟩, trivial⟩)⟩
          · have he := ok_t he hb
            have he := ok_some he
            exact ⟨rfl, _, _, (leads_ren [] (l := [(4, .c (.bool false))]) (st' := []) rfl rfl trivial ⟨.inr rfl, trivial⟩), he⟩
        · have he := ok_t he hb
          have he := ok_some he
          exact ⟨rfl, _, _, (leads_ren [] (l := [(4, .c (.bool false))]) (st' := []) rfl rfl trivial ⟨.inr rfl, trivial⟩), he⟩
      · have he := ok_f he hb
        refine And.intro (fun hb => ?_) (fun hb => ?_)
        · have he := ok_t he hb
          refine And.intro (fun hb => ?_) (fun hb => ?_)
          · have he := ok_t he hb
            have he := ok_some he
            exact ⟨rfl, _, _, (leads_ren [] (l := [(4, .c (.bool false))]) (st' := []) rfl rfl trivial ⟨.inr rfl, trivial⟩), he⟩
          · have he := ok_f he hb
            exact ⟨(), he, (leads_ren [(10000000, 3)] (l := [(3, .c (.ptr 10000000 0))]) (st' := [(10000000, .rc [.int .i64 (r__0, (r__1, (r__2, (r__3, r__4)))).1, .imm (.int .i64) (r__0, (r__1, (r__2, (r__3, r__4)))).2.1, .imm (.int .i64) (r__0, (r__1, (r__2, (r__3, r__4)))).2.2.1, .int .i64 (r__0, (r__1, (r__2, (r__3, r__4)))).2.2.2.1, .imm (.sl (.int .i64)) (r__0, (r__1, (r__2, (r__3, r__4)))).2.2.2.2])]) rfl rfl ⟨⟨rfl, .inl rfl, .inl rfl, rfl, .inl rfl, trivial⟩, trivial⟩ ⟨⟨⟨rfl, rfl⟩, rfl⟩, trivial⟩)⟩
        · have he := ok_f he hb
          exact ⟨(), he, (leads_ren [(10000000, 3)] (l := [(3, .c (.ptr 10000000 0))]) (st' := [(10000000, .rc [.int .i64 (r__0, (r__1, (r__2, (r__3, r__4)))).1, .imm (.int .i64) (r__0, (r__1, (r__2, (r__3, r__4)))).2.1, .imm (.int .i64) (r__0, (r__1, (r__2, (r__3, r__4)))).2.2.1, .int .i64 (r__0, (r__1, (r__2, (r__3, r__4)))).2.2.2.1, .imm (.sl (.int .i64)) (r__0, (r__1, (r__2, (r__3, r__4)))).2.2.2.2])]) rfl rfl ⟨⟨rfl, .inl rfl, .inl rfl, rfl, .inl rfl, trivial⟩, trivial⟩ ⟨⟨⟨rfl, rfl⟩, rfl⟩, trivial⟩)⟩
    · have he := ok_t he hb
      have he := ok_some he
      exact ⟨rfl, _, _, (leads_ren [] (l := [(4, .c (.bool false))]) (st' := []) rfl rfl trivial ⟨.inr rfl, trivial⟩), he⟩

noncomputable def c_spec_ModelValid : Con := fun args st => match args, st with
  | [.agg [.imm (.int .i64) a0_0, .imm (.pair (.int .i64) (.pair (.sl (.int .i64)) (.pair (.sl (.int .i64)) (.pair (.int .i64) (.sl (.sl (.int .i64))))))) a0_1]], [] => .opt (Bool) (spec_ModelValid (a0_0, a0_1)) (fun r => .ret (.c (.bool r)) [])
  | _, _ => .fail

noncomputable def C_spec_ModelValid : Cfg := { y := tys, n := 74, h := 0, tab := [(160, c_spec_l6Rule)], cut := [8], hand := [], good := [], deep := [], sched := [(13, (.first 1 (.first 3 (.alt 0 (.alt 2 (.first 4 (.first 5 (.alt 6 (.first 7 .done) .stop))) .stop) (.alt 2 (.first 4 (.first 5 (.alt 0 (.alt 6 (.first 7 .done) .stop) .stop))) .stop)))))] }

theorem t_spec_ModelValid : TabOk Try.prog C_spec_ModelValid := by
  refine tabOk_of ?_
  simp only [C_spec_ModelValid, List.forall_mem_cons]
  exact ⟨k_spec_l6Rule, fun p h => by cases h⟩

theorem k_spec_ModelValid : Entry Try.prog 103 c_spec_ModelValid := by
  refine entry_by (C := C_spec_ModelValid) mixed tys_ok t_spec_ModelValid (fn := Try.f103) (c := bd Try.f103) (by kernel_rfl) (by kernel_rfl) (by kernel_rfl) (by kernel_rfl) ?_
  intro args st k he
  unfold c_spec_ModelValid at he
  split at he
  rotate_left
  · exact he.elim
  rename_i a0_0 a0_1
  have he : Ok (spec_ModelValid (a0_0, a0_1)) (fun r => k (.c (.bool r)) []) := he
  refine ⟨rfl, rfl, ?_⟩
  refine seq_model mixed tys_ok t_spec_ModelValid (S := Int) (I := (fun i2 => (envOf [(1, .c (.ptr 10001000 0)), (3, .c (.int .i64 i2))], [(10001000, .rc [.imm (.int .i64) (a0_0, a0_1).1, .imm (.pair (.int .i64) (.pair (.sl (.int .i64)) (.pair (.sl (.int .i64)) (.pair (.int .i64) (.sl (.sl (.int .i64))))))) (a0_0, a0_1).2])]))) (B := fun s => Ok (spec_ModelValid_j1 (a0_0, a0_1) s) (fun r => k (.c (.bool r)) [])) ?_ ?_
  · rintro i2 he
    refine And.intro (fun hb => ?_) (fun hb => ?_)
    · have he := ok_f he hb
      refine And.intro (fun hb => ?_) (fun hb => ?_)
      · have he := ok_f he hb
        refine And.intro (fun hb => ?_) (fun hb => ?_)
        · have he := ok_f he hb
          refine And.intro (fun hb => ?_) (fun hb => ?_)
          · have he := ok_t he hb
            have he := ok_some he
            exact ⟨rfl, _, _, (leads_ren [] (l := [(2, .c (.bool false))]) (st' := []) rfl rfl trivial ⟨.inr rfl, trivial⟩), he⟩
          · have he := ok_f he hb
            refine loop_model mixed tys_ok t_spec_ModelValid (S := Int) (I := (fun i3 => (envOf [(1, .c (.ptr 10002000 0)), (5, .c (.int .i64 i3))], [(10002000, .rc [.imm (.int .i64) (a0_0, a0_1).1, .imm (.pair (.int .i64) (.pair (.sl (.int .i64)) (.pair (.sl (.int .i64)) (.pair (.int .i64) (.sl (.sl (.int .i64))))))) (a0_0, a0_1).2])]))) (f := spec_ModelValid_l1 (a0_0, a0_1)) (K := (fun r => k (.c (.bool r)) [])) he (leads_ren [(10002000, 10001000)] (l := [(1, .c (.ptr 10002000 0)), (5, .c (.int .i64 (0:Int)))]) (st' := [(10002000, .rc [.imm (.int .i64) (a0_0, a0_1).1, .imm (.pair (.int .i64) (.pair (.sl (.int .i64)) (.pair (.sl (.int .i64)) (.pair (.int .i64) (.sl (.sl (.int .i64))))))) (a0_0, a0_1).2])]) rfl rfl ⟨⟨.inl rfl, .inl rfl, trivial⟩, trivial⟩ ⟨⟨⟨rfl, rfl⟩, rfl⟩, rfl, trivial⟩) ?_
            rintro i3 J1 he
            refine And.intro (fun hb => ?_) (fun hb => ?_)
            · have he := ok_t he hb
              refine And.intro (by kernel_rfl) ?_
              have he := ok_rq he
              have hq1 := he.1
              have he := he.2
              obtain ⟨r2_, hq2, he⟩ := ok_bind he
              refine And.intro ?_ (And.intro ?_ (trivial))
              · skip
                refine And.intro ?_ trivial
                refine And.intro hq1 ?_
                refine And.intro ?_ trivial
                refine ⟨r2_, hq2, ?_⟩
                refine And.intro (fun hb => ?_) (fun hb => ?_)
                · have he := ok_t he hb
                  have he := ok_some he
                  exact ⟨rfl, _, _, (leads_ren [] (l := [(2, .c (.bool false))]) (st' := []) rfl rfl trivial ⟨.inr rfl, trivial⟩), he⟩
                · have he := ok_f he hb
                  have he := ok_rq he
                  refine And.intro he.1 ?_
                  have he := he.2
                  have he := ok_some he
                  exact ⟨(i3 + (1:Int)), he, (leads_ren [] (l := [(1, .c (.ptr 10002000 0)), (5, .c (.int .i64 (i3 + (1:Int))))]) (st' := [(10002000, .rc [.imm (.int .i64) (a0_0, a0_1).1, .imm (.pair (.int .i64) (.pair (.sl (.int .i64)) (.pair (.sl (.int .i64)) (.pair (.int .i64) (.sl (.sl (.int .i64))))))) (a0_0, a0_1).2])]) rfl rfl ⟨⟨.inl rfl, .inl rfl, trivial⟩, trivial⟩ ⟨⟨⟨rfl, rfl⟩, rfl⟩, rfl, trivial⟩)⟩
              · skip
                refine And.intro hq1 ?_
                refine And.intro ?_ trivial
                refine And.intro ?_ trivial
                refine ⟨r2_, hq2, ?_⟩
                refine And.intro (fun hb => ?_) (fun hb => ?_)
                · have he := ok_t he hb
                  have he := ok_some he
                  exact ⟨rfl, _, _, (leads_ren [] (l := [(2, .c (.bool false))]) (st' := []) rfl rfl trivial ⟨.inr rfl, trivial⟩), he⟩
                · have he := ok_f he hb
                  have he := ok_rq he
                  refine And.intro he.1 ?_
                  have he := he.2
                  have he := ok_some he
                  exact ⟨(i3 + (1:Int)), he, (leads_ren [] (l := [(1, .c (.ptr 10002000 0)), (5, .c (.int .i64 (i3 + (1:Int))))]) (st' := [(10002000, .rc [.imm (.int .i64) (a0_0, a0_1).1, .imm (.pair (.int .i64) (.pair (.sl (.int .i64)) (.pair (.sl (.int .i64)) (.pair (.int .i64) (.sl (.sl (.int .i64))))))) (a0_0, a0_1).2])]) rfl rfl ⟨⟨.inl rfl, .inl rfl, trivial⟩, trivial⟩ ⟨⟨⟨rfl, rfl⟩, rfl⟩, rfl, trivial⟩)⟩
            · have he := ok_f he hb
              have he := ok_some he
              exact ⟨rfl, _, _, (leads_ren [] (l := [(2, .c (.bool true))]) (st' := []) rfl rfl trivial ⟨.inr rfl, trivial⟩), he⟩
        · have he := ok_t he hb
          have he := ok_some he
          exact ⟨rfl, _, _, (leads_ren [] (l := [(2, .c (.bool false))]) (st' := []) rfl rfl trivial ⟨.inr rfl, trivial⟩), he⟩
      · have he := ok_t he hb
        have he := ok_some he
        exact ⟨rfl, _, _, (leads_ren [] (l := [(2, .c (.bool false))]) (st' := []) rfl rfl trivial ⟨.inr rfl, trivial⟩), he⟩
    · have he := ok_t he hb
      have he := ok_some he
      exact ⟨rfl, _, _, (leads_ren [] (l := [(2, .c (.bool false))]) (st' := []) rfl rfl trivial ⟨.inr rfl, trivial⟩), he⟩
  · skip
    refine loop_model mixed tys_ok t_spec_ModelValid (S := Int × Int) (I := (fun (i, i1) => (envOf [(1, .c (.ptr 10000000 0)), (3, .c (.int .i64 i)), (4, .c (.int .i64 i1))], [(10000000, .rc [.imm (.int .i64) (a0_0, a0_1).1, .imm (.pair (.int .i64) (.pair (.sl (.int .i64)) (.pair (.sl (.int .i64)) (.pair (.int .i64) (.sl (.sl (.int .i64))))))) (a0_0, a0_1).2])]))) (f := spec_ModelValid_l2 (a0_0, a0_1)) (K := (fun r => k (.c (.bool r)) [])) he (leads_ren [(10000000, 1)] (l := [(1, .c (.ptr 10000000 0)), (3, .c (.int .i64 (0:Int))), (4, .c (.int .i64 (0:Int)))]) (st' := [(10000000, .rc [.imm (.int .i64) (a0_0, a0_1).1, .imm (.pair (.int .i64) (.pair (.sl (.int .i64)) (.pair (.sl (.int .i64)) (.pair (.int .i64) (.sl (.sl (.int .i64))))))) (a0_0, a0_1).2])]) rfl rfl ⟨⟨.inl rfl, .inl rfl, trivial⟩, trivial⟩ ⟨⟨⟨rfl, rfl⟩, rfl⟩, rfl, rfl, trivial⟩) ?_
    rintro ⟨i, i1⟩ J1 he
    refine And.intro (fun hb => ?_) (fun hb => ?_)
    · have he := ok_t he hb
      refine And.intro (fun hb => ?_) (fun hb => ?_)
      · have he := ok_t he hb
        have he := ok_rq he
        refine And.intro he.1 ?_
        have he := he.2
        refine And.intro (fun hb => ?_) (fun hb => ?_)
        · have he := ok_f he hb
          have he := ok_rq he
          refine And.intro he.1 ?_
          have he := he.2
          refine And.intro (fun hb => ?_) (fun hb => ?_)
          · have he := ok_t he hb
            have he := ok_some he
            exact ⟨rfl, _, _, (leads_ren [] (l := [(2, .c (.bool false))]) (st' := []) rfl rfl trivial ⟨.inr rfl, trivial⟩), he⟩
          · have he := ok_f he hb
            have he := ok_rq he
            refine And.intro he.1 ?_
            have he := he.2
            have he := ok_rq he
            refine And.intro he.1 ?_
            have he := he.2
            have he := ok_rq he
            refine And.intro he.1 ?_
            have he := he.2
            have he := ok_rq he
            refine And.intro he.1 ?_
            have he := he.2
            have he := ok_some he
            exact ⟨(((i + ((a0_0, a0_1).1.getD i1.toNat 0)) + (1:Int)), (i1 + (1:Int))), he, (leads_ren [] (l := [(1, .c (.ptr 10000000 0)), (3, .c (.int .i64 ((i + ((a0_0, a0_1).1.getD i1.toNat 0)) + (1:Int)))), (4, .c (.int .i64 (i1 + (1:Int))))]) (st' := [(10000000, .rc [.imm (.int .i64) (a0_0, a0_1).1, .imm (.pair (.int .i64) (.pair (.sl (.int .i64)) (.pair (.sl (.int .i64)) (.pair (.int .i64) (.sl (.sl (.int .i64))))))) (a0_0, a0_1).2])]) rfl rfl ⟨⟨.inl rfl, .inl rfl, trivial⟩, trivial⟩ ⟨⟨⟨rfl, rfl⟩, rfl⟩, rfl, rfl, trivial⟩)⟩
        · have he := ok_t he hb
          have he := ok_some he
          exact ⟨rfl, _, _, (leads_ren [] (l := [(2, .c (.bool false))]) (st' := []) rfl rfl trivial ⟨.inr rfl, trivial⟩), he⟩
      · have he := ok_f he hb
        exact ⟨i, ok_up he, (leads_ren [(10001000, 10000000)] (l := [(1, .c (.ptr 10001000 0)), (3, .c (.int .i64 i))]) (st' := [(10001000, .rc [.imm (.int .i64) (a0_0, a0_1).1, .imm (.pair (.int .i64) (.pair (.sl (.int .i64)) (.pair (.sl (.int .i64)) (.pair (.int .i64) (.sl (.sl (.int .i64))))))) (a0_0, a0_1).2])]) rfl rfl ⟨⟨.inl rfl, .inl rfl, trivial⟩, trivial⟩ ⟨⟨⟨rfl, rfl⟩, rfl⟩, rfl, trivial⟩)⟩
    · have he := ok_f he hb
      exact ⟨i, ok_up he, (leads_ren [(10001000, 10000000)] (l := [(1, .c (.ptr 10001000 0)), (3, .c (.int .i64 i))]) (st' := [(10001000, .rc [.imm (.int .i64) (a0_0, a0_1).1, .imm (.pair (.int .i64) (.pair (.sl (.int .i64)) (.pair (.sl (.int .i64)) (.pair (.int .i64) (.sl (.sl (.int .i64))))))) (a0_0, a0_1).2])]) rfl rfl ⟨⟨.inl rfl, .inl rfl, trivial⟩, trivial⟩ ⟨⟨⟨rfl, rfl⟩, rfl⟩, rfl, trivial⟩)⟩

noncomputable def c_spec_PermValid : Con := fun args st => match args, st with
  | [.agg [.imm (.int .i64) m_0, .imm (.pair (.int .i64) (.pair (.sl (.int .i64)) (.pair (.sl (.int .i64)) (.pair (.int .i64) (.sl (.sl (.int .i64))))))) m_1], .c (.imm (.int .i64) perm)], [] => .opt (Bool) (spec_PermValid (m_0, m_1) perm) (fun r => .ret (.c (.bool r)) [])
  | _, _ => .fail

noncomputable def C_spec_PermValid : Cfg := { y := tys, n := 43, h := 0, tab := [(103, c_spec_ModelValid), (104, c_spec_l6Vars)], cut := [], hand := [], good := [], deep := [], sched := [] }

theorem t_spec_PermValid : TabOk Try.prog C_spec_PermValid := by
  refine tabOk_of ?_
  simp only [C_spec_PermValid, List.forall_mem_cons]
  exact ⟨k_spec_ModelValid, k_spec_l6Vars, fun p h => by cases h⟩

theorem k_spec_PermValid : Entry Try.prog 40 c_spec_PermValid := by
  refine entry_by (C := C_spec_PermValid) mixed tys_ok t_spec_PermValid (fn := Try.f40) (c := bd Try.f40) (by kernel_rfl) (by kernel_rfl) (by kernel_rfl) (by kernel_rfl) ?_
  intro args st k he
  unfold c_spec_PermValid at he
  split at he
  rotate_left
  · exact he.elim
  rename_i m_0 m_1 perm
  have he : Ok (spec_PermValid (m_0, m_1) perm) (fun r => k (.c (.bool r)) []) := he
  refine ⟨rfl, rfl, ?_⟩
  obtain ⟨r1_, hr, he⟩ := ok_bind he
  refine ⟨r1_, hr, ?_⟩
  refine And.intro (fun hb => ?_) (fun hb => ?_)
  · have he := ok_f he hb
    refine And.intro (fun hb => ?_) (fun hb => ?_)
    · have he := ok_f he hb
      obtain ⟨r2_, hr, he⟩ := ok_bind he
      refine ⟨r2_, hr, ?_⟩
      refine And.intro (fun hb => ?_) (fun hb => ?_)
      · have he := ok_t he hb
        have he := ok_some he
        exact ⟨rfl, _, _, (leads_ren [] (l := [(4, .c (.bool false))]) (st' := []) rfl rfl trivial ⟨.inr rfl, trivial⟩), he⟩
      · have he := ok_f he hb
        refine loop_model mixed tys_ok t_spec_PermValid (S := Int) (I := (fun i => (envOf [(1, .c (.imm (.int .i64) perm)), (2, .c (.ptr 10000000 0)), (5, .c (.int .i64 i))], [(10000000, .rc [.imm (.int .i64) (m_0, m_1).1, .imm (.pair (.int .i64) (.pair (.sl (.int .i64)) (.pair (.sl (.int .i64)) (.pair (.int .i64) (.sl (.sl (.int .i64))))))) (m_0, m_1).2])]))) (f := spec_PermValid_l1 (m_0, m_1) perm) (K := (fun r => k (.c (.bool r)) [])) he (leads_ren [(10000000, 2)] (l := [(1, .c (.imm (.int .i64) perm)), (2, .c (.ptr 10000000 0)), (5, .c (.int .i64 (0:Int)))]) (st' := [(10000000, .rc [.imm (.int .i64) (m_0, m_1).1, .imm (.pair (.int .i64) (.pair (.sl (.int .i64)) (.pair (.sl (.int .i64)) (.pair (.int .i64) (.sl (.sl (.int .i64))))))) (m_0, m_1).2])]) rfl rfl ⟨⟨.inl rfl, .inl rfl, trivial⟩, trivial⟩ ⟨.inl rfl, ⟨⟨rfl, rfl⟩, rfl⟩, rfl, trivial⟩) ?_
        rintro i J1 he
        refine And.intro (fun hb => ?_) (fun hb => ?_)
        · have he := ok_t he hb
          refine And.intro (by kernel_rfl) ?_
          have he := ok_rq he
          refine And.intro he.1 ?_
          have he := he.2
          have he := ok_rq he
          refine And.intro he.1 ?_
          have he := he.2
          have he := ok_rq he
          refine And.intro he.1 ?_
          have he := he.2
          refine And.intro (fun hb => ?_) (fun hb => ?_)
          · have he := ok_t he hb
            have he := ok_some he
            exact ⟨rfl, _, _, (leads_ren [] (l := [(4, .c (.bool false))]) (st' := []) rfl rfl trivial ⟨.inr rfl, trivial⟩), he⟩
          · have he := ok_f he hb
            have he := ok_rq he
            refine And.intro he.1 ?_
            have he := he.2
            have he := ok_some he
            exact ⟨(i + (1:Int)), he, (leads_ren [] (l := [(1, .c (.imm (.int .i64) perm)), (2, .c (.ptr 10000000 0)), (5, .c (.int .i64 (i + (1:Int))))]) (st' := [(10000000, .rc [.imm (.int .i64) (m_0, m_1).1, .imm (.pair (.int .i64) (.pair (.sl (.int .i64)) (.pair (.sl (.int .i64)) (.pair (.int .i64) (.sl (.sl (.int .i64))))))) (m_0, m_1).2])]) rfl rfl ⟨⟨.inl rfl, .inl rfl, trivial⟩, trivial⟩ ⟨.inl rfl, ⟨⟨rfl, rfl⟩, rfl⟩, rfl, trivial⟩)⟩
        · have he := ok_f he hb
          have he := ok_some he
          exact ⟨rfl, _, _, (leads_ren [] (l := [(4, .c (.bool true))]) (st' := []) rfl rfl trivial ⟨.inr rfl, trivial⟩), he⟩
    · have he := ok_t he hb
      have he := ok_some he
      exact ⟨rfl, _, _, (leads_ren [] (l := [(4, .c (.bool false))]) (st' := []) rfl rfl trivial ⟨.inr rfl, trivial⟩), he⟩
  · have he := ok_t he hb
    have he := ok_some he
    exact ⟨rfl, _, _, (leads_ren [] (l := [(4, .c (.bool false))]) (st' := []) rfl rfl trivial ⟨.inr rfl, trivial⟩), he⟩

noncomputable def c_spec_l6Cells : Con := fun args st => match args, st with
  | [.agg [.imm (.int .i64) m_0, .imm (.pair (.int .i64) (.pair (.sl (.int .i64)) (.pair (.sl (.int .i64)) (.pair (.int .i64) (.sl (.sl (.int .i64))))))) m_1], .c (.imm (.int .i64) cells)], [] => .opt (Bool) (spec_l6Cells (m_0, m_1) cells) (fun r => .ret (.c (.bool r)) [])
  | _, _ => .fail

noncomputable def C_spec_l6Cells : Cfg := { y := tys, n := 35, h := 0, tab := [], cut := [], hand := [], good := [], deep := [], sched := [] }

theorem t_spec_l6Cells : TabOk Try.prog C_spec_l6Cells := tabOk_of (fun p h => by cases h)

theorem k_spec_l6Cells : Entry Try.prog 93 c_spec_l6Cells := by
  refine entry_by (C := C_spec_l6Cells) mixed tys_ok t_spec_l6Cells (fn := Try.f93) (c := bd Try.f93) (by kernel_rfl) (by kernel_rfl) (by kernel_rfl) (by kernel_rfl) ?_
  intro args st k he
  unfold c_spec_l6Cells at he
  split at he
  rotate_left
  · exact he.elim
  rename_i m_0 m_1 cells
  have he : Ok (spec_l6Cells (m_0, m_1) cells) (fun r => k (.c (.bool r)) []) := he
  refine ⟨rfl, rfl, ?_⟩
  refine And.intro (fun hb => ?_) (fun hb => ?_)
  · have he := ok_t he hb
    have he := ok_some he
    exact ⟨rfl, _, _, (leads_ren [] (l := [(4, .c (.bool false))]) (st' := []) rfl rfl trivial ⟨.inr rfl, trivial⟩), he⟩
  · have he := ok_f he hb
    refine loop_model mixed tys_ok t_spec_l6Cells (S := Int) (I := (fun i => (envOf [(1, .c (.imm (.int .i64) cells)), (2, .c (.ptr 10000000 0)), (5, .c (.int .i64 i))], [(10000000, .rc [.imm (.int .i64) (m_0, m_1).1, .imm (.pair (.int .i64) (.pair (.sl (.int .i64)) (.pair (.sl (.int .i64)) (.pair (.int .i64) (.sl (.sl (.int .i64))))))) (m_0, m_1).2])]))) (f := spec_l6Cells_l1 (m_0, m_1) cells) (K := (fun r => k (.c (.bool r)) [])) he (leads_ren [(10000000, 2)] (l := [(1, .c (.imm (.int .i64) cells)), (2, .c (.ptr 10000000 0)), (5, .c (.int .i64 (0:Int)))]) (st' := [(10000000, .rc [.imm (.int .i64) (m_0, m_1).1, .imm (.pair (.int .i64) (.pair (.sl (.int .i64)) (.pair (.sl (.int .i64)) (.pair (.int .i64) (.sl (.sl (.int .i64))))))) (m_0, m_1).2])]) rfl rfl ⟨⟨.inl rfl, .inl rfl, trivial⟩, trivial⟩ ⟨.inl rfl, ⟨⟨rfl, rfl⟩, rfl⟩, rfl, trivial⟩) ?_
    rintro i J1 he
    refine And.intro (fun hb => ?_) (fun hb => ?_)
    · have he := ok_t he hb
      refine And.intro (by kernel_rfl) ?_
      have he := ok_rq he
      refine And.intro he.1 ?_
      have he := he.2
      refine And.intro (fun hb => ?_) (fun hb => ?_)
      · have he := ok_f he hb
        have he := ok_rq he
        refine And.intro he.1 ?_
        have he := he.2
        have he := ok_rq he
        refine And.intro he.1 ?_
        have he := he.2
        refine And.intro (fun hb => ?_) (fun hb => ?_)
        · have he := ok_t he hb
          have he := ok_some he
          exact ⟨rfl, _, _, (leads_ren [] (l := [(4, .c (.bool false))]) (st' := []) rfl rfl trivial ⟨.inr rfl, trivial⟩), he⟩
        · have he := ok_f he hb
          have he := ok_rq he
          refine And.intro he.1 ?_
          have he := he.2
          have he := ok_some he
          exact ⟨(i + (1:Int)), he, (leads_ren [] (l := [(1, .c (.imm (.int .i64) cells)), (2, .c (.ptr 10000000 0)), (5, .c (.int .i64 (i + (1:Int))))]) (st' := [(10000000, .rc [.imm (.int .i64) (m_0, m_1).1, .imm (.pair (.int .i64) (.pair (.sl (.int .i64)) (.pair (.sl (.int .i64)) (.pair (.int .i64) (.sl (.sl (.int .i64))))))) (m_0, m_1).2])]) rfl rfl ⟨⟨.inl rfl, .inl rfl, trivial⟩, trivial⟩ ⟨.inl rfl, ⟨⟨rfl, rfl⟩, rfl⟩, rfl, trivial⟩)⟩
      · have he := ok_t he hb
        have he := ok_some he
        exact ⟨rfl, _, _, (leads_ren [] (l := [(4, .c (.bool false))]) (st' := []) rfl rfl trivial ⟨.inr rfl, trivial⟩), he⟩
    · have he := ok_f he hb
      have he := ok_some he
      exact ⟨rfl, _, _, (leads_ren [] (l := [(4, .c (.bool true))]) (st' := []) rfl rfl trivial ⟨.inr rfl, trivial⟩), he⟩

noncomputable def c_spec_l10Cells : Con := fun args st => match args, st with
  | [.c (.imm (.int .i64) perm), .c (.imm (.int .i64) cells)], [] => .opt ((List Int)) (spec_l10Cells perm cells) (fun r => .ret (.c (.own 900 false)) [(900, .sl 3 (.int .i64) r .shallow)])
  | _, _ => .fail

noncomputable def C_spec_l10Cells : Cfg := { y := tys, n := 27, h := 0, tab := [], cut := [], hand := [], good := [], deep := [], sched := [(5, (.first 0 (.first 1 (.first 2 (.first 3 (.first 4 (.first 5 (.first 6 (.first 7 (.first 8 (.first 9 (.alt 10 .done .stop))))))))))))] }

theorem t_spec_l10Cells : TabOk Try.prog C_spec_l10Cells := tabOk_of (fun p h => by cases h)

theorem k_spec_l10Cells : Entry Try.prog 94 c_spec_l10Cells := by
  refine entry_by (C := C_spec_l10Cells) mixed tys_ok t_spec_l10Cells (fn := Try.f94) (c := bd Try.f94) (by kernel_rfl) (by kernel_rfl) (by kernel_rfl) (by kernel_rfl) ?_
  intro args st k he
  unfold c_spec_l10Cells at he
  split at he
  rotate_left
  · exact he.elim
  rename_i perm cells
  have he : Ok (spec_l10Cells perm cells) (fun r => k (.c (.own 900 false)) [(900, .sl 3 (.int .i64) r .shallow)]) := he
  refine ⟨rfl, rfl, ?_⟩
  have he := ok_rq he
  refine And.intro he.1 ?_
  have he := he.2
  refine loop_model mixed tys_ok t_spec_l10Cells (S := Int × (List Int)) (I := (fun (i, out) => (envOf [(0, .c (.imm (.int .i64) perm)), (1, .c (.imm (.int .i64) cells)), (5, .c (.own 10000000 false)), (6, .c (.int .i64 i))], [(10000000, .sl 3 (.int .i64) out .shallow)]))) (f := spec_l10Cells_l1 perm cells) (K := (fun r => k (.c (.own 900 false)) [(900, .sl 3 (.int .i64) r .shallow)])) he (leads_ren [(10000000, 9)] (l := [(0, .c (.imm (.int .i64) perm)), (1, .c (.imm (.int .i64) cells)), (5, .c (.own 10000000 false)), (6, .c (.int .i64 (0:Int)))]) (st' := [(10000000, .sl 3 (.int .i64) (List.replicate (cells.length:Int).toNat 0) .shallow)]) rfl rfl ⟨⟨rfl, rfl⟩, trivial⟩ ⟨.inl rfl, .inl rfl, ⟨⟨rfl, rfl⟩, trivial⟩, rfl, trivial⟩) ?_
  rintro ⟨i, out⟩ J1 he
  refine And.intro (fun hb => ?_) (fun hb => ?_)
  · have he := ok_t he hb
    refine And.intro (by kernel_rfl) ?_
    have he := ok_rq he
    refine And.intro he.1 ?_
    have he := he.2
    have he := ok_rq he
    refine And.intro he.1 ?_
    have he := he.2
    have he := ok_rq he
    refine And.intro he.1 ?_
    have he := he.2
    refine And.intro ?_ trivial
    have he := ok_rq he
    refine And.intro he.1 ?_
    have he := he.2
    have he := ok_some he
    exact ⟨((i + (1:Int)), (out.set (perm.getD i.toNat 0).toNat (cells.getD i.toNat 0))), he, (leads_ren [] (l := [(0, .c (.imm (.int .i64) perm)), (1, .c (.imm (.int .i64) cells)), (5, .c (.own 10000000 false)), (6, .c (.int .i64 (i + (1:Int))))]) (st' := [(10000000, .sl 3 (.int .i64) (out.set (perm.getD i.toNat 0).toNat (cells.getD i.toNat 0)) .shallow)]) rfl rfl ⟨⟨rfl, rfl⟩, trivial⟩ ⟨.inl rfl, .inl rfl, ⟨⟨rfl, rfl⟩, trivial⟩, rfl, trivial⟩)⟩
  · have he := ok_f he hb
    have he := ok_some he
    exact ⟨rfl, _, _, (leads_ren [(900, 10000000)] (l := [(4, .c (.own 900 false))]) (st' := [(900, .sl 3 (.int .i64) out .shallow)]) rfl rfl ⟨⟨rfl, rfl⟩, trivial⟩ ⟨⟨⟨rfl, rfl⟩, trivial⟩, trivial⟩), he⟩

end Go.AE.Y
