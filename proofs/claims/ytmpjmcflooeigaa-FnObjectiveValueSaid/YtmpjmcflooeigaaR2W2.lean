/-
  Walks: each function keeps the contract that its model gives. No conditions.
-/
import Derived.Test.YtmpjmcflooeigaaR2Tab
import Derived.Test.YtmpjmcflooeigaaR2W1
namespace Go.AE.Y
open Go Go.AE Go.Proofs
set_option linter.unusedVariables false
set_option maxHeartbeats 2000000
set_option maxRecDepth 100000

noncomputable def c_impl_ruleValid_2 : Con := fun args st => match args, st with
  | [.c (.imm (.int .i64) row), .c (.ptr 0 0)], [(0, .rc [.int .i64 o0_0, .imm (.int .i64) o0_1, .imm (.int .i64) o0_2, .int .i64 o0_3, .imm (.sl (.int .i64)) o0_4])] => .opt (Bool) (impl_ruleValid_2 row (o0_0, (o0_1, (o0_2, (o0_3, o0_4))))) (fun r => .ret (.c (.bool r)) [(0, .rc [.int .i64 o0_0, .imm (.int .i64) o0_1, .imm (.int .i64) o0_2, .int .i64 o0_3, .imm (.sl (.int .i64)) o0_4])])
  | _, _ => .fail

noncomputable def C_impl_ruleValid_2 : Cfg := { y := tys, n := 14, h := 1, tab := [(97, c_slices_ContainsFunc_int__impl_ruleValid_2_1)], cut := [], hand := [], good := [], deep := [], sched := [] }

theorem t_impl_ruleValid_2 : TabOk Try.prog C_impl_ruleValid_2 := by
  refine tabOk_of ?_
  simp only [C_impl_ruleValid_2, List.forall_mem_cons]
  exact ⟨k_slices_ContainsFunc_int__impl_ruleValid_2_1, fun p h => by cases h⟩

theorem k_impl_ruleValid_2 : Entry Try.prog 171 c_impl_ruleValid_2 := by
  refine entry_by (C := C_impl_ruleValid_2) mixed tys_ok t_impl_ruleValid_2 (fn := Try.f171) (c := bd Try.f171) (by kernel_rfl) (by kernel_rfl) (by kernel_rfl) (by kernel_rfl) ?_
  intro args st k he
  unfold c_impl_ruleValid_2 at he
  split at he
  rotate_left
  · exact he.elim
  rename_i row o0_0 o0_1 o0_2 o0_3 o0_4
  have he : Ok (impl_ruleValid_2 row (o0_0, (o0_1, (o0_2, (o0_3, o0_4))))) (fun r => k (.c (.bool r)) [(0, .rc [.int .i64 o0_0, .imm (.int .i64) o0_1, .imm (.int .i64) o0_2, .int .i64 o0_3, .imm (.sl (.int .i64)) o0_4])]) := he
  refine ⟨rfl, rfl, ?_⟩
  refine And.intro (fun hb => ?_) (fun hb => ?_)
  · have he := ok_f he hb
    obtain ⟨r1_, hr, he⟩ := ok_bind he
    refine ⟨r1_, hr, ?_⟩
    have he := ok_some he
    exact ⟨rfl, _, _, (leads_ren [] (l := [(3, .c (.bool r1_))]) (st' := [(0, .rc [.int .i64 o0_0, .imm (.int .i64) o0_1, .imm (.int .i64) o0_2, .int .i64 o0_3, .imm (.sl (.int .i64)) o0_4])]) rfl rfl ⟨⟨rfl, .inl rfl, .inl rfl, rfl, .inl rfl, trivial⟩, trivial⟩ ⟨.inl rfl, trivial⟩), he⟩
  · have he := ok_t he hb
    have he := ok_some he
    exact ⟨rfl, _, _, (leads_ren [] (l := [(3, .c (.bool true))]) (st' := [(0, .rc [.int .i64 o0_0, .imm (.int .i64) o0_1, .imm (.int .i64) o0_2, .int .i64 o0_3, .imm (.sl (.int .i64)) o0_4])]) rfl rfl ⟨⟨rfl, .inl rfl, .inl rfl, rfl, .inl rfl, trivial⟩, trivial⟩ ⟨.inr rfl, trivial⟩), he⟩

noncomputable def c_slices_IndexFunc_s_int__impl_ruleValid_2 : Con := fun args st => match args, st with
  | [.c (.imm (.sl (.int .i64)) s_), .c (.fn 171 [0])], [(0, .rc [.int .i64 o0_0, .imm (.int .i64) o0_1, .imm (.int .i64) o0_2, .int .i64 o0_3, .imm (.sl (.int .i64)) o0_4])] => .opt (Int) (slices_IndexFunc_s_int__impl_ruleValid_2 s_ (o0_0, (o0_1, (o0_2, (o0_3, o0_4))))) (fun r => .ret (.c (.int .i64 r)) [(0, .rc [.int .i64 o0_0, .imm (.int .i64) o0_1, .imm (.int .i64) o0_2, .int .i64 o0_3, .imm (.sl (.int .i64)) o0_4])])
  | _, _ => .fail

noncomputable def C_slices_IndexFunc_s_int__impl_ruleValid_2 : Cfg := { y := tys, n := 19, h := 1, tab := [(171, c_impl_ruleValid_2)], cut := [], hand := [], good := [], deep := [], sched := [] }

theorem t_slices_IndexFunc_s_int__impl_ruleValid_2 : TabOk Try.prog C_slices_IndexFunc_s_int__impl_ruleValid_2 := by
  refine tabOk_of ?_
  simp only [C_slices_IndexFunc_s_int__impl_ruleValid_2, List.forall_mem_cons]
  exact ⟨k_impl_ruleValid_2, fun p h => by cases h⟩

theorem k_slices_IndexFunc_s_int__impl_ruleValid_2 : Entry Try.prog 178 c_slices_IndexFunc_s_int__impl_ruleValid_2 := by
  refine entry_by (C := C_slices_IndexFunc_s_int__impl_ruleValid_2) mixed tys_ok t_slices_IndexFunc_s_int__impl_ruleValid_2 (fn := Try.f178) (c := bd Try.f178) (by kernel_rfl) (by kernel_rfl) (by kernel_rfl) (by kernel_rfl) ?_
  intro args st k he
  unfold c_slices_IndexFunc_s_int__impl_ruleValid_2 at he
  split at he
  rotate_left
  · exact he.elim
  rename_i s_ o0_0 o0_1 o0_2 o0_3 o0_4
  have he : Ok (slices_IndexFunc_s_int__impl_ruleValid_2 s_ (o0_0, (o0_1, (o0_2, (o0_3, o0_4))))) (fun r => k (.c (.int .i64 r)) [(0, .rc [.int .i64 o0_0, .imm (.int .i64) o0_1, .imm (.int .i64) o0_2, .int .i64 o0_3, .imm (.sl (.int .i64)) o0_4])]) := he
  refine ⟨rfl, rfl, ?_⟩
  refine loop_model mixed tys_ok t_slices_IndexFunc_s_int__impl_ruleValid_2 (S := Int) (I := (fun i => (envOf [(0, .c (.imm (.sl (.int .i64)) s_)), (1, .c (.fn 171 [0])), (7, .c (.int .i64 (s_.length:Int))), (8, .c (.int .i64 i))], [(0, .rc [.int .i64 (o0_0, (o0_1, (o0_2, (o0_3, o0_4)))).1, .imm (.int .i64) (o0_0, (o0_1, (o0_2, (o0_3, o0_4)))).2.1, .imm (.int .i64) (o0_0, (o0_1, (o0_2, (o0_3, o0_4)))).2.2.1, .int .i64 (o0_0, (o0_1, (o0_2, (o0_3, o0_4)))).2.2.2.1, .imm (.sl (.int .i64)) (o0_0, (o0_1, (o0_2, (o0_3, o0_4)))).2.2.2.2])]))) (f := slices_IndexFunc_s_int__impl_ruleValid_2_l1 s_ (o0_0, (o0_1, (o0_2, (o0_3, o0_4))))) (K := (fun r => k (.c (.int .i64 r)) [(0, .rc [.int .i64 o0_0, .imm (.int .i64) o0_1, .imm (.int .i64) o0_2, .int .i64 o0_3, .imm (.sl (.int .i64)) o0_4])])) he (leads_ren [] (l := [(0, .c (.imm (.sl (.int .i64)) s_)), (1, .c (.fn 171 [0])), (7, .c (.int .i64 (s_.length:Int))), (8, .c (.int .i64 (0:Int)))]) (st' := [(0, .rc [.int .i64 (o0_0, (o0_1, (o0_2, (o0_3, o0_4)))).1, .imm (.int .i64) (o0_0, (o0_1, (o0_2, (o0_3, o0_4)))).2.1, .imm (.int .i64) (o0_0, (o0_1, (o0_2, (o0_3, o0_4)))).2.2.1, .int .i64 (o0_0, (o0_1, (o0_2, (o0_3, o0_4)))).2.2.2.1, .imm (.sl (.int .i64)) (o0_0, (o0_1, (o0_2, (o0_3, o0_4)))).2.2.2.2])]) rfl rfl ⟨⟨rfl, .inl rfl, .inl rfl, rfl, .inl rfl, trivial⟩, trivial⟩ ⟨.inl rfl, ⟨rfl, ⟨⟨rfl, rfl⟩, trivial⟩⟩, rfl, rfl, trivial⟩) ?_
  rintro i J1 he
  refine And.intro (fun hb => ?_) (fun hb => ?_)
  · have he := ok_t he hb
    have he := ok_rq he
    refine And.intro he.1 ?_
    have he := he.2
    obtain ⟨r1_, hr, he⟩ := ok_bind he
    refine ⟨r1_, hr, ?_⟩
    refine And.intro (fun hb => ?_) (fun hb => ?_)
    · have he := ok_t he hb
      have he := ok_some he
      exact ⟨rfl, _, _, (leads_ren [] (l := [(4, .c (.int .i64 i))]) (st' := [(0, .rc [.int .i64 o0_0, .imm (.int .i64) o0_1, .imm (.int .i64) o0_2, .int .i64 o0_3, .imm (.sl (.int .i64)) o0_4])]) rfl rfl ⟨⟨rfl, .inl rfl, .inl rfl, rfl, .inl rfl, trivial⟩, trivial⟩ ⟨rfl, trivial⟩), he⟩
    · have he := ok_f he hb
      have he := ok_rq he
      refine And.intro he.1 ?_
      have he := he.2
      have he := ok_some he
      exact ⟨(i + (1:Int)), he, (leads_ren [] (l := [(0, .c (.imm (.sl (.int .i64)) s_)), (1, .c (.fn 171 [0])), (7, .c (.int .i64 (s_.length:Int))), (8, .c (.int .i64 (i + (1:Int))))]) (st' := [(0, .rc [.int .i64 (o0_0, (o0_1, (o0_2, (o0_3, o0_4)))).1, .imm (.int .i64) (o0_0, (o0_1, (o0_2, (o0_3, o0_4)))).2.1, .imm (.int .i64) (o0_0, (o0_1, (o0_2, (o0_3, o0_4)))).2.2.1, .int .i64 (o0_0, (o0_1, (o0_2, (o0_3, o0_4)))).2.2.2.1, .imm (.sl (.int .i64)) (o0_0, (o0_1, (o0_2, (o0_3, o0_4)))).2.2.2.2])]) rfl rfl ⟨⟨rfl, .inl rfl, .inl rfl, rfl, .inl rfl, trivial⟩, trivial⟩ ⟨.inl rfl, ⟨rfl, ⟨⟨rfl, rfl⟩, trivial⟩⟩, rfl, rfl, trivial⟩)⟩
  · have he := ok_f he hb
    have he := ok_some he
    exact ⟨rfl, _, _, (leads_ren [] (l := [(4, .c (.int .i64 (-1:Int)))]) (st' := [(0, .rc [.int .i64 o0_0, .imm (.int .i64) o0_1, .imm (.int .i64) o0_2, .int .i64 o0_3, .imm (.sl (.int .i64)) o0_4])]) rfl rfl ⟨⟨rfl, .inl rfl, .inl rfl, rfl, .inl rfl, trivial⟩, trivial⟩ ⟨rfl, trivial⟩), he⟩

noncomputable def c_slices_ContainsFunc_s_int__impl_ruleValid_2 : Con := fun args st => match args, st with
  | [.c (.imm (.sl (.int .i64)) s_), .c (.fn 171 [0])], [(0, .rc [.int .i64 o0_0, .imm (.int .i64) o0_1, .imm (.int .i64) o0_2, .int .i64 o0_3, .imm (.sl (.int .i64)) o0_4])] => .opt (Bool) (slices_ContainsFunc_s_int__impl_ruleValid_2 s_ (o0_0, (o0_1, (o0_2, (o0_3, o0_4))))) (fun r => .ret (.c (.bool r)) [(0, .rc [.int .i64 o0_0, .imm (.int .i64) o0_1, .imm (.int .i64) o0_2, .int .i64 o0_3, .imm (.sl (.int .i64)) o0_4])])
  | _, _ => .fail

noncomputable def C_slices_ContainsFunc_s_int__impl_ruleValid_2 : Cfg := { y := tys, n := 9, h := 1, tab := [(178, c_slices_IndexFunc_s_int__impl_ruleValid_2)], cut := [], hand := [], good := [], deep := [], sched := [] }

theorem t_slices_ContainsFunc_s_int__impl_ruleValid_2 : TabOk Try.prog C_slices_ContainsFunc_s_int__impl_ruleValid_2 := by
  refine tabOk_of ?_
  simp only [C_slices_ContainsFunc_s_int__impl_ruleValid_2, List.forall_mem_cons]
  exact ⟨k_slices_IndexFunc_s_int__impl_ruleValid_2, fun p h => by cases h⟩

theorem k_slices_ContainsFunc_s_int__impl_ruleValid_2 : Entry Try.prog 170 c_slices_ContainsFunc_s_int__impl_ruleValid_2 := by
  refine entry_by (C := C_slices_ContainsFunc_s_int__impl_ruleValid_2) mixed tys_ok t_slices_ContainsFunc_s_int__impl_ruleValid_2 (fn := Try.f170) (c := bd Try.f170) (by kernel_rfl) (by kernel_rfl) (by kernel_rfl) (by kernel_rfl) ?_
  intro args st k he
  unfold c_slices_ContainsFunc_s_int__impl_ruleValid_2 at he
  split at he
  rotate_left
  · exact he.elim
  rename_i s_ o0_0 o0_1 o0_2 o0_3 o0_4
  have he : Ok (slices_ContainsFunc_s_int__impl_ruleValid_2 s_ (o0_0, (o0_1, (o0_2, (o0_3, o0_4))))) (fun r => k (.c (.bool r)) [(0, .rc [.int .i64 o0_0, .imm (.int .i64) o0_1, .imm (.int .i64) o0_2, .int .i64 o0_3, .imm (.sl (.int .i64)) o0_4])]) := he
  refine ⟨rfl, rfl, ?_⟩
  obtain ⟨r1_, hr, he⟩ := ok_bind he
  refine ⟨r1_, hr, ?_⟩
  have he := ok_some he
  exact ⟨rfl, _, _, (leads_ren [] (l := [(4, .c (.bool (decide ((0:Int) ≤ r1_))))]) (st' := [(0, .rc [.int .i64 o0_0, .imm (.int .i64) o0_1, .imm (.int .i64) o0_2, .int .i64 o0_3, .imm (.sl (.int .i64)) o0_4])]) rfl rfl ⟨⟨rfl, .inl rfl, .inl rfl, rfl, .inl rfl, trivial⟩, trivial⟩ ⟨.inl rfl, trivial⟩), he⟩

noncomputable def c_impl_ruleValid : Con := fun args st => match args, st with
  | [.agg [.int .i64 a0_0, .imm (.int .i64) a0_1, .imm (.int .i64) a0_2, .int .i64 a0_3, .imm (.sl (.int .i64)) a0_4], .c (.int .i64 a1)], [] => .opt (Bool) (impl_ruleValid (a0_0, (a0_1, (a0_2, (a0_3, a0_4)))) a1) (fun r => .ret (.c (.bool r)) [])
  | _, _ => .fail

noncomputable def C_impl_ruleValid : Cfg := { y := tys, n := 104, h := 0, tab := [(89, c_impl_within), (90, c_slices_Contains_int), (97, c_slices_ContainsFunc_int__impl_ruleValid_1), (170, c_slices_ContainsFunc_s_int__impl_ruleValid_2)], cut := [9], hand := [], good := [], deep := [], sched := [] }

theorem t_impl_ruleValid : TabOk Try.prog C_impl_ruleValid := by
  refine tabOk_of ?_
  simp only [C_impl_ruleValid, List.forall_mem_cons]
  exact ⟨k_impl_within, k_slices_Contains_int, k_slices_ContainsFunc_int__impl_ruleValid_1, k_slices_ContainsFunc_s_int__impl_ruleValid_2, fun p h => by cases h⟩

theorem k_impl_ruleValid : Entry Try.prog 141 c_impl_ruleValid := by
  refine entry_by (C := C_impl_ruleValid) mixed tys_ok t_impl_ruleValid (fn := Try.f141) (c := bd Try.f141) (by kernel_rfl) (by kernel_rfl) (by kernel_rfl) (by kernel_rfl) ?_
  intro args st k he
  unfold c_impl_ruleValid at he
  split at he
  rotate_left
  · exact he.elim
  rename_i a0_0 a0_1 a0_2 a0_3 a0_4 a1
  have he : Ok (impl_ruleValid (a0_0, (a0_1, (a0_2, (a0_3, a0_4)))) a1) (fun r => k (.c (.bool r)) []) := he
  refine ⟨rfl, rfl, ?_⟩
  refine loop_model mixed tys_ok t_impl_ruleValid (S := Int) (I := (fun i => (envOf [(1, .c (.int .i64 a1)), (2, .c (.ptr 10000000 0)), (8, .c (.imm (.int .i64) (a0_0, (a0_1, (a0_2, (a0_3, a0_4)))).2.1)), (9, .c (.int .i64 ((a0_0, (a0_1, (a0_2, (a0_3, a0_4)))).2.1.length:Int))), (10, .c (.int .i64 i))], [(10000000, .rc [.int .i64 (a0_0, (a0_1, (a0_2, (a0_3, a0_4)))).1, .imm (.int .i64) (a0_0, (a0_1, (a0_2, (a0_3, a0_4)))).2.1, .imm (.int .i64) (a0_0, (a0_1, (a0_2, (a0_3, a0_4)))).2.2.1, .int .i64 (a0_0, (a0_1, (a0_2, (a0_3, a0_4)))).2.2.2.1, .imm (.sl (.int .i64)) (a0_0, (a0_1, (a0_2, (a0_3, a0_4)))).2.2.2.2])]))) (f := impl_ruleValid_l1 (a0_0, (a0_1, (a0_2, (a0_3, a0_4)))) a1) (K := (fun r => k (.c (.bool r)) [])) he (leads_ren [(10000000, 2)] (l := [(1, .c (.int .i64 a1)), (2, .c (.ptr 10000000 0)), (8, .c (.imm (.int .i64) (a0_0, (a0_1, (a0_2, (a0_3, a0_4)))).2.1)), (9, .c (.int .i64 ((a0_0, (a0_1, (a0_2, (a0_3, a0_4)))).2.1.length:Int))), (10, .c (.int .i64 (0:Int)))]) (st' := [(10000000, .rc [.int .i64 (a0_0, (a0_1, (a0_2, (a0_3, a0_4)))).1, .imm (.int .i64) (a0_0, (a0_1, (a0_2, (a0_3, a0_4)))).2.1, .imm (.int .i64) (a0_0, (a0_1, (a0_2, (a0_3, a0_4)))).2.2.1, .int .i64 (a0_0, (a0_1, (a0_2, (a0_3, a0_4)))).2.2.2.1, .imm (.sl (.int .i64)) (a0_0, (a0_1, (a0_2, (a0_3, a0_4)))).2.2.2.2])]) rfl rfl ⟨⟨rfl, .inl rfl, .inl rfl, rfl, .inl rfl, trivial⟩, trivial⟩ ⟨rfl, ⟨⟨rfl, rfl⟩, rfl⟩, .inl rfl, rfl, rfl, trivial⟩) ?_
  rintro i J1 he
  refine And.intro (fun hb => ?_) (fun hb => ?_)
  · have he := ok_t he hb
    have he := ok_rq he
    refine And.intro he.1 ?_
    have he := he.2
    have he := ok_rq he
    refine And.intro he.1 ?_
    have he := he.2
    obtain ⟨r1_, hr, he⟩ := ok_bind he
    refine ⟨r1_, hr, ?_⟩
    refine And.intro (fun hb => ?_) (fun hb => ?_)
    · have he := ok_f he hb
      have he := ok_rq he
      refine And.intro he.1 ?_
      have he := he.2
      obtain ⟨r2_, hr, he⟩ := ok_bind he
      refine ⟨r2_, hr, ?_⟩
      refine And.intro (fun hb => ?_) (fun hb => ?_)
      · have he := ok_t he hb
        have he := ok_some he
        exact ⟨rfl, _, _, (leads_ren [] (l := [(4, .c (.bool false))]) (st' := []) rfl rfl trivial ⟨.inr rfl, trivial⟩), he⟩
      · have he := ok_f he hb
        have he := ok_rq he
        refine And.intro he.1 ?_
        have he := he.2
        have he := ok_some he
        exact ⟨(i + (1:Int)), he, (leads_ren [] (l := [(1, .c (.int .i64 a1)), (2, .c (.ptr 10000000 0)), (8, .c (.imm (.int .i64) (a0_0, (a0_1, (a0_2, (a0_3, a0_4)))).2.1)), (9, .c (.int .i64 ((a0_0, (a0_1, (a0_2, (a0_3, a0_4)))).2.1.length:Int))), (10, .c (.int .i64 (i + (1:Int))))]) (st' := [(10000000, .rc [.int .i64 (a0_0, (a0_1, (a0_2, (a0_3, a0_4)))).1, .imm (.int .i64) (a0_0, (a0_1, (a0_2, (a0_3, a0_4)))).2.1, .imm (.int .i64) (a0_0, (a0_1, (a0_2, (a0_3, a0_4)))).2.2.1, .int .i64 (a0_0, (a0_1, (a0_2, (a0_3, a0_4)))).2.2.2.1, .imm (.sl (.int .i64)) (a0_0, (a0_1, (a0_2, (a0_3, a0_4)))).2.2.2.2])]) rfl rfl ⟨⟨rfl, .inl rfl, .inl rfl, rfl, .inl rfl, trivial⟩, trivial⟩ ⟨rfl, ⟨⟨rfl, rfl⟩, rfl⟩, .inl rfl, rfl, rfl, trivial⟩)⟩
    · have he := ok_t he hb
      have he := ok_some he
      exact ⟨rfl, _, _, (leads_ren [] (l := [(4, .c (.bool false))]) (st' := []) rfl rfl trivial ⟨.inr rfl, trivial⟩), he⟩
  · have he := ok_f he hb
    refine seq_model mixed tys_ok t_impl_ruleValid (S := Unit) (I := (fun _ => (envOf [(2, .c (.ptr 10001000 0))], [(10001000, .rc [.int .i64 (a0_0, (a0_1, (a0_2, (a0_3, a0_4)))).1, .imm (.int .i64) (a0_0, (a0_1, (a0_2, (a0_3, a0_4)))).2.1, .imm (.int .i64) (a0_0, (a0_1, (a0_2, (a0_3, a0_4)))).2.2.1, .int .i64 (a0_0, (a0_1, (a0_2, (a0_3, a0_4)))).2.2.2.1, .imm (.sl (.int .i64)) (a0_0, (a0_1, (a0_2, (a0_3, a0_4)))).2.2.2.2])]))) (B := fun s => Ok (impl_ruleValid_j1 (a0_0, (a0_1, (a0_2, (a0_3, a0_4)))) s) (LK J1 (fun r => k (.c (.bool r)) []))) ?_ ?_
    · rintro ⟨⟩ he
      refine And.intro (fun hb => ?_) (fun hb => ?_)
      · have he := ok_t he hb
        refine And.intro (fun hb => ?_) (fun hb => ?_)
        · have he := ok_t he hb
          obtain ⟨r3_, hr, he⟩ := ok_bind he
          refine ⟨r3_, hr, ?_⟩
          refine And.intro (fun hb => ?_) (fun hb => ?_)
          · have he := ok_t he hb
            obtain ⟨r4_, hr, he⟩ := ok_bind he
            refine ⟨r4_, hr, ?_⟩
            have he := ok_some he
            exact ⟨rfl, _, _, (leads_ren [] (l := [(4, .c (.bool (!r4_)))]) (st' := []) rfl rfl trivial ⟨.inl rfl, trivial⟩), he⟩
          · have he := ok_f he hb
            have he := ok_some he
            exact ⟨rfl, _, _, (leads_ren [] (l := [(4, .c (.bool false))]) (st' := []) rfl rfl trivial ⟨.inr rfl, trivial⟩), he⟩
        · have he := ok_f he hb
          have he := ok_some he
          exact ⟨rfl, _, _, (leads_ren [] (l := [(4, .c (.bool false))]) (st' := []) rfl rfl trivial ⟨.inr rfl, trivial⟩), he⟩
      · have he := ok_f he hb
        refine And.intro (fun hb => ?_) (fun hb => ?_)
        · have he := ok_t he hb
          refine And.intro (fun hb => ?_) (fun hb => ?_)
          · have he := ok_t he hb
            obtain ⟨r5_, hr, he⟩ := ok_bind he
            refine ⟨r5_, hr, ?_⟩
            have he := ok_some he
            exact ⟨rfl, _, _, (leads_ren [] (l := [(4, .c (.bool (!r5_)))]) (st' := []) rfl rfl trivial ⟨.inl rfl, trivial⟩), he⟩
          · have he := ok_f he hb
            have he := ok_some he
            exact ⟨rfl, _, _, (leads_ren [] (l := [(4, .c (.bool false))]) (st' := []) rfl rfl trivial ⟨.inr rfl, trivial⟩), he⟩
        · have he := ok_f he hb
          refine And.intro (fun hb => ?_) (fun hb => ?_)
          · have he := ok_t he hb
            have he := ok_some he
            exact ⟨rfl, _, _, (leads_ren [] (l := [(4, .c (.bool (((a0_0, (a0_1, (a0_2, (a0_3, a0_4)))).2.1.length:Int) == (2:Int))))]) (st' := []) rfl rfl trivial ⟨.inl rfl, trivial⟩), he⟩
          · have he := ok_f he hb
            have he := ok_some he
            exact ⟨rfl, _, _, (leads_ren [] (l := [(4, .c (.bool ((a0_0, (a0_1, (a0_2, (a0_3, a0_4)))).1 == (2:Int))))]) (st' := []) rfl rfl trivial ⟨.inl rfl, trivial⟩), he⟩
    · skip
      refine And.intro (fun hb => ?_) (fun hb => ?_)
      · have he := ok_f he hb
        refine And.intro (fun hb => ?_) (fun hb => ?_)
        · have he := ok_t he hb
          refine And.intro (fun hb => ?_) (fun hb => ?_)
          · have he := ok_f he hb
            refine And.intro (fun hb => ?_) (fun hb => ?_)
            · have he := ok_f he hb
              refine And.intro (fun hb => ?_) (fun hb => ?_)
              · have he := ok_t he hb
                refine And.intro (fun hb => ?_) (fun hb => ?_)
                · have he := ok_t he hb
                  have he := ok_some he
                  exact ⟨rfl, _, _, (leads_ren [] (l := [(4, .c (.bool false))]) (st' := []) rfl rfl trivial ⟨.inr rfl, trivial⟩), he⟩
                · have he := ok_f he hb
                  exact ⟨(), he, (leads_ren [(10001000, 10000000)] (l := [(2, .c (.ptr 10001000 0))]) (st' := [(10001000, .rc [.int .i64 (a0_0, (a0_1, (a0_2, (a0_3, a0_4)))).1, .imm (.int .i64) (a0_0, (a0_1, (a0_2, (a0_3, a0_4)))).2.1, .imm (.int .i64) (a0_0, (a0_1, (a0_2, (a0_3, a0_4)))).2.2.1, .int .i64 (a0_0, (a0_1, (a0_2, (a0_3, a0_4)))).2.2.2.1, .imm (.sl (.int .i64)) (a0_0, (a0_1, (a0_2, (a0_3, a0_4)))).2.2.2.2])]) rfl rfl ⟨⟨rfl, .inl rfl, .inl rfl, rfl, .inl rfl, trivial⟩, trivial⟩ ⟨⟨⟨rfl, rfl⟩, rfl⟩, trivial⟩)⟩
              · have he := ok_f he hb
                exact ⟨(), he, (leads_ren [(10001000, 10000000)] (l := [(2, .c (.ptr 10001000 0))]) (st' := [(10001000, .rc [.int .i64 (a0_0, (a0_1, (a0_2, (a0_3, a0_4)))).1, .imm (.int .i64) (a0_0, (a0_1, (a0_2, (a0_3, a0_4)))).2.1, .imm (.int .i64) (a0_0, (a0_1, (a0_2, (a0_3, a0_4)))).2.2.1, .int .i64 (a0_0, (a0_1, (a0_2, (a0_3, a0_4)))).2.2.2.1, .imm (.sl (.int .i64)) (a0_0, (a0_1, (a0_2, (a0_3, a0_4)))).2.2.2.2])]) rfl rfl ⟨⟨rfl, .inl rfl, .inl rfl, rfl, .inl rfl, trivial⟩, trivial⟩ ⟨⟨⟨rfl, rfl⟩, rfl⟩, trivial⟩)⟩
            · have he := ok_t he hb
              have he := ok_some he
              exact ⟨rfl, _, _, (leads_ren [] (l := [(4, .c (.bool false))]) (st' := []) rfl rfl trivial ⟨.inr rfl, trivial⟩), he⟩
          · have he := ok_t he hb
            have he := ok_some he
            exact ⟨rfl, _, _, (leads_ren [] (l := [(4, .c (.bool false))]) (st' := []) rfl rfl trivial ⟨.inr rfl, trivial⟩), he⟩
        · have he := ok_f he hb
          refine And.intro (fun hb => ?_) (fun hb => ?_)
          · have he := ok_t he hb
            refine And.intro (fun hb => ?_) (fun hb => ?_)
            · have he := ok_t he hb
              have he := ok_some he
              exact ⟨rfl, _, _, (leads_ren [] (l := [(4, .c (.bool false))]) (st' := []) rfl rfl trivial ⟨.inr rfl, trivial⟩), he⟩
            · have he := ok_f he hb
              exact ⟨(), he, (leads_ren [(10001000, 10000000)] (l := [(2, .c (.ptr 10001000 0))]) (st' := [(10001000, .rc [.int .i64 (a0_0, (a0_1, (a0_2, (a0_3, a0_4)))).1, .imm (.int .i64) (a0_0, (a0_1, (a0_2, (a0_3, a0_4)))).2.1, .imm (.int .i64) (a0_0, (a0_1, (a0_2, (a0_3, a0_4)))).2.2.1, .int .i64 (a0_0, (a0_1, (a0_2, (a0_3, a0_4)))).2.2.2.1, .imm (.sl (.int .i64)) (a0_0, (a0_1, (a0_2, (a0_3, a0_4)))).2.2.2.2])]) rfl rfl ⟨⟨rfl, .inl rfl, .inl rfl, rfl, .inl rfl, trivial⟩, trivial⟩ ⟨⟨⟨rfl, rfl⟩, rfl⟩, trivial⟩)⟩
          · have he := ok_f he hb
            exact ⟨(), he, (leads_ren [(10001000, 10000000)] (l := [(2, .c (.ptr 10001000 0))]) (st' := [(10001000, .rc [.int .i64 (a0_0, (a0_1, (a0_2, (a0_3, a0_4)))).1, .imm (.int .i64) (a0_0, (a0_1, (a0_2, (a0_3, a0_4)))).2.1, .imm (.int .i64) (a0_0, (a0_1, (a0_2, (a0_3, a0_4)))).2.2.1, .int .i64 (a0_0, (a0_1, (a0_2, (a0_3, a0_4)))).2.2.2.1, .imm (.sl (.int .i64)) (a0_0, (a0_1, (a0_2, (a0_3, a0_4)))).2.2.2.2])]) rfl rfl ⟨⟨rfl, .inl rfl, .inl rfl, rfl, .inl rfl, trivial⟩, trivial⟩ ⟨⟨⟨rfl, rfl⟩, rfl⟩, trivial⟩)⟩
      · have he := ok_t he hb
        have he := ok_some he
        exact ⟨rfl, _, _, (leads_ren [] (l := [(4, .c (.bool false))]) (st' := []) rfl rfl trivial ⟨.inr rfl, trivial⟩), he⟩

noncomputable def c_impl_ModelValid_1 : Con := fun args st => match args, st with
  | [.agg [.int .i64 r__0, .imm (.int .i64) r__1, .imm (.int .i64) r__2, .int .i64 r__3, .imm (.sl (.int .i64)) r__4], .c (.ptr 0 0)], [(0, .rc [.imm (.int .i64) o0_0, .imm (.pair (.int .i64) (.pair (.sl (.int .i64)) (.pair (.sl (.int .i64)) (.pair (.int .i64) (.sl (.sl (.int .i64))))))) o0_1])] => .opt (Bool) (impl_ModelValid_1 (r__0, (r__1, (r__2, (r__3, r__4)))) (o0_0, o0_1)) (fun r => .ret (.c (.bool r)) [(0, .rc [.imm (.int .i64) o0_0, .imm (.pair (.int .i64) (.pair (.sl (.int .i64)) (.pair (.sl (.int .i64)) (.pair (.int .i64) (.sl (.sl (.int .i64))))))) o0_1])])
  | _, _ => .fail

noncomputable def C_impl_ModelValid_1 : Cfg := { y := tys, n := 10, h := 1, tab := [(141, c_impl_ruleValid)], cut := [], hand := [], good := [], deep := [], sched := [] }

theorem t_impl_ModelValid_1 : TabOk Try.prog C_impl_ModelValid_1 := by
  refine tabOk_of ?_
  simp only [C_impl_ModelValid_1, List.forall_mem_cons]
  exact ⟨k_impl_ruleValid, fun p h => by cases h⟩

theorem k_impl_ModelValid_1 : Entry Try.prog 140 c_impl_ModelValid_1 := by
  refine entry_by (C := C_impl_ModelValid_1) mixed tys_ok t_impl_ModelValid_1 (fn := Try.f140) (c := bd Try.f140) (by kernel_rfl) (by kernel_rfl) (by kernel_rfl) (by kernel_rfl) ?_
  intro args st k he
  unfold c_impl_ModelValid_1 at he
  split at he
  rotate_left
  · exact he.elim
  rename_i r__0 r__1 r__2 r__3 r__4 o0_0 o0_1
  have he : Ok (impl_ModelValid_1 (r__0, (r__1, (r__2, (r__3, r__4)))) (o0_0, o0_1)) (fun r => k (.c (.bool r)) [(0, .rc [.imm (.int .i64) o0_0, .imm (.pair (.int .i64) (.pair (.sl (.int .i64)) (.pair (.sl (.int .i64)) (.pair (.int .i64) (.sl (.sl (.int .i64))))))) o0_1])]) := he
  refine ⟨rfl, rfl, ?_⟩
  obtain ⟨r1_, hr, he⟩ := ok_bind he
  refine ⟨r1_, hr, ?_⟩
  have he := ok_some he
  exact ⟨rfl, _, _, (leads_ren [] (l := [(3, .c (.bool (!r1_)))]) (st' := [(0, .rc [.imm (.int .i64) o0_0, .imm (.pair (.int .i64) (.pair (.sl (.int .i64)) (.pair (.sl (.int .i64)) (.pair (.int .i64) (.sl (.sl (.int .i64))))))) o0_1])]) rfl rfl ⟨⟨.inl rfl, .inl rfl, trivial⟩, trivial⟩ ⟨.inl rfl, trivial⟩), he⟩

noncomputable def c_slices_IndexFunc_impl_Rule__impl_ModelValid_1 : Con := fun args st => match args, st with
  | [.c (.imm (.pair (.int .i64) (.pair (.sl (.int .i64)) (.pair (.sl (.int .i64)) (.pair (.int .i64) (.sl (.sl (.int .i64))))))) s_), .c (.fn 140 [0])], [(0, .rc [.imm (.int .i64) o0_0, .imm (.pair (.int .i64) (.pair (.sl (.int .i64)) (.pair (.sl (.int .i64)) (.pair (.int .i64) (.sl (.sl (.int .i64))))))) o0_1])] => .opt (Int) (slices_IndexFunc_impl_Rule__impl_ModelValid_1 s_ (o0_0, o0_1)) (fun r => .ret (.c (.int .i64 r)) [(0, .rc [.imm (.int .i64) o0_0, .imm (.pair (.int .i64) (.pair (.sl (.int .i64)) (.pair (.sl (.int .i64)) (.pair (.int .i64) (.sl (.sl (.int .i64))))))) o0_1])])
  | _, _ => .fail

noncomputable def C_slices_IndexFunc_impl_Rule__impl_ModelValid_1 : Cfg := { y := tys, n := 19, h := 1, tab := [(140, c_impl_ModelValid_1)], cut := [], hand := [], good := [], deep := [], sched := [] }

theorem t_slices_IndexFunc_impl_Rule__impl_ModelValid_1 : TabOk Try.prog C_slices_IndexFunc_impl_Rule__impl_ModelValid_1 := by
  refine tabOk_of ?_
  simp only [C_slices_IndexFunc_impl_Rule__impl_ModelValid_1, List.forall_mem_cons]
  exact ⟨k_impl_ModelValid_1, fun p h => by cases h⟩

theorem k_slices_IndexFunc_impl_Rule__impl_ModelValid_1 : Entry Try.prog 168 c_slices_IndexFunc_impl_Rule__impl_ModelValid_1 := by
  refine entry_by (C := C_slices_IndexFunc_impl_Rule__impl_ModelValid_1) mixed tys_ok t_slices_IndexFunc_impl_Rule__impl_ModelValid_1 (fn := Try.f168) (c := bd Try.f168) (by kernel_rfl) (by kernel_rfl) (by kernel_rfl) (by kernel_rfl) ?_
  intro args st k he
  unfold c_slices_IndexFunc_impl_Rule__impl_ModelValid_1 at he
  split at he
  rotate_left
  · exact he.elim
  rename_i s_ o0_0 o0_1
  have he : Ok (slices_IndexFunc_impl_Rule__impl_ModelValid_1 s_ (o0_0, o0_1)) (fun r => k (.c (.int .i64 r)) [(0, .rc [.imm (.int .i64) o0_0, .imm (.pair (.int .i64) (.pair (.sl (.int .i64)) (.pair (.sl (.int .i64)) (.pair (.int .i64) (.sl (.sl (.int .i64))))))) o0_1])]) := he
  refine ⟨rfl, rfl, ?_⟩
  refine loop_model mixed tys_ok t_slices_IndexFunc_impl_Rule__impl_ModelValid_1 (S := Int) (I := (fun i => (envOf [(0, .c (.imm (.pair (.int .i64) (.pair (.sl (.int .i64)) (.pair (.sl (.int .i64)) (.pair (.int .i64) (.sl (.sl (.int .i64))))))) s_)), (1, .c (.fn 140 [0])), (7, .c (.int .i64 (s_.length:Int))), (8, .c (.int .i64 i))], [(0, .rc [.imm (.int .i64) (o0_0, o0_1).1, .imm (.pair (.int .i64) (.pair (.sl (.int .i64)) (.pair (.sl (.int .i64)) (.pair (.int .i64) (.sl (.sl (.int .i64))))))) (o0_0, o0_1).2])]))) (f := slices_IndexFunc_impl_Rule__impl_ModelValid_1_l1 s_ (o0_0, o0_1)) (K := (fun r => k (.c (.int .i64 r)) [(0, .rc [.imm (.int .i64) o0_0, .imm (.pair (.int .i64) (.pair (.sl (.int .i64)) (.pair (.sl (.int .i64)) (.pair (.int .i64) (.sl (.sl (.int .i64))))))) o0_1])])) he (leads_ren [] (l := [(0, .c (.imm (.pair (.int .i64) (.pair (.sl (.int .i64)) (.pair (.sl (.int .i64)) (.pair (.int .i64) (.sl (.sl (.int .i64))))))) s_)), (1, .c (.fn 140 [0])), (7, .c (.int .i64 (s_.length:Int))), (8, .c (.int .i64 (0:Int)))]) (st' := [(0, .rc [.imm (.int .i64) (o0_0, o0_1).1, .imm (.pair (.int .i64) (.pair (.sl (.int .i64)) (.pair (.sl (.int .i64)) (.pair (.int .i64) (.sl (.sl (.int .i64))))))) (o0_0, o0_1).2])]) rfl rfl ⟨⟨.inl rfl, .inl rfl, trivial⟩, trivial⟩ ⟨.inl rfl, ⟨rfl, ⟨⟨rfl, rfl⟩, trivial⟩⟩, rfl, rfl, trivial⟩) ?_
  rintro i J1 he
  refine And.intro (fun hb => ?_) (fun hb => ?_)
  · have he := ok_t he hb
    have he := ok_rq he
    refine And.intro he.1 ?_
    have he := he.2
    obtain ⟨r1_, hr, he⟩ := ok_bind he
    refine ⟨r1_, hr, ?_⟩
    refine And.intro (fun hb => ?_) (fun hb => ?_)
    · have he := ok_t he hb
      have he := ok_some he
      exact ⟨rfl, _, _, (leads_ren [] (l := [(4, .c (.int .i64 i))]) (st' := [(0, .rc [.imm (.int .i64) o0_0, .imm (.pair (.int .i64) (.pair (.sl (.int .i64)) (.pair (.sl (.int .i64)) (.pair (.int .i64) (.sl (.sl (.int .i64))))))) o0_1])]) rfl rfl ⟨⟨.inl rfl, .inl rfl, trivial⟩, trivial⟩ ⟨rfl, trivial⟩), he⟩
    · have he := ok_f he hb
      have he := ok_rq he
      refine And.intro he.1 ?_
      have he := he.2
      have he := ok_some he
      exact ⟨(i + (1:Int)), he, (leads_ren [] (l := [(0, .c (.imm (.pair (.int .i64) (.pair (.sl (.int .i64)) (.pair (.sl (.int .i64)) (.pair (.int .i64) (.sl (.sl (.int .i64))))))) s_)), (1, .c (.fn 140 [0])), (7, .c (.int .i64 (s_.length:Int))), (8, .c (.int .i64 (i + (1:Int))))]) (st' := [(0, .rc [.imm (.int .i64) (o0_0, o0_1).1, .imm (.pair (.int .i64) (.pair (.sl (.int .i64)) (.pair (.sl (.int .i64)) (.pair (.int .i64) (.sl (.sl (.int .i64))))))) (o0_0, o0_1).2])]) rfl rfl ⟨⟨.inl rfl, .inl rfl, trivial⟩, trivial⟩ ⟨.inl rfl, ⟨rfl, ⟨⟨rfl, rfl⟩, trivial⟩⟩, rfl, rfl, trivial⟩)⟩
  · have he := ok_f he hb
    have he := ok_some he
    exact ⟨rfl, _, _, (leads_ren [] (l := [(4, .c (.int .i64 (-1:Int)))]) (st' := [(0, .rc [.imm (.int .i64) o0_0, .imm (.pair (.int .i64) (.pair (.sl (.int .i64)) (.pair (.sl (.int .i64)) (.pair (.int .i64) (.sl (.sl (.int .i64))))))) o0_1])]) rfl rfl ⟨⟨.inl rfl, .inl rfl, trivial⟩, trivial⟩ ⟨rfl, trivial⟩), he⟩

noncomputable def c_slices_ContainsFunc_impl_Rule__impl_ModelValid_1 : Con := fun args st => match args, st with
  | [.c (.imm (.pair (.int .i64) (.pair (.sl (.int .i64)) (.pair (.sl (.int .i64)) (.pair (.int .i64) (.sl (.sl (.int .i64))))))) s_), .c (.fn 140 [0])], [(0, .rc [.imm (.int .i64) o0_0, .imm (.pair (.int .i64) (.pair (.sl (.int .i64)) (.pair (.sl (.int .i64)) (.pair (.int .i64) (.sl (.sl (.int .i64))))))) o0_1])] => .opt (Bool) (slices_ContainsFunc_impl_Rule__impl_ModelValid_1 s_ (o0_0, o0_1)) (fun r => .ret (.c (.bool r)) [(0, .rc [.imm (.int .i64) o0_0, .imm (.pair (.int .i64) (.pair (.sl (.int .i64)) (.pair (.sl (.int .i64)) (.pair (.int .i64) (.sl (.sl (.int .i64))))))) o0_1])])
  | _, _ => .fail

noncomputable def C_slices_ContainsFunc_impl_Rule__impl_ModelValid_1 : Cfg := { y := tys, n := 9, h := 1, tab := [(168, c_slices_IndexFunc_impl_Rule__impl_ModelValid_1)], cut := [], hand := [], good := [], deep := [], sched := [] }

theorem t_slices_ContainsFunc_impl_Rule__impl_ModelValid_1 : TabOk Try.prog C_slices_ContainsFunc_impl_Rule__impl_ModelValid_1 := by
  refine tabOk_of ?_
  simp only [C_slices_ContainsFunc_impl_Rule__impl_ModelValid_1, List.forall_mem_cons]
  exact ⟨k_slices_IndexFunc_impl_Rule__impl_ModelValid_1, fun p h => by cases h⟩

theorem k_slices_ContainsFunc_impl_Rule__impl_ModelValid_1 : Entry Try.prog 139 c_slices_ContainsFunc_impl_Rule__impl_ModelValid_1 := by
  refine entry_by (C := C_slices_ContainsFunc_impl_Rule__impl_ModelValid_1) mixed tys_ok t_slices_ContainsFunc_impl_Rule__impl_ModelValid_1 (fn := Try.f139) (c := bd Try.f139) (by kernel_rfl) (by kernel_rfl) (by kernel_rfl) (by kernel_rfl) ?_
  intro args st k he
  unfold c_slices_ContainsFunc_impl_Rule__impl_ModelValid_1 at he
  split at he
  rotate_left
  · exact he.elim
  rename_i s_ o0_0 o0_1
  have he : Ok (slices_ContainsFunc_impl_Rule__impl_ModelValid_1 s_ (o0_0, o0_1)) (fun r => k (.c (.bool r)) [(0, .rc [.imm (.int .i64) o0_0, .imm (.pair (.int .i64) (.pair (.sl (.int .i64)) (.pair (.sl (.int .i64)) (.pair (.int .i64) (.sl (.sl (.int .i64))))))) o0_1])]) := he
  refine ⟨rfl, rfl, ?_⟩
  obtain ⟨r1_, hr, he⟩ := ok_bind he
  refine ⟨r1_, hr, ?_⟩
  have he := ok_some he
  exact ⟨rfl, _, _, (leads_ren [] (l := [(4, .c (.bool (decide ((0:Int) ≤ r1_))))]) (st' := [(0, .rc [.imm (.int .i64) o0_0, .imm (.pair (.int .i64) (.pair (.sl (.int .i64)) (.pair (.sl (.int .i64)) (.pair (.int .i64) (.sl (.sl (.int .i64))))))) o0_1])]) rfl rfl ⟨⟨.inl rfl, .inl rfl, trivial⟩, trivial⟩ ⟨.inl rfl, trivial⟩), he⟩

noncomputable def c_impl_ModelValid : Con := fun args st => match args, st with
  | [.agg [.imm (.int .i64) m_0, .imm (.pair (.int .i64) (.pair (.sl (.int .i64)) (.pair (.sl (.int .i64)) (.pair (.int .i64) (.sl (.sl (.int .i64))))))) m_1]], [] => .opt (Bool) (impl_ModelValid (m_0, m_1)) (fun r => .ret (.c (.bool r)) [])
  | _, _ => .fail

noncomputable def C_impl_ModelValid : Cfg := { y := tys, n := 41, h := 0, tab := [(89, c_impl_within), (139, c_slices_ContainsFunc_impl_Rule__impl_ModelValid_1)], cut := [], hand := [], good := [], deep := [], sched := [] }

theorem t_impl_ModelValid : TabOk Try.prog C_impl_ModelValid := by
  refine tabOk_of ?_
  simp only [C_impl_ModelValid, List.forall_mem_cons]
  exact ⟨k_impl_within, k_slices_ContainsFunc_impl_Rule__impl_ModelValid_1, fun p h => by cases h⟩

theorem k_impl_ModelValid : Entry Try.prog 88 c_impl_ModelValid := by
  refine entry_by (C := C_impl_ModelValid) mixed tys_ok t_impl_ModelValid (fn := Try.f88) (c := bd Try.f88) (by kernel_rfl) (by kernel_rfl) (by kernel_rfl) (by kernel_rfl) ?_
  intro args st k he
  unfold c_impl_ModelValid at he
  split at he
  rotate_left
  · exact he.elim
  rename_i m_0 m_1
  have he : Ok (impl_ModelValid (m_0, m_1)) (fun r => k (.c (.bool r)) []) := he
  refine ⟨rfl, rfl, ?_⟩
  obtain ⟨r1_, hr, he⟩ := ok_bind he
  refine ⟨r1_, hr, ?_⟩
  refine And.intro (fun hb => ?_) (fun hb => ?_)
  · have he := ok_f he hb
    refine And.intro (fun hb => ?_) (fun hb => ?_)
    · have he := ok_t he hb
      have he := ok_some he
      exact ⟨rfl, _, _, (leads_ren [] (l := [(2, .c (.bool false))]) (st' := []) rfl rfl trivial ⟨.inr rfl, trivial⟩), he⟩
    · have he := ok_f he hb
      refine loop_model mixed tys_ok t_impl_ModelValid (S := Int × Int) (I := (fun (count, i) => (envOf [(1, .c (.ptr 10000000 0)), (3, .c (.int .i64 count)), (18, .c (.imm (.int .i64) (m_0, m_1).1)), (19, .c (.int .i64 ((m_0, m_1).1.length:Int))), (20, .c (.int .i64 i))], [(10000000, .rc [.imm (.int .i64) (m_0, m_1).1, .imm (.pair (.int .i64) (.pair (.sl (.int .i64)) (.pair (.sl (.int .i64)) (.pair (.int .i64) (.sl (.sl (.int .i64))))))) (m_0, m_1).2])]))) (f := impl_ModelValid_l1 (m_0, m_1)) (K := (fun r => k (.c (.bool r)) [])) he (leads_ren [(10000000, 1)] (l := [(1, .c (.ptr 10000000 0)), (3, .c (.int .i64 (0:Int))), (18, .c (.imm (.int .i64) (m_0, m_1).1)), (19, .c (.int .i64 ((m_0, m_1).1.length:Int))), (20, .c (.int .i64 (0:Int)))]) (st' := [(10000000, .rc [.imm (.int .i64) (m_0, m_1).1, .imm (.pair (.int .i64) (.pair (.sl (.int .i64)) (.pair (.sl (.int .i64)) (.pair (.int .i64) (.sl (.sl (.int .i64))))))) (m_0, m_1).2])]) rfl rfl ⟨⟨.inl rfl, .inl rfl, trivial⟩, trivial⟩ ⟨⟨⟨rfl, rfl⟩, rfl⟩, rfl, .inl rfl, rfl, rfl, trivial⟩) ?_
      rintro ⟨count, i⟩ J1 he
      refine And.intro (fun hb => ?_) (fun hb => ?_)
      · have he := ok_t he hb
        have he := ok_rq he
        refine And.intro he.1 ?_
        have he := he.2
        obtain ⟨r2_, hr, he⟩ := ok_bind he
        refine ⟨r2_, hr, ?_⟩
        refine And.intro (fun hb => ?_) (fun hb => ?_)
        · have he := ok_t he hb
          have he := ok_some he
          exact ⟨rfl, _, _, (leads_ren [] (l := [(2, .c (.bool false))]) (st' := []) rfl rfl trivial ⟨.inr rfl, trivial⟩), he⟩
        · have he := ok_f he hb
          have he := ok_rq he
          refine And.intro he.1 ?_
          have he := he.2
          have he := ok_rq he
          refine And.intro he.1 ?_
          have he := he.2
          have he := ok_rq he
          refine And.intro he.1 ?_
          have he := he.2
          have he := ok_some he
          exact ⟨((count + (((m_0, m_1).1.getD i.toNat 0) + (1:Int))), (i + (1:Int))), he, (leads_ren [] (l := [(1, .c (.ptr 10000000 0)), (3, .c (.int .i64 (count + (((m_0, m_1).1.getD i.toNat 0) + (1:Int))))), (18, .c (.imm (.int .i64) (m_0, m_1).1)), (19, .c (.int .i64 ((m_0, m_1).1.length:Int))), (20, .c (.int .i64 (i + (1:Int))))]) (st' := [(10000000, .rc [.imm (.int .i64) (m_0, m_1).1, .imm (.pair (.int .i64) (.pair (.sl (.int .i64)) (.pair (.sl (.int .i64)) (.pair (.int .i64) (.sl (.sl (.int .i64))))))) (m_0, m_1).2])]) rfl rfl ⟨⟨.inl rfl, .inl rfl, trivial⟩, trivial⟩ ⟨⟨⟨rfl, rfl⟩, rfl⟩, rfl, .inl rfl, rfl, rfl, trivial⟩)⟩
      · have he := ok_f he hb
        refine And.intro (fun hb => ?_) (fun hb => ?_)
        · have he := ok_t he hb
          obtain ⟨r3_, hr, he⟩ := ok_bind he
          refine ⟨r3_, hr, ?_⟩
          have he := ok_some he
          exact ⟨rfl, _, _, (leads_ren [] (l := [(2, .c (.bool (!r3_)))]) (st' := []) rfl rfl trivial ⟨.inl rfl, trivial⟩), he⟩
        · have he := ok_f he hb
          have he := ok_some he
          exact ⟨rfl, _, _, (leads_ren [] (l := [(2, .c (.bool false))]) (st' := []) rfl rfl trivial ⟨.inr rfl, trivial⟩), he⟩
  · have he := ok_t he hb
    have he := ok_some he
    exact ⟨rfl, _, _, (leads_ren [] (l := [(2, .c (.bool false))]) (st' := []) rfl rfl trivial ⟨.inr rfl, trivial⟩), he⟩

noncomputable def c_impl_CellsValid : Con := fun args st => match args, st with
  | [.agg [.imm (.int .i64) m_0, .imm (.pair (.int .i64) (.pair (.sl (.int .i64)) (.pair (.sl (.int .i64)) (.pair (.int .i64) (.sl (.sl (.int .i64))))))) m_1], .c (.imm (.int .i64) cells)], [] => .opt (Bool) (impl_CellsValid (m_0, m_1) cells) (fun r => .ret (.c (.bool r)) [])
  | _, _ => .fail

noncomputable def C_impl_CellsValid : Cfg := { y := tys, n := 34, h := 0, tab := [(88, c_impl_ModelValid), (89, c_impl_within)], cut := [], hand := [], good := [], deep := [], sched := [] }

theorem t_impl_CellsValid : TabOk Try.prog C_impl_CellsValid := by
  refine tabOk_of ?_
  simp only [C_impl_CellsValid, List.forall_mem_cons]
  exact ⟨k_impl_ModelValid, k_impl_within, fun p h => by cases h⟩

theorem k_impl_CellsValid : Entry Try.prog 114 c_impl_CellsValid := by
  refine entry_by (C := C_impl_CellsValid) mixed tys_ok t_impl_CellsValid (fn := Try.f114) (c := bd Try.f114) (by kernel_rfl) (by kernel_rfl) (by kernel_rfl) (by kernel_rfl) ?_
  intro args st k he
  unfold c_impl_CellsValid at he
  split at he
  rotate_left
  · exact he.elim
  rename_i m_0 m_1 cells
  have he : Ok (impl_CellsValid (m_0, m_1) cells) (fun r => k (.c (.bool r)) []) := he
  refine ⟨rfl, rfl, ?_⟩
  obtain ⟨r1_, hr, he⟩ := ok_bind he
  refine ⟨r1_, hr, ?_⟩
  refine And.intro (fun hb => ?_) (fun hb => ?_)
  · have he := ok_f he hb
    refine And.intro (fun hb => ?_) (fun hb => ?_)
    · have he := ok_t he hb
      have he := ok_some he
      exact ⟨rfl, _, _, (leads_ren [] (l := [(4, .c (.bool false))]) (st' := []) rfl rfl trivial ⟨.inr rfl, trivial⟩), he⟩
    · have he := ok_f he hb
      refine loop_model mixed tys_ok t_impl_CellsValid (S := Int) (I := (fun i => (envOf [(2, .c (.ptr 10000000 0)), (18, .c (.imm (.int .i64) cells)), (19, .c (.int .i64 (cells.length:Int))), (20, .c (.int .i64 i))], [(10000000, .rc [.imm (.int .i64) (m_0, m_1).1, .imm (.pair (.int .i64) (.pair (.sl (.int .i64)) (.pair (.sl (.int .i64)) (.pair (.int .i64) (.sl (.sl (.int .i64))))))) (m_0, m_1).2])]))) (f := impl_CellsValid_l1 (m_0, m_1) cells) (K := (fun r => k (.c (.bool r)) [])) he (leads_ren [(10000000, 2)] (l := [(2, .c (.ptr 10000000 0)), (18, .c (.imm (.int .i64) cells)), (19, .c (.int .i64 (cells.length:Int))), (20, .c (.int .i64 (0:Int)))]) (st' := [(10000000, .rc [.imm (.int .i64) (m_0, m_1).1, .imm (.pair (.int .i64) (.pair (.sl (.int .i64)) (.pair (.sl (.int .i64)) (.pair (.int .i64) (.sl (.sl (.int .i64))))))) (m_0, m_1).2])]) rfl rfl ⟨⟨.inl rfl, .inl rfl, trivial⟩, trivial⟩ ⟨⟨⟨rfl, rfl⟩, rfl⟩, .inl rfl, rfl, rfl, trivial⟩) ?_
      rintro i J1 he
      refine And.intro (fun hb => ?_) (fun hb => ?_)
      · have he := ok_t he hb
        have he := ok_rq he
        refine And.intro he.1 ?_
        have he := he.2
        have he := ok_rq he
        refine And.intro he.1 ?_
        have he := he.2
        obtain ⟨r2_, hr, he⟩ := ok_bind he
        refine ⟨r2_, hr, ?_⟩
        refine And.intro (fun hb => ?_) (fun hb => ?_)
        · have he := ok_t he hb
          have he := ok_some he
          exact ⟨rfl, _, _, (leads_ren [] (l := [(4, .c (.bool false))]) (st' := []) rfl rfl trivial ⟨.inr rfl, trivial⟩), he⟩
        · have he := ok_f he hb
          have he := ok_rq he
          refine And.intro he.1 ?_
          have he := he.2
          have he := ok_some he
          exact ⟨(i + (1:Int)), he, (leads_ren [] (l := [(2, .c (.ptr 10000000 0)), (18, .c (.imm (.int .i64) cells)), (19, .c (.int .i64 (cells.length:Int))), (20, .c (.int .i64 (i + (1:Int))))]) (st' := [(10000000, .rc [.imm (.int .i64) (m_0, m_1).1, .imm (.pair (.int .i64) (.pair (.sl (.int .i64)) (.pair (.sl (.int .i64)) (.pair (.int .i64) (.sl (.sl (.int .i64))))))) (m_0, m_1).2])]) rfl rfl ⟨⟨.inl rfl, .inl rfl, trivial⟩, trivial⟩ ⟨⟨⟨rfl, rfl⟩, rfl⟩, .inl rfl, rfl, rfl, trivial⟩)⟩
      · have he := ok_f he hb
        have he := ok_some he
        exact ⟨rfl, _, _, (leads_ren [] (l := [(4, .c (.bool true))]) (st' := []) rfl rfl trivial ⟨.inr rfl, trivial⟩), he⟩
  · have he := ok_t he hb
    have he := ok_some he
    exact ⟨rfl, _, _, (leads_ren [] (l := [(4, .c (.bool false))]) (st' := []) rfl rfl trivial ⟨.inr rfl, trivial⟩), he⟩

noncomputable def c_impl_isObjective_1 : Con := fun args st => match args, st with
  | [.c (.int .i64 n)], [] => .opt (Bool) (impl_isObjective_1 n) (fun r => .ret (.c (.bool r)) [])
  | _, _ => .fail

noncomputable def C_impl_isObjective_1 : Cfg := { y := tys, n := 6, h := 0, tab := [(89, c_impl_within)], cut := [], hand := [], good := [], deep := [], sched := [] }

theorem t_impl_isObjective_1 : TabOk Try.prog C_impl_isObjective_1 := by
  refine tabOk_of ?_
  simp only [C_impl_isObjective_1, List.forall_mem_cons]
  exact ⟨k_impl_within, fun p h => by cases h⟩

theorem k_impl_isObjective_1 : Entry Try.prog 154 c_impl_isObjective_1 := by
  refine entry_by (C := C_impl_isObjective_1) mixed tys_ok t_impl_isObjective_1 (fn := Try.f154) (c := bd Try.f154) (by kernel_rfl) (by kernel_rfl) (by kernel_rfl) (by kernel_rfl) ?_
  intro args st k he
  unfold c_impl_isObjective_1 at he
  split at he
  rotate_left
  · exact he.elim
  rename_i n
  have he : Ok (impl_isObjective_1 n) (fun r => k (.c (.bool r)) []) := he
  refine ⟨rfl, rfl, ?_⟩
  obtain ⟨r1_, hr, he⟩ := ok_bind he
  refine ⟨r1_, hr, ?_⟩
  have he := ok_some he
  exact ⟨rfl, _, _, Leads.refl _ _, he⟩

noncomputable def c_slices_IndexFunc_int__impl_isObjective_1 : Con := fun args st => match args, st with
  | [.c (.imm (.int .i64) s_), .c (.fn 154 [])], [] => .opt (Int) (slices_IndexFunc_int__impl_isObjective_1 s_) (fun r => .ret (.c (.int .i64 r)) [])
  | _, _ => .fail

noncomputable def C_slices_IndexFunc_int__impl_isObjective_1 : Cfg := { y := tys, n := 19, h := 0, tab := [(154, c_impl_isObjective_1)], cut := [], hand := [], good := [], deep := [], sched := [] }

theorem t_slices_IndexFunc_int__impl_isObjective_1 : TabOk Try.prog C_slices_IndexFunc_int__impl_isObjective_1 := by
  refine tabOk_of ?_
  simp only [C_slices_IndexFunc_int__impl_isObjective_1, List.forall_mem_cons]
  exact ⟨k_impl_isObjective_1, fun p h => by cases h⟩

theorem k_slices_IndexFunc_int__impl_isObjective_1 : Entry Try.prog 145 c_slices_IndexFunc_int__impl_isObjective_1 := by
  refine entry_by (C := C_slices_IndexFunc_int__impl_isObjective_1) mixed tys_ok t_slices_IndexFunc_int__impl_isObjective_1 (fn := Try.f145) (c := bd Try.f145) (by kernel_rfl) (by kernel_rfl) (by kernel_rfl) (by kernel_rfl) ?_
  intro args st k he
  unfold c_slices_IndexFunc_int__impl_isObjective_1 at he
  split at he
  rotate_left
  · exact he.elim
  rename_i s_
  have he : Ok (slices_IndexFunc_int__impl_isObjective_1 s_) (fun r => k (.c (.int .i64 r)) []) := he
  refine ⟨rfl, rfl, ?_⟩
  refine loop_model mixed tys_ok t_slices_IndexFunc_int__impl_isObjective_1 (S := Int) (I := (fun i => (envOf [(0, .c (.imm (.int .i64) s_)), (1, .c (.fn 154 [])), (7, .c (.int .i64 (s_.length:Int))), (8, .c (.int .i64 i))], []))) (f := slices_IndexFunc_int__impl_isObjective_1_l1 s_) (K := (fun r => k (.c (.int .i64 r)) [])) he (leads_ren [] (l := [(0, .c (.imm (.int .i64) s_)), (1, .c (.fn 154 [])), (7, .c (.int .i64 (s_.length:Int))), (8, .c (.int .i64 (0:Int)))]) (st' := []) rfl rfl trivial ⟨.inl rfl, ⟨rfl, trivial⟩, rfl, rfl, trivial⟩) ?_
  rintro i J1 he
  refine And.intro (fun hb => ?_) (fun hb => ?_)
  · have he := ok_t he hb
    have he := ok_rq he
    refine And.intro he.1 ?_
    have he := he.2
    obtain ⟨r1_, hr, he⟩ := ok_bind he
    refine ⟨r1_, hr, ?_⟩
    refine And.intro (fun hb => ?_) (fun hb => ?_)
    · have he := ok_t he hb
      have he := ok_some he
      exact ⟨rfl, _, _, Leads.refl _ _, he⟩
    · have he := ok_f he hb
      have he := ok_rq he
      refine And.intro he.1 ?_
      have he := he.2
      have he := ok_some he
      exact ⟨(i + (1:Int)), he, (leads_ren [] (l := [(0, .c (.imm (.int .i64) s_)), (1, .c (.fn 154 [])), (7, .c (.int .i64 (s_.length:Int))), (8, .c (.int .i64 (i + (1:Int))))]) (st' := []) rfl rfl trivial ⟨.inl rfl, ⟨rfl, trivial⟩, rfl, rfl, trivial⟩)⟩
  · have he := ok_f he hb
    have he := ok_some he
    exact ⟨rfl, _, _, Leads.refl _ _, he⟩

noncomputable def c_slices_ContainsFunc_int__impl_isObjective_1 : Con := fun args st => match args, st with
  | [.c (.imm (.int .i64) s_), .c (.fn 154 [])], [] => .opt (Bool) (slices_ContainsFunc_int__impl_isObjective_1 s_) (fun r => .ret (.c (.bool r)) [])
  | _, _ => .fail

noncomputable def C_slices_ContainsFunc_int__impl_isObjective_1 : Cfg := { y := tys, n := 9, h := 0, tab := [(145, c_slices_IndexFunc_int__impl_isObjective_1)], cut := [], hand := [], good := [], deep := [], sched := [] }

theorem t_slices_ContainsFunc_int__impl_isObjective_1 : TabOk Try.prog C_slices_ContainsFunc_int__impl_isObjective_1 := by
  refine tabOk_of ?_
  simp only [C_slices_ContainsFunc_int__impl_isObjective_1, List.forall_mem_cons]
  exact ⟨k_slices_IndexFunc_int__impl_isObjective_1, fun p h => by cases h⟩

theorem k_slices_ContainsFunc_int__impl_isObjective_1 : Entry Try.prog 97 c_slices_ContainsFunc_int__impl_isObjective_1 := by
  refine entry_by (C := C_slices_ContainsFunc_int__impl_isObjective_1) mixed tys_ok t_slices_ContainsFunc_int__impl_isObjective_1 (fn := Try.f97) (c := bd Try.f97) (by kernel_rfl) (by kernel_rfl) (by kernel_rfl) (by kernel_rfl) ?_
  intro args st k he
  unfold c_slices_ContainsFunc_int__impl_isObjective_1 at he
  split at he
  rotate_left
  · exact he.elim
  rename_i s_
  have he : Ok (slices_ContainsFunc_int__impl_isObjective_1 s_) (fun r => k (.c (.bool r)) []) := he
  refine ⟨rfl, rfl, ?_⟩
  obtain ⟨r1_, hr, he⟩ := ok_bind he
  refine ⟨r1_, hr, ?_⟩
  have he := ok_some he
  exact ⟨rfl, _, _, Leads.refl _ _, he⟩

noncomputable def c_impl_isObjective : Con := fun args st => match args, st with
  | [.agg [.imm (.int .i64) m_0, .imm (.pair (.int .i64) (.pair (.sl (.int .i64)) (.pair (.sl (.int .i64)) (.pair (.int .i64) (.sl (.sl (.int .i64))))))) m_1], .c (.imm (.int .i64) coefs)], [] => .opt (Bool) (impl_isObjective (m_0, m_1) coefs) (fun r => .ret (.c (.bool r)) [])
  | _, _ => .fail

noncomputable def C_impl_isObjective : Cfg := { y := tys, n := 16, h := 0, tab := [(97, c_slices_ContainsFunc_int__impl_isObjective_1)], cut := [], hand := [], good := [], deep := [], sched := [] }

theorem t_impl_isObjective : TabOk Try.prog C_impl_isObjective := by
  refine tabOk_of ?_
  simp only [C_impl_isObjective, List.forall_mem_cons]
  exact ⟨k_slices_ContainsFunc_int__impl_isObjective_1, fun p h => by cases h⟩

theorem k_impl_isObjective : Entry Try.prog 115 c_impl_isObjective := by
  refine entry_by (C := C_impl_isObjective) mixed tys_ok t_impl_isObjective (fn := Try.f115) (c := bd Try.f115) (by kernel_rfl) (by kernel_rfl) (by kernel_rfl) (by kernel_rfl) ?_
  intro args st k he
  unfold c_impl_isObjective at he
  split at he
  rotate_left
  · exact he.elim
  rename_i m_0 m_1 coefs
  have he : Ok (impl_isObjective (m_0, m_1) coefs) (fun r => k (.c (.bool r)) []) := he
  refine ⟨rfl, rfl, ?_⟩
  refine And.intro (fun hb => ?_) (fun hb => ?_)
  · have he := ok_t he hb
    obtain ⟨r1_, hr, he⟩ := ok_bind he
    refine ⟨r1_, hr, ?_⟩
    have he := ok_some he
    exact ⟨rfl, _, _, (leads_ren [] (l := [(4, .c (.bool (!r1_)))]) (st' := []) rfl rfl trivial ⟨.inl rfl, trivial⟩), he⟩
  · have he := ok_f he hb
    have he := ok_some he
    exact ⟨rfl, _, _, (leads_ren [] (l := [(4, .c (.bool false))]) (st' := []) rfl rfl trivial ⟨.inr rfl, trivial⟩), he⟩

noncomputable def c_impl_valueOf : Con := fun args st => match args, st with
  | [.c (.imm (.int .i64) coefs), .c (.imm (.int .i64) cells)], [] => .opt (Int) (impl_valueOf coefs cells) (fun r => .ret (.c (.int .i64 r)) [])
  | _, _ => .fail

noncomputable def C_impl_valueOf : Cfg := { y := tys, n := 25, h := 0, tab := [], cut := [], hand := [], good := [], deep := [], sched := [] }

theorem t_impl_valueOf : TabOk Try.prog C_impl_valueOf := tabOk_of (fun p h => by cases h)

theorem k_impl_valueOf : Entry Try.prog 116 c_impl_valueOf := by
  refine entry_by (C := C_impl_valueOf) mixed tys_ok t_impl_valueOf (fn := Try.f116) (c := bd Try.f116) (by kernel_rfl) (by kernel_rfl) (by kernel_rfl) (by kernel_rfl) ?_
  intro args st k he
  unfold c_impl_valueOf at he
  split at he
  rotate_left
  · exact he.elim
  rename_i coefs cells
  have he : Ok (impl_valueOf coefs cells) (fun r => k (.c (.int .i64 r)) []) := he
  refine ⟨rfl, rfl, ?_⟩
  refine loop_model mixed tys_ok t_impl_valueOf (S := Int × Int) (I := (fun (sum, i) => (envOf [(0, .c (.imm (.int .i64) coefs)), (5, .c (.int .i64 sum)), (8, .c (.imm (.int .i64) cells)), (9, .c (.int .i64 (cells.length:Int))), (10, .c (.int .i64 i))], []))) (f := impl_valueOf_l1 coefs cells) (K := (fun r => k (.c (.int .i64 r)) [])) he (leads_ren [] (l := [(0, .c (.imm (.int .i64) coefs)), (5, .c (.int .i64 (0:Int))), (8, .c (.imm (.int .i64) cells)), (9, .c (.int .i64 (cells.length:Int))), (10, .c (.int .i64 (0:Int)))]) (st' := []) rfl rfl trivial ⟨.inl rfl, rfl, .inl rfl, rfl, rfl, trivial⟩) ?_
  rintro ⟨sum, i⟩ J1 he
  refine And.intro (fun hb => ?_) (fun hb => ?_)
  · have he := ok_t he hb
    have he := ok_rq he
    refine And.intro he.1 ?_
    have he := he.2
    have he := ok_rq he
    refine And.intro he.1 ?_
    have he := he.2
    have he := ok_rq he
    refine And.intro he.1 ?_
    have he := he.2
    have he := ok_rq he
    refine And.intro he.1 ?_
    have he := he.2
    have he := ok_rq he
    refine And.intro he.1 ?_
    have he := he.2
    have he := ok_some he
    exact ⟨((sum + ((coefs.getD i.toNat 0) * (cells.getD i.toNat 0))), (i + (1:Int))), he, (leads_ren [] (l := [(0, .c (.imm (.int .i64) coefs)), (5, .c (.int .i64 (sum + ((coefs.getD i.toNat 0) * (cells.getD i.toNat 0))))), (8, .c (.imm (.int .i64) cells)), (9, .c (.int .i64 (cells.length:Int))), (10, .c (.int .i64 (i + (1:Int))))]) (st' := []) rfl rfl trivial ⟨.inl rfl, rfl, .inl rfl, rfl, rfl, trivial⟩)⟩
  · have he := ok_f he hb
    have he := ok_some he
    exact ⟨rfl, _, _, Leads.refl _ _, he⟩

noncomputable def c_impl_ObjectiveValue : Con := fun args st => match args, st with
  | [.agg [.imm (.int .i64) m_0, .imm (.pair (.int .i64) (.pair (.sl (.int .i64)) (.pair (.sl (.int .i64)) (.pair (.int .i64) (.sl (.sl (.int .i64))))))) m_1], .c (.imm (.int .i64) coefs), .c (.imm (.int .i64) cells)], [] => .opt (Int × Bool) (impl_ObjectiveValue (m_0, m_1) coefs cells) (fun r => .ret (.tup [.c (.int .i64 r.1), .c (.bool r.2)]) [])
  | _, _ => .fail

noncomputable def C_impl_ObjectiveValue : Cfg := { y := tys, n := 21, h := 0, tab := [(114, c_impl_CellsValid), (115, c_impl_isObjective), (116, c_impl_valueOf)], cut := [], hand := [], good := [], deep := [], sched := [] }

theorem t_impl_ObjectiveValue : TabOk Try.prog C_impl_ObjectiveValue := by
  refine tabOk_of ?_
  simp only [C_impl_ObjectiveValue, List.forall_mem_cons]
  exact ⟨k_impl_CellsValid, k_impl_isObjective, k_impl_valueOf, fun p h => by cases h⟩

theorem k_impl_ObjectiveValue : Entry Try.prog 55 c_impl_ObjectiveValue := by
  refine entry_by (C := C_impl_ObjectiveValue) mixed tys_ok t_impl_ObjectiveValue (fn := Try.f55) (c := bd Try.f55) (by kernel_rfl) (by kernel_rfl) (by kernel_rfl) (by kernel_rfl) ?_
  intro args st k he
  unfold c_impl_ObjectiveValue at he
  split at he
  rotate_left
  · exact he.elim
  rename_i m_0 m_1 coefs cells
  have he : Ok (impl_ObjectiveValue (m_0, m_1) coefs cells) (fun r => k (.tup [.c (.int .i64 r.1), .c (.bool r.2)]) []) := he
  refine ⟨rfl, rfl, ?_⟩
  obtain ⟨r1_, hr, he⟩ := ok_bind he
  refine ⟨r1_, hr, ?_⟩
  refine And.intro (fun hb => ?_) (fun hb => ?_)
  · have he := ok_f he hb
    obtain ⟨r2_, hr, he⟩ := ok_bind he
    refine ⟨r2_, hr, ?_⟩
    refine And.intro (fun hb => ?_) (fun hb => ?_)
    · have he := ok_t he hb
      have he := ok_some he
      exact ⟨rfl, _, _, (leads_ren [] (l := [(6, .c (.int .i64 (0:Int))), (7, .c (.bool false))]) (st' := []) rfl rfl trivial ⟨rfl, .inr rfl, trivial⟩), he⟩
    · have he := ok_f he hb
      obtain ⟨r3_, hr, he⟩ := ok_bind he
      refine ⟨r3_, hr, ?_⟩
      have he := ok_some he
      exact ⟨rfl, _, _, (leads_ren [] (l := [(6, .c (.int .i64 r3_)), (7, .c (.bool true))]) (st' := []) rfl rfl trivial ⟨rfl, .inr rfl, trivial⟩), he⟩
  · have he := ok_t he hb
    have he := ok_some he
    exact ⟨rfl, _, _, (leads_ren [] (l := [(6, .c (.int .i64 (0:Int))), (7, .c (.bool false))]) (st' := []) rfl rfl trivial ⟨rfl, .inr rfl, trivial⟩), he⟩

noncomputable def c_spec_l6Vars : Con := fun args st => match args, st with
  | [.agg [.imm (.int .i64) m_0, .imm (.pair (.int .i64) (.pair (.sl (.int .i64)) (.pair (.sl (.int .i64)) (.pair (.int .i64) (.sl (.sl (.int .i64))))))) m_1], .c (.imm (.int .i64) list_)], [] => .opt (Bool) (spec_l6Vars (m_0, m_1) list_) (fun r => .ret (.c (.bool r)) [])
  | _, _ => .fail

noncomputable def C_spec_l6Vars : Cfg := { y := tys, n := 45, h := 0, tab := [], cut := [], hand := [], good := [], deep := [], sched := [] }

theorem t_spec_l6Vars : TabOk Try.prog C_spec_l6Vars := tabOk_of (fun p h => by cases h)

theorem k_spec_l6Vars : Entry Try.prog 86 c_spec_l6Vars := by
  refine entry_by (C := C_spec_l6Vars) mixed tys_ok t_spec_l6Vars (fn := Try.f86) (c := bd Try.f86) (by kernel_rfl) (by kernel_rfl) (by kernel_rfl) (by kernel_rfl) ?_
  intro args st k he
  unfold c_spec_l6Vars at he
  split at he
  rotate_left
  · exact he.elim
  rename_i m_0 m_1 list_
  have he : Ok (spec_l6Vars (m_0, m_1) list_) (fun r => k (.c (.bool r)) []) := he
  refine ⟨rfl, rfl, ?_⟩
  refine loop_model mixed tys_ok t_spec_l6Vars (S := Int) (I := (fun i => (envOf [(1, .c (.imm (.int .i64) list_)), (2, .c (.ptr 10000000 0)), (5, .c (.int .i64 i))], [(10000000, .rc [.imm (.int .i64) (m_0, m_1).1, .imm (.pair (.int .i64) (.pair (.sl (.int .i64)) (.pair (.sl (.int .i64)) (.pair (.int .i64) (.sl (.sl (.int .i64))))))) (m_0, m_1).2])]))) (f := spec_l6Vars_l1 (m_0, m_1) list_) (K := (fun r => k (.c (.bool r)) [])) he (leads_ren [(10000000, 2)] (l := [(1, .c (.imm (.int .i64) list_)), (2, .c (.ptr 10000000 0)), (5, .c (.int .i64 (0:Int)))]) (st' := [(10000000, .rc [.imm (.int .i64) (m_0, m_1).1, .imm (.pair (.int .i64) (.pair (.sl (.int .i64)) (.pair (.sl (.int .i64)) (.pair (.int .i64) (.sl (.sl (.int .i64))))))) (m_0, m_1).2])]) rfl rfl ⟨⟨.inl rfl, .inl rfl, trivial⟩, trivial⟩ ⟨.inl rfl, ⟨⟨rfl, rfl⟩, rfl⟩, rfl, trivial⟩) ?_
  rintro i J1 he
  refine And.intro (fun hb => ?_) (fun hb => ?_)
  · have he := ok_t he hb
    refine And.intro (by kernel_rfl) ?_
    have he := ok_rq he
    refine And.intro he.1 ?_
    have he := he.2
    refine And.intro (fun hb => ?_) (fun hb => ?_)
    · have he := ok_f he hb
      have he := ok_rq he
      refine And.intro he.1 ?_
      have he := he.2
      refine And.intro (fun hb => ?_) (fun hb => ?_)
      · have he := ok_t he hb
        have he := ok_some he
        exact ⟨rfl, _, _, (leads_ren [] (l := [(4, .c (.bool false))]) (st' := []) rfl rfl trivial ⟨.inr rfl, trivial⟩), he⟩
      · have he := ok_f he hb
        refine loop_model mixed tys_ok t_spec_l6Vars (S := Int) (I := (fun k_ => (envOf [(1, .c (.imm (.int .i64) list_)), (2, .c (.ptr 10001000 0)), (5, .c (.int .i64 i)), (6, .c (.int .i64 k_))], [(10001000, .rc [.imm (.int .i64) (m_0, m_1).1, .imm (.pair (.int .i64) (.pair (.sl (.int .i64)) (.pair (.sl (.int .i64)) (.pair (.int .i64) (.sl (.sl (.int .i64))))))) (m_0, m_1).2])]))) (f := spec_l6Vars_l2 list_ i) (K := (LK J1 (fun r => k (.c (.bool r)) []))) he (leads_ren [(10001000, 10000000)] (l := [(1, .c (.imm (.int .i64) list_)), (2, .c (.ptr 10001000 0)), (5, .c (.int .i64 i)), (6, .c (.int .i64 (0:Int)))]) (st' := [(10001000, .rc [.imm (.int .i64) (m_0, m_1).1, .imm (.pair (.int .i64) (.pair (.sl (.int .i64)) (.pair (.sl (.int .i64)) (.pair (.int .i64) (.sl (.sl (.int .i64))))))) (m_0, m_1).2])]) rfl rfl ⟨⟨.inl rfl, .inl rfl, trivial⟩, trivial⟩ ⟨.inl rfl, ⟨⟨rfl, rfl⟩, rfl⟩, rfl, rfl, trivial⟩) ?_
        rintro k_ J2 he
        refine And.intro (fun hb => ?_) (fun hb => ?_)
        · have he := ok_t he hb
          refine And.intro (by kernel_rfl) ?_
          have he := ok_rq he
          refine And.intro he.1 ?_
          have he := he.2
          have he := ok_rq he
          refine And.intro he.1 ?_
          have he := he.2
          refine And.intro (fun hb => ?_) (fun hb => ?_)
          · have he := ok_t he hb
            have he := ok_some he
            exact ⟨rfl, _, _, (leads_ren [] (l := [(4, .c (.bool false))]) (st' := []) rfl rfl trivial ⟨.inr rfl, trivial⟩), he⟩
          · have he := ok_f he hb
            have he := ok_rq he
            refine And.intro he.1 ?_
            have he := he.2
            have he := ok_some he
            exact ⟨(k_ + (1:Int)), he, (leads_ren [] (l := [(1, .c (.imm (.int .i64) list_)), (2, .c (.ptr 10001000 0)), (5, .c (.int .i64 i)), (6, .c (.int .i64 (k_ + (1:Int))))]) (st' := [(10001000, .rc [.imm (.int .i64) (m_0, m_1).1, .imm (.pair (.int .i64) (.pair (.sl (.int .i64)) (.pair (.sl (.int .i64)) (.pair (.int .i64) (.sl (.sl (.int .i64))))))) (m_0, m_1).2])]) rfl rfl ⟨⟨.inl rfl, .inl rfl, trivial⟩, trivial⟩ ⟨.inl rfl, ⟨⟨rfl, rfl⟩, rfl⟩, rfl, rfl, trivial⟩)⟩
        · have he := ok_f he hb
          have he := ok_rq he
          refine And.intro he.1 ?_
          have he := he.2
          have he := ok_some he
          exact ⟨(i + (1:Int)), he, (leads_ren [(10000000, 10001000)] (l := [(1, .c (.imm (.int .i64) list_)), (2, .c (.ptr 10000000 0)), (5, .c (.int .i64 (i + (1:Int))))]) (st' := [(10000000, .rc [.imm (.int .i64) (m_0, m_1).1, .imm (.pair (.int .i64) (.pair (.sl (.int .i64)) (.pair (.sl (.int .i64)) (.pair (.int .i64) (.sl (.sl (.int .i64))))))) (m_0, m_1).2])]) rfl rfl ⟨⟨.inl rfl, .inl rfl, trivial⟩, trivial⟩ ⟨.inl rfl, ⟨⟨rfl, rfl⟩, rfl⟩, rfl, trivial⟩)⟩
    · have he := ok_t he hb
      have he := ok_some he
      exact ⟨rfl, _, _, (leads_ren [] (l := [(4, .c (.bool false))]) (st' := []) rfl rfl trivial ⟨.inr rfl, trivial⟩), he⟩
  · have he := ok_f he hb
    have he := ok_some he
    exact ⟨rfl, _, _, (leads_ren [] (l := [(4, .c (.bool (decide ((1:Int) ≤ (list_.length:Int)))))]) (st' := []) rfl rfl trivial ⟨.inl rfl, trivial⟩), he⟩

noncomputable def c_spec_l6Linear : Con := fun args st => match args, st with
  | [.agg [.int .i64 r__0, .imm (.int .i64) r__1, .imm (.int .i64) r__2, .int .i64 r__3, .imm (.sl (.int .i64)) r__4]], [] => .opt (Bool) (spec_l6Linear (r__0, (r__1, (r__2, (r__3, r__4))))) (fun r => .ret (.c (.bool r)) [])
  | _, _ => .fail

noncomputable def C_spec_l6Linear : Cfg := { y := tys, n := 50, h := 0, tab := [], cut := [], hand := [], good := [], deep := [], sched := [] }

theorem t_spec_l6Linear : TabOk Try.prog C_spec_l6Linear := tabOk_of (fun p h => by cases h)

theorem k_spec_l6Linear : Entry Try.prog 165 c_spec_l6Linear := by
  refine entry_by (C := C_spec_l6Linear) mixed tys_ok t_spec_l6Linear (fn := Try.f165) (c := bd Try.f165) (by kernel_rfl) (by kernel_rfl) (by kernel_rfl) (by kernel_rfl) ?_
  intro args st k he
  unfold c_spec_l6Linear at he
  split at he
  rotate_left
  · exact he.elim
  rename_i r__0 r__1 r__2 r__3 r__4
  have he : Ok (spec_l6Linear (r__0, (r__1, (r__2, (r__3, r__4))))) (fun r => k (.c (.bool r)) []) := he
  refine ⟨rfl, rfl, ?_⟩
  refine loop_model mixed tys_ok t_spec_l6Linear (S := Int) (I := (fun i => (envOf [(1, .c (.ptr 10000000 0)), (3, .c (.int .i64 i))], [(10000000, .rc [.int .i64 (r__0, (r__1, (r__2, (r__3, r__4)))).1, .imm (.int .i64) (r__0, (r__1, (r__2, (r__3, r__4)))).2.1, .imm (.int .i64) (r__0, (r__1, (r__2, (r__3, r__4)))).2.2.1, .int .i64 (r__0, (r__1, (r__2, (r__3, r__4)))).2.2.2.1, .imm (.sl (.int .i64)) (r__0, (r__1, (r__2, (r__3, r__4)))).2.2.2.2])]))) (f := spec_l6Linear_l1 (r__0, (r__1, (r__2, (r__3, r__4))))) (K := (fun r => k (.c (.bool r)) [])) he (leads_ren [(10000000, 1)] (l := [(1, .c (.ptr 10000000 0)), (3, .c (.int .i64 (0:Int)))]) (st' := [(10000000, .rc [.int .i64 (r__0, (r__1, (r__2, (r__3, r__4)))).1, .imm (.int .i64) (r__0, (r__1, (r__2, (r__3, r__4)))).2.1, .imm (.int .i64) (r__0, (r__1, (r__2, (r__3, r__4)))).2.2.1, .int .i64 (r__0, (r__1, (r__2, (r__3, r__4)))).2.2.2.1, .imm (.sl (.int .i64)) (r__0, (r__1, (r__2, (r__3, r__4)))).2.2.2.2])]) rfl rfl ⟨⟨rfl, .inl rfl, .inl rfl, rfl, .inl rfl, trivial⟩, trivial⟩ ⟨⟨⟨rfl, rfl⟩, rfl⟩, rfl, trivial⟩) ?_
  rintro i J1 he
  refine And.intro (fun hb => ?_) (fun hb => ?_)
  · have he := ok_t he hb
    have he := ok_rq he
    refine And.intro he.1 ?_
    have he := he.2
    refine And.intro (fun hb => ?_) (fun hb => ?_)
    · have he := ok_f he hb
      have he := ok_rq he
      refine And.intro he.1 ?_
      have he := he.2
      refine And.intro (fun hb => ?_) (fun hb => ?_)
      · have he := ok_f he hb
        have he := ok_rq he
        refine And.intro he.1 ?_
        have he := he.2
        refine And.intro (fun hb => ?_) (fun hb => ?_)
        · have he := ok_t he hb
          have he := ok_some he
          exact ⟨rfl, _, _, (leads_ren [] (l := [(2, .c (.bool false))]) (st' := []) rfl rfl trivial ⟨.inr rfl, trivial⟩), he⟩
        · have he := ok_f he hb
          have he := ok_rq he
          refine And.intro he.1 ?_
          have he := he.2
          have he := ok_some he
          exact ⟨(i + (1:Int)), he, (leads_ren [] (l := [(1, .c (.ptr 10000000 0)), (3, .c (.int .i64 (i + (1:Int))))]) (st' := [(10000000, .rc [.int .i64 (r__0, (r__1, (r__2, (r__3, r__4)))).1, .imm (.int .i64) (r__0, (r__1, (r__2, (r__3, r__4)))).2.1, .imm (.int .i64) (r__0, (r__1, (r__2, (r__3, r__4)))).2.2.1, .int .i64 (r__0, (r__1, (r__2, (r__3, r__4)))).2.2.2.1, .imm (.sl (.int .i64)) (r__0, (r__1, (r__2, (r__3, r__4)))).2.2.2.2])]) rfl rfl ⟨⟨rfl, .inl rfl, .inl rfl, rfl, .inl rfl, trivial⟩, trivial⟩ ⟨⟨⟨rfl, rfl⟩, rfl⟩, rfl, trivial⟩)⟩
      · have he := ok_t he hb
        have he := ok_some he
        exact ⟨rfl, _, _, (leads_ren [] (l := [(2, .c (.bool false))]) (st' := []) rfl rfl trivial ⟨.inr rfl, trivial⟩), he⟩
    · have he := ok_t he hb
      have he := ok_some he
      exact ⟨rfl, _, _, (leads_ren [] (l := [(2, .c (.bool false))]) (st' := []) rfl rfl trivial ⟨.inr rfl, trivial⟩), he⟩
  · have he := ok_f he hb
    refine And.intro (fun hb => ?_) (fun hb => ?_)
    · have he := ok_t he hb
      refine And.intro (fun hb => ?_) (fun hb => ?_)
      · have he := ok_t he hb
        have he := ok_some he
        exact ⟨rfl, _, _, (leads_ren [] (l := [(2, .c (.bool (decide ((r__0, (r__1, (r__2, (r__3, r__4)))).2.2.2.1 ≤ (1000:Int)))))]) (st' := []) rfl rfl trivial ⟨.inl rfl, trivial⟩), he⟩
      · have he := ok_f he hb
        have he := ok_some he
        exact ⟨rfl, _, _, (leads_ren [] (l := [(2, .c (.bool false))]) (st' := []) rfl rfl trivial ⟨.inr rfl, trivial⟩), he⟩
    · have he := ok_f he hb
      have he := ok_some he
      exact ⟨rfl, _, _, (leads_ren [] (l := [(2, .c (.bool false))]) (st' := []) rfl rfl trivial ⟨.inr rfl, trivial⟩), he⟩

noncomputable def c_spec_l6Table : Con := fun args st => match args, st with
  | [.agg [.int .i64 r__0, .imm (.int .i64) r__1, .imm (.int .i64) r__2, .int .i64 r__3, .imm (.sl (.int .i64)) r__4]], [] => .opt (Bool) (spec_l6Table (r__0, (r__1, (r__2, (r__3, r__4))))) (fun r => .ret (.c (.bool r)) [])
  | _, _ => .fail

noncomputable def C_spec_l6Table : Cfg := { y := tys, n := 56, h := 0, tab := [], cut := [], hand := [], good := [], deep := [], sched := [] }

theorem t_spec_l6Table : TabOk Try.prog C_spec_l6Table := tabOk_of (fun p h => by cases h)

theorem k_spec_l6Table : Entry Try.prog 166 c_spec_l6Table := by
  refine entry_by (C := C_spec_l6Table) mixed tys_ok t_spec_l6Table (fn := Try.f166) (c := bd Try.f166) (by kernel_rfl) (by kernel_rfl) (by kernel_rfl) (by kernel_rfl) ?_
  intro args st k he
  unfold c_spec_l6Table at he
  split at he
  rotate_left
  · exact he.elim
  rename_i r__0 r__1 r__2 r__3 r__4
  have he : Ok (spec_l6Table (r__0, (r__1, (r__2, (r__3, r__4))))) (fun r => k (.c (.bool r)) []) := he
  refine ⟨rfl, rfl, ?_⟩
  refine loop_model mixed tys_ok t_spec_l6Table (S := Int) (I := (fun i => (envOf [(1, .c (.ptr 10000000 0)), (3, .c (.int .i64 i))], [(10000000, .rc [.int .i64 (r__0, (r__1, (r__2, (r__3, r__4)))).1, .imm (.int .i64) (r__0, (r__1, (r__2, (r__3, r__4)))).2.1, .imm (.int .i64) (r__0, (r__1, (r__2, (r__3, r__4)))).2.2.1, .int .i64 (r__0, (r__1, (r__2, (r__3, r__4)))).2.2.2.1, .imm (.sl (.int .i64)) (r__0, (r__1, (r__2, (r__3, r__4)))).2.2.2.2])]))) (f := spec_l6Table_l1 (r__0, (r__1, (r__2, (r__3, r__4))))) (K := (fun r => k (.c (.bool r)) [])) he (leads_ren [(10000000, 1)] (l := [(1, .c (.ptr 10000000 0)), (3, .c (.int .i64 (0:Int)))]) (st' := [(10000000, .rc [.int .i64 (r__0, (r__1, (r__2, (r__3, r__4)))).1, .imm (.int .i64) (r__0, (r__1, (r__2, (r__3, r__4)))).2.1, .imm (.int .i64) (r__0, (r__1, (r__2, (r__3, r__4)))).2.2.1, .int .i64 (r__0, (r__1, (r__2, (r__3, r__4)))).2.2.2.1, .imm (.sl (.int .i64)) (r__0, (r__1, (r__2, (r__3, r__4)))).2.2.2.2])]) rfl rfl ⟨⟨rfl, .inl rfl, .inl rfl, rfl, .inl rfl, trivial⟩, trivial⟩ ⟨⟨⟨rfl, rfl⟩, rfl⟩, rfl, trivial⟩) ?_
  rintro i J1 he
  refine And.intro (fun hb => ?_) (fun hb => ?_)
  · have he := ok_t he hb
    refine And.intro (by kernel_rfl) ?_
    have he := ok_rq he
    refine And.intro he.1 ?_
    have he := he.2
    refine And.intro (fun hb => ?_) (fun hb => ?_)
    · have he := ok_t he hb
      have he := ok_some he
      exact ⟨rfl, _, _, (leads_ren [] (l := [(2, .c (.bool false))]) (st' := []) rfl rfl trivial ⟨.inr rfl, trivial⟩), he⟩
    · have he := ok_f he hb
      refine loop_model mixed tys_ok t_spec_l6Table (S := Int) (I := (fun k_ => (envOf [(1, .c (.ptr 10001000 0)), (3, .c (.int .i64 i)), (4, .c (.int .i64 k_))], [(10001000, .rc [.int .i64 (r__0, (r__1, (r__2, (r__3, r__4)))).1, .imm (.int .i64) (r__0, (r__1, (r__2, (r__3, r__4)))).2.1, .imm (.int .i64) (r__0, (r__1, (r__2, (r__3, r__4)))).2.2.1, .int .i64 (r__0, (r__1, (r__2, (r__3, r__4)))).2.2.2.1, .imm (.sl (.int .i64)) (r__0, (r__1, (r__2, (r__3, r__4)))).2.2.2.2])]))) (f := spec_l6Table_l2 (r__0, (r__1, (r__2, (r__3, r__4)))) i) (K := (LK J1 (fun r => k (.c (.bool r)) []))) he (leads_ren [(10001000, 10000000)] (l := [(1, .c (.ptr 10001000 0)), (3, .c (.int .i64 i)), (4, .c (.int .i64 (0:Int)))]) (st' := [(10001000, .rc [.int .i64 (r__0, (r__1, (r__2, (r__3, r__4)))).1, .imm (.int .i64) (r__0, (r__1, (r__2, (r__3, r__4)))).2.1, .imm (.int .i64) (r__0, (r__1, (r__2, (r__3, r__4)))).2.2.1, .int .i64 (r__0, (r__1, (r__2, (r__3, r__4)))).2.2.2.1, .imm (.sl (.int .i64)) (r__0, (r__1, (r__2, (r__3, r__4)))).2.2.2.2])]) rfl rfl ⟨⟨rfl, .inl rfl, .inl rfl, rfl, .inl rfl, trivial⟩, trivial⟩ ⟨⟨⟨rfl, rfl⟩, rfl⟩, rfl, rfl, trivial⟩) ?_
      rintro k_ J2 he
      have he := ok_rq he
      refine And.intro he.1 ?_
      have he := he.2
      refine And.intro (fun hb => ?_) (fun hb => ?_)
      · have he := ok_t he hb
        have he := ok_rq he
        refine And.intro he.1 ?_
        have he := he.2
        have he := ok_rq he
        refine And.intro he.1 ?_
        have he := he.2
        refine And.intro (fun hb => ?_) (fun hb => ?_)
        · have he := ok_f he hb
          have he := ok_rq he
          refine And.intro he.1 ?_
          have he := he.2
          have he := ok_rq he
          refine And.intro he.1 ?_
          have he := he.2
          refine And.intro (fun hb => ?_) (fun hb => ?_)
          · have he := ok_t he hb
            have he := ok_some he
            exact ⟨rfl, _, _, (leads_ren [] (l := [(2, .c (.bool false))]) (st' := []) rfl rfl trivial ⟨.inr rfl, trivial⟩), he⟩
          · have he := ok_f he hb
            have he := ok_rq he
            refine And.intro he.1 ?_
            have he := he.2
            have he := ok_some he
            exact ⟨(k_ + (1:Int)), he, (leads_ren [] (l := [(1, .c (.ptr 10001000 0)), (3, .c (.int .i64 i)), (4, .c (.int .i64 (k_ + (1:Int))))]) (st' := [(10001000, .rc [.int .i64 (r__0, (r__1, (r__2, (r__3, r__4)))).1, .imm (.int .i64) (r__0, (r__1, (r__2, (r__3, r__4)))).2.1, .imm (.int .i64) (r__0, (r__1, (r__2, (r__3, r__4)))).2.2.1, .int .i64 (r__0, (r__1, (r__2, (r__3, r__4)))).2.2.2.1, .imm (.sl (.int .i64)) (r__0, (r__1, (r__2, (r__3, r__4)))).2.2.2.2])]) rfl rfl ⟨⟨rfl, .inl rfl, .inl rfl, rfl, .inl rfl, trivial⟩, trivial⟩ ⟨⟨⟨rfl, rfl⟩, rfl⟩, rfl, rfl, trivial⟩)⟩
        · have he := ok_t he hb
          have he := ok_some he
          exact ⟨rfl, _, _, (leads_ren [] (l := [(2, .c (.bool false))]) (st' := []) rfl rfl trivial ⟨.inr rfl, trivial⟩), he⟩
      · have he := ok_f he hb
        have he := ok_rq he
        refine And.intro he.1 ?_
        have he := he.2
        have he := ok_some he
        exact ⟨(i + (1:Int)), he, (leads_ren [(10000000, 10001000)] (l := [(1, .c (.ptr 10000000 0)), (3, .c (.int .i64 (i + (1:Int))))]) (st' := [(10000000, .rc [.int .i64 (r__0, (r__1, (r__2, (r__3, r__4)))).1, .imm (.int .i64) (r__0, (r__1, (r__2, (r__3, r__4)))).2.1, .imm (.int .i64) (r__0, (r__1, (r__2, (r__3, r__4)))).2.2.1, .int .i64 (r__0, (r__1, (r__2, (r__3, r__4)))).2.2.2.1, .imm (.sl (.int .i64)) (r__0, (r__1, (r__2, (r__3, r__4)))).2.2.2.2])]) rfl rfl ⟨⟨rfl, .inl rfl, .inl rfl, rfl, .inl rfl, trivial⟩, trivial⟩ ⟨⟨⟨rfl, rfl⟩, rfl⟩, rfl, trivial⟩)⟩
  · have he := ok_f he hb
    have he := ok_some he
    exact ⟨rfl, _, _, (leads_ren [] (l := [(2, .c (.bool (decide (((r__0, (r__1, (r__2, (r__3, r__4)))).2.2.2.2.length:Int) ≤ (8:Int)))))]) (st' := []) rfl rfl trivial ⟨.inl rfl, trivial⟩), he⟩

noncomputable def c_spec_l6Rule : Con := fun args st => match args, st with
  | [.agg [.imm (.int .i64) m_0, .imm (.pair (.int .i64) (.pair (.sl (.int .i64)) (.pair (.sl (.int .i64)) (.pair (.int .i64) (.sl (.sl (.int .i64))))))) m_1], .agg [.int .i64 r__0, .imm (.int .i64) r__1, .imm (.int .i64) r__2, .int .i64 r__3, .imm (.sl (.int .i64)) r__4]], [] => .opt (Bool) (spec_l6Rule (m_0, m_1) (r__0, (r__1, (r__2, (r__3, r__4))))) (fun r => .ret (.c (.bool r)) [])
  | _, _ => .fail

noncomputable def C_spec_l6Rule : Cfg := { y := tys, n := 55, h := 0, tab := [(86, c_spec_l6Vars), (165, c_spec_l6Linear), (166, c_spec_l6Table)], cut := [3], hand := [], good := [], deep := [], sched := [] }

theorem t_spec_l6Rule : TabOk Try.prog C_spec_l6Rule := by
  refine tabOk_of ?_
  simp only [C_spec_l6Rule, List.forall_mem_cons]
  exact ⟨k_spec_l6Vars, k_spec_l6Linear, k_spec_l6Table, fun p h => by cases h⟩

theorem k_spec_l6Rule : Entry Try.prog 137 c_spec_l6Rule := by
  refine entry_by (C := C_spec_l6Rule) mixed tys_ok t_spec_l6Rule (fn := Try.f137) (c := bd Try.f137) (by kernel_rfl) (by kernel_rfl) (by kernel_rfl) (by kernel_rfl) ?_
  intro args st k he
  unfold c_spec_l6Rule at he
  split at he
  rotate_left
  · exact he.elim
  rename_i m_0 m_1 r__0 r__1 r__2 r__3 r__4
  have he : Ok (spec_l6Rule (m_0, m_1) (r__0, (r__1, (r__2, (r__3, r__4))))) (fun r => k (.c (.bool r)) []) := he
  refine ⟨rfl, rfl, ?_⟩
  refine seq_model mixed tys_ok t_spec_l6Rule (S := Unit) (I := (fun _ => (envOf [(3, .c (.ptr 10000000 0))], [(10000000, .rc [.int .i64 (r__0, (r__1, (r__2, (r__3, r__4)))).1, .imm (.int .i64) (r__0, (r__1, (r__2, (r__3, r__4)))).2.1, .imm (.int .i64) (r__0, (r__1, (r__2, (r__3, r__4)))).2.2.1, .int .i64 (r__0, (r__1, (r__2, (r__3, r__4)))).2.2.2.1, .imm (.sl (.int .i64)) (r__0, (r__1, (r__2, (r__3, r__4)))).2.2.2.2])]))) (B := fun s => Ok (spec_l6Rule_j1 (r__0, (r__1, (r__2, (r__3, r__4)))) s) (fun r => k (.c (.bool r)) [])) ?_ ?_
  · rintro ⟨⟩ he
    refine And.intro (fun hb => ?_) (fun hb => ?_)
    · have he := ok_t he hb
      obtain ⟨r2_, hr, he⟩ := ok_bind he
      refine ⟨r2_, hr, ?_⟩
      have he := ok_some he
      exact ⟨rfl, _, _, (leads_ren [] (l := [(4, .c (.bool r2_))]) (st' := []) rfl rfl trivial ⟨.inl rfl, trivial⟩), he⟩
    · have he := ok_f he hb
      refine And.intro (fun hb => ?_) (fun hb => ?_)
      · have he := ok_t he hb
        have he := ok_some he
        exact ⟨rfl, _, _, (leads_ren [] (l := [(4, .c (.bool true))]) (st' := []) rfl rfl trivial ⟨.inr rfl, trivial⟩), he⟩
      · have he := ok_f he hb
        refine And.intro (fun hb => ?_) (fun hb => ?_)
        · have he := ok_t he hb
          obtain ⟨r3_, hr, he⟩ := ok_bind he
          refine ⟨r3_, hr, ?_⟩
          have he := ok_some he
          exact ⟨rfl, _, _, (leads_ren [] (l := [(4, .c (.bool r3_))]) (st' := []) rfl rfl trivial ⟨.inl rfl, trivial⟩), he⟩
        · have he := ok_f he hb
          refine And.intro (fun hb => ?_) (fun hb => ?_)
          · have he := ok_t he hb
            have he := ok_some he
            exact ⟨rfl, _, _, (leads_ren [] (l := [(4, .c (.bool (((r__0, (r__1, (r__2, (r__3, r__4)))).2.1.length:Int) == (2:Int))))]) (st' := []) rfl rfl trivial ⟨.inl rfl, trivial⟩), he⟩
          · have he := ok_f he hb
            have he := ok_some he
            exact ⟨rfl, _, _, (leads_ren [] (l := [(4, .c (.bool false))]) (st' := []) rfl rfl trivial ⟨.inr rfl, trivial⟩), he⟩
  · skip
    obtain ⟨r1_, hr, he⟩ := ok_bind he
    refine ⟨r1_, hr, ?_⟩
    refine And.intro (fun hb => ?_) (fun hb => ?_)
    · have he := ok_f he hb
      refine And.intro (fun hb => ?_) (fun hb => ?_)
      · have he := ok_t he hb
        refine And.intro (fun hb => ?_) (fun hb => ?_)
        · have he := ok_f he hb
          refine And.intro (fun hb => ?_) (fun hb => ?_)
          · have he := ok_f he hb
            refine And.intro (fun hb => ?_) (fun hb => ?_)
            · have he := ok_t he hb
              refine And.intro (fun hb => ?_) (fun hb => ?_)
              · have he := ok_t he hb
                have he := ok_some he
                exact ⟨rfl, _, _, (leads_ren [] (l := [(4, .c (.bool false))]) (st' := []) rfl rfl trivial ⟨.inr rfl, trivial⟩), he⟩
              · have he := ok_f he hb
                exact ⟨(), he, (leads_ren [(10000000, 3)] (l := [(3, .c (.ptr 10000000 0))]) (st' := [(10000000, .rc [.int .i64 (r__0, (r__1, (r__2, (r__3, r__4)))).1, .imm (.int .i64) (r__0, (r__1, (r__2, (r__3, r__4)))).2.1, .imm (.int .i64) (r__0, (r__1, (r__2, (r__3, r__4)))).2.2.1, .int .i64 (r__0, (r__1, (r__2, (r__3, r__4)))).2.2.2.1, .imm (.sl (.int .i64)) (r__0, (r__1, (r__2, (r__3, r__4)))).2.2.2.2])]) rfl rfl ⟨⟨rfl, .inl rfl, .inl rfl, rfl, .inl rfl, trivial⟩, trivial⟩ ⟨⟨⟨rfl, rfl⟩, rfl⟩, trivial⟩)⟩
            · have he := ok_f he hb
              exact ⟨(), he, (leads_ren [(10000000, 3)] (l := [(3, .c (.ptr 10000000 0))]) (st' := [(10000000, .rc [.int .i64 (r__0, (r__1, (r__2, (r__3, r__4)))).1, .imm (.int .i64) (r__0, (r__1, (r__2, (r__3, r__4)))).2.1, .imm (.int .i64) (r__0, (r__1, (r__2, (r__3, r__4)))).2.2.1, .int .i64 (r__0, (r__1, (r__2, (r__3, r__4)))).2.2.2.1, .imm (.sl (.int .i64)) (r__0, (r__1, (r__2, (r__3, r__4)))).2.2.2.2])]) rfl rfl ⟨⟨rfl, .inl rfl, .inl rfl, rfl, .inl rfl, trivial⟩, trivial⟩ ⟨⟨⟨rfl, rfl⟩, rfl⟩, trivial⟩)⟩
          · have he := ok_t he hb
            have he := ok_some he
            exact ⟨rfl, _, _, (leads_ren [] (l := [(4, .c (.bool false))]) (st' := []) rfl rfl trivial ⟨.inr rfl, trivial⟩), he⟩
        · have he := ok_t he hb
          have he := ok_some he
          exact ⟨rfl, _, _, (leads_ren [] (l := [(4, .c (.bool false))]) (st' := []) rfl rfl trivial ⟨.inr rfl, trivial⟩), he⟩
      · have he := ok_f he hb
        refine And.intro (fun hb => ?_) (fun hb => ?_)
        · have he := ok_t he hb
          refine And.intro (fun hb => ?_) (fun hb => ?_)
          · have he := ok_t he hb
            have he := ok_some he
            exact ⟨rfl, _, _, (leads_ren [] (l := [(4, .c (.bool false))]) (st' := []) rfl rfl trivial ⟨.inr rfl, trivial⟩), he⟩
          · have he := ok_f he hb
            exact ⟨(), he, (leads_ren [(10000000, 3)] (l := [(3, .c (.ptr 10000000 0))]) (st' := [(10000000, .rc [.int .i64 (r__0, (r__1, (r__2, (r__3, r__4)))).1, .imm (.int .i64) (r__0, (r__1, (r__2, (r__3, r__4)))).2.1, .imm (.int .i64) (r__0, (r__1, (r__2, (r__3, r__4)))).2.2.1, .int .i64 (r__0, (r__1, (r__2, (r__3, r__4)))).2.2.2.1, .imm (.sl (.int .i64)) (r__0, (r__1, (r__2, (r__3, r__4)))).2.2.2.2])]) rfl rfl ⟨⟨rfl, .inl rfl, .inl rfl, rfl, .inl rfl, trivial⟩, trivial⟩ ⟨⟨⟨rfl, rfl⟩, rfl⟩, trivial⟩)⟩
        · have he := ok_f he hb
          exact ⟨(), he, (leads_ren [(10000000, 3)] (l := [(3, .c (.ptr 10000000 0))]) (st' := [(10000000, .rc [.int .i64 (r__0, (r__1, (r__2, (r__3, r__4)))).1, .imm (.int .i64) (r__0, (r__1, (r__2, (r__3, r__4)))).2.1, .imm (.int .i64) (r__0, (r__1, (r__2, (r__3, r__4)))).2.2.1, .int .i64 (r__0, (r__1, (r__2, (r__3, r__4)))).2.2.2.1, .imm (.sl (.int .i64)) (r__0, (r__1, (r__2, (r__3, r__4)))).2.2.2.2])]) rfl rfl ⟨⟨rfl, .inl rfl, .inl rfl, rfl, .inl rfl, trivial⟩, trivial⟩ ⟨⟨⟨rfl, rfl⟩, rfl⟩, trivial⟩)⟩
    · have he := ok_t he hb
      have he := ok_some he
      exact ⟨rfl, _, _, (leads_ren [] (l := [(4, .c (.bool false))]) (st' := []) rfl rfl trivial ⟨.inr rfl, trivial⟩), he⟩

noncomputable def c_spec_ModelValid : Con := fun args st => match args, st with
  | [.agg [.imm (.int .i64) a0_0, .imm (.pair (.int .i64) (.pair (.sl (.int .i64)) (.pair (.sl (.int .i64)) (.pair (.int .i64) (.sl (.sl (.int .i64))))))) a0_1]], [] => .opt (Bool) (spec_ModelValid (a0_0, a0_1)) (fun r => .ret (.c (.bool r)) [])
  | _, _ => .fail

noncomputable def C_spec_ModelValid : Cfg := { y := tys, n := 74, h := 0, tab := [(137, c_spec_l6Rule)], cut := [8], hand := [], good := [], deep := [], sched := [(13, (.first 1 (.first 3 (.alt 0 (.alt 2 (.first 4 (.first 5 (.alt 6 (.first 7 .done) .stop))) .stop) (.alt 2 (.first 4 (.first 5 (.alt 0 (.alt 6 (.first 7 .done) .stop) .stop))) .stop)))))] }

theorem t_spec_ModelValid : TabOk Try.prog C_spec_ModelValid := by
  refine tabOk_of ?_
  simp only [C_spec_ModelValid, List.forall_mem_cons]
  exact ⟨k_spec_l6Rule, fun p h => by cases h⟩

theorem k_spec_ModelValid : Entry Try.prog 85 c_spec_ModelValid := by
  refine entry_by (C := C_spec_ModelValid) mixed tys_ok t_spec_ModelValid (fn := Try.f85) (c := bd Try.f85) (by kernel_rfl) (by kernel_rfl) (by kernel_rfl) (by kernel_rfl) ?_
  intro args st k he
  unfold c_spec_ModelValid at he
  split at he
  rotate_left
  · exact he.elim
  rename_i a0_0 a0_1
  have he : Ok (spec_ModelValid (a0_0, a0_1)) (fun r => k (.c (.bool r)) []) := he
  refine ⟨rfl, rfl, ?_⟩
  refine seq_model mixed tys_ok t_spec_ModelValid (S := Int) (I := (fun i2 => (envOf [(1, .c (.ptr 10001000 0)), (3, .c (.int .i64 i2))], [(10001000, .rc [.imm (.int .i64) (a0_0, a0_1).1, .imm (.pair (.int .i64) (.pair (.sl (.int .i64)) (.pair (.sl (.int .i64)) (.pair (.int .i64) (.sl (.sl (.int .i64))))))) (a0_0, a0_1).2])]))) (B := fun s => Ok (spec_ModelValid_j1 (a0_0, a0_1) s) (fun r => k (.c (.bool r)) [])) ?_ ?_
  · rintro i2 he
    refine And.intro (fun hb => ?_) (fun hb => ?_)
    · have he := ok_f he hb
      refine And.intro (fun hb => ?_) (fun hb => ?_)
      · have he := ok_f he hb
        refine And.intro (fun hb => ?_) (fun hb => ?_)
        · have he := ok_f he hb
          refine And.intro (fun hb => ?_) (fun hb => ?_)
          · have he := ok_t he hb
            have he := ok_some he
            exact ⟨rfl, _, _, (leads_ren [] (l := [(2, .c (.bool false))]) (st' := []) rfl rfl trivial ⟨.inr rfl, trivial⟩), he⟩
          · have he := ok_f he hb
            refine loop_model mixed tys_ok t_spec_ModelValid (S := Int) (I := (fun i3 => (envOf [(1, .c (.ptr 10002000 0)), (5, .c (.int .i64 i3))], [(10002000, .rc [.imm (.int .i64) (a0_0, a0_1).1, .imm (.pair (.int .i64) (.pair (.sl (.int .i64)) (.pair (.sl (.int .i64)) (.pair (.int .i64) (.sl (.sl (.int .i64))))))) (a0_0, a0_1).2])]))) (f := spec_ModelValid_l1 (a0_0, a0_1)) (K := (fun r => k (.c (.bool r)) [])) he (leads_ren [(10002000, 10001000)] (l := [(1, .c (.ptr 10002000 0)), (5, .c (.int .i64 (0:Int)))]) (st' := [(10002000, .rc [.imm (.int .i64) (a0_0, a0_1).1, .imm (.pair (.int .i64) (.pair (.sl (.int .i64)) (.pair (.sl (.int .i64)) (.pair (.int .i64) (.sl (.sl (.int .i64))))))) (a0_0, a0_1).2])]) rfl rfl ⟨⟨.inl rfl, .inl rfl, trivial⟩, trivial⟩ ⟨⟨⟨rfl, rfl⟩, rfl⟩, rfl, trivial⟩) ?_
            rintro i3 J1 he
            refine And.intro (fun hb => ?_) (fun hb => ?_)
            · have he := ok_t he hb
              refine And.intro (by kernel_rfl) ?_
              have he := ok_rq he
              have hq1 := he.1
              have he := he.2
              obtain ⟨r2_, hq2, he⟩ := ok_bind he
              refine And.intro ?_ (And.intro ?_ (trivial))
              · skip
                refine And.intro ?_ trivial
                refine And.intro hq1 ?_
                refine And.intro ?_ trivial
                refine ⟨r2_, hq2, ?_⟩
                refine And.intro (fun hb => ?_) (fun hb => ?_)
                · have he := ok_t he hb
                  have he := ok_some he
                  exact ⟨rfl, _, _, (leads_ren [] (l := [(2, .c (.bool false))]) (st' := []) rfl rfl trivial ⟨.inr rfl, trivial⟩), he⟩
                · have he := ok_f he hb
                  have he := ok_rq he
                  refine And.intro he.1 ?_
                  have he := he.2
                  have he := ok_some he
                  exact ⟨(i3 + (1:Int)), he, (leads_ren [] (l := [(1, .c (.ptr 10002000 0)), (5, .c (.int .i64 (i3 + (1:Int))))]) (st' := [(10002000, .rc [.imm (.int .i64) (a0_0, a0_1).1, .imm (.pair (.int .i64) (.pair (.sl (.int .i64)) (.pair (.sl (.int .i64)) (.pair (.int .i64) (.sl (.sl (.int .i64))))))) (a0_0, a0_1).2])]) rfl rfl ⟨⟨.inl rfl, .inl rfl, trivial⟩, trivial⟩ ⟨⟨⟨rfl, rfl⟩, rfl⟩, rfl, trivial⟩)⟩
              · skip
                refine And.intro hq1 ?_
                refine And.intro ?_ trivial
                refine And.intro ?_ trivial
                refine ⟨r2_, hq2, ?_⟩
                refine And.intro (fun hb => ?_) (fun hb => ?_)
                · have he := ok_t he hb
                  have he := ok_some he
                  exact ⟨rfl, _, _, (leads_ren [] (l := [(2, .c (.bool false))]) (st' := []) rfl rfl trivial ⟨.inr rfl, trivial⟩), he⟩
                · have he := ok_f he hb
                  have he := ok_rq he
                  refine And.intro he.1 ?_
                  have he := he.2
                  have he := ok_some he
                  exact ⟨(i3 + (1:Int)), he, (leads_ren [] (l := [(1, .c (.ptr 10002000 0)), (5, .c (.int .i64 (i3 + (1:Int))))]) (st' := [(10002000, .rc [.imm (.int .i64) (a0_0, a0_1).1, .imm (.pair (.int .i64) (.pair (.sl (.int .i64)) (.pair (.sl (.int .i64)) (.pair (.int .i64) (.sl (.sl (.int .i64))))))) (a0_0, a0_1).2])]) rfl rfl ⟨⟨.inl rfl, .inl rfl, trivial⟩, trivial⟩ ⟨⟨⟨rfl, rfl⟩, rfl⟩, rfl, trivial⟩)⟩
            · have he := ok_f he hb
              have he := ok_some he
              exact ⟨rfl, _, _, (leads_ren [] (l := [(2, .c (.bool true))]) (st' := []) rfl rfl trivial ⟨.inr rfl, trivial⟩), he⟩
        · have he := ok_t he hb
          have he := ok_some he
          exact ⟨rfl, _, _, (leads_ren [] (l := [(2, .c (.bool false))]) (st' := []) rfl rfl trivial ⟨.inr rfl, trivial⟩), he⟩
      · have he := ok_t he hb
        have he := ok_some he
        exact ⟨rfl, _, _, (leads_ren [] (l := [(2, .c (.bool false))]) (st' := []) rfl rfl trivial ⟨.inr rfl, trivial⟩), he⟩
    · have he := ok_t he hb
      have he := ok_some he
      exact ⟨rfl, _, _, (leads_ren [] (l := [(2, .c (.bool false))]) (st' := []) rfl rfl trivial ⟨.inr rfl, trivial⟩), he⟩
  · skip
    refine loop_model mixed tys_ok t_spec_ModelValid (S := Int × Int) (I := (fun (i, i1) => (envOf [(1, .c (.ptr 10000000 0)), (3, .c (.int .i64 i)), (4, .c (.int .i64 i1))], [(10000000, .rc [.imm (.int .i64) (a0_0, a0_1).1, .imm (.pair (.int .i64) (.pair (.sl (.int .i64)) (.pair (.sl (.int .i64)) (.pair (.int .i64) (.sl (.sl (.int .i64))))))) (a0_0, a0_1).2])]))) (f := spec_ModelValid_l2 (a0_0, a0_1)) (K := (fun r => k (.c (.bool r)) [])) he (leads_ren [(10000000, 1)] (l := [(1, .c (.ptr 10000000 0)), (3, .c (.int .i64 (0:Int))), (4, .c (.int .i64 (0:Int)))]) (st' := [(10000000, .rc [.imm (.int .i64) (a0_0, a0_1).1, .imm (.pair (.int .i64) (.pair (.sl (.int .i64)) (.pair (.sl (.int .i64)) (.pair (.int .i64) (.sl (.sl (.int .i64))))))) (a0_0, a0_1).2])]) rfl rfl ⟨⟨.inl rfl, .inl rfl, trivial⟩, trivial⟩ ⟨⟨⟨rfl, rfl⟩, rfl⟩, rfl, rfl, trivial⟩) ?_
    rintro ⟨i, i1⟩ J1 he
    refine And.intro (fun hb => ?_) (fun hb => ?_)
    · have he := ok_t he hb
      refine And.intro (fun hb => ?_) (fun hb => ?_)
      · have he := ok_t he hb
        have he := ok_rq he
        refine And.intro he.1 ?_
        have he := he.2
        refine And.intro (fun hb => ?_) (fun hb => ?_)
        · have he := ok_f he hb
          have he := ok_rq he
          refine And.intro he.1 ?_
          have he := he.2
          refine And.intro (fun hb => ?_) (fun hb => ?_)
          · have he := ok_t he hb
            have he := ok_some he
            exact ⟨rfl, _, _, (leads_ren [] (l := [(2, .c (.bool false))]) (st' := []) rfl rfl trivial ⟨.inr rfl, trivial⟩), he⟩
          · have he := ok_f he hb
            have he := ok_rq he
            refine And.intro he.1 ?_
            have he := he.2
            have he := ok_rq he
            refine And.intro he.1 ?_
            have he := he.2
            have he := ok_rq he
            refine And.intro he.1 ?_
            have he := he.2
            have he := ok_rq he
            refine And.intro he.1 ?_
            have he := he.2
            have he := ok_some he
            exact ⟨(((i + ((a0_0, a0_1).1.getD i1.toNat 0)) + (1:Int)), (i1 + (1:Int))), he, (leads_ren [] (l := [(1, .c (.ptr 10000000 0)), (3, .c (.int .i64 ((i + ((a0_0, a0_1).1.getD i1.toNat 0)) + (1:Int)))), (4, .c (.int .i64 (i1 + (1:Int))))]) (st' := [(10000000, .rc [.imm (.int .i64) (a0_0, a0_1).1, .imm (.pair (.int .i64) (.pair (.sl (.int .i64)) (.pair (.sl (.int .i64)) (.pair (.int .i64) (.sl (.sl (.int .i64))))))) (a0_0, a0_1).2])]) rfl rfl ⟨⟨.inl rfl, .inl rfl, trivial⟩, trivial⟩ ⟨⟨⟨rfl, rfl⟩, rfl⟩, rfl, rfl, trivial⟩)⟩
        · have he := ok_t he hb
          have he := ok_some he
          exact ⟨rfl, _, _, (leads_ren [] (l := [(2, .c (.bool false))]) (st' := []) rfl rfl trivial ⟨.inr rfl, trivial⟩), he⟩
      · have he := ok_f he hb
        exact ⟨i, ok_up he, (leads_ren [(10001000, 10000000)] (l := [(1, .c (.ptr 10001000 0)), (3, .c (.int .i64 i))]) (st' := [(10001000, .rc [.imm (.int .i64) (a0_0, a0_1).1, .imm (.pair (.int .i64) (.pair (.sl (.int .i64)) (.pair (.sl (.int .i64)) (.pair (.int .i64) (.sl (.sl (.int .i64))))))) (a0_0, a0_1).2])]) rfl rfl ⟨⟨.inl rfl, .inl rfl, trivial⟩, trivial⟩ ⟨⟨⟨rfl, rfl⟩, rfl⟩, rfl, trivial⟩)⟩
    · have he := ok_f he hb
      exact ⟨i, ok_up he, (leads_ren [(10001000, 10000000)] (l := [(1, .c (.ptr 10001000 0)), (3, .c (.int .i64 i))]) (st' := [(10001000, .rc [.imm (.int .i64) (a0_0, a0_1).1, .imm (.pair (.int .i64) (.pair (.sl (.int .i64)) (.pair (.sl (.int .i64)) (.pair (.int .i64) (.sl (.sl (.int .i64))))))) (a0_0, a0_1).2])]) rfl rfl ⟨⟨.inl rfl, .inl rfl, trivial⟩, trivial⟩ ⟨⟨⟨rfl, rfl⟩, rfl⟩, rfl, trivial⟩)⟩

end Go.AE.Y
