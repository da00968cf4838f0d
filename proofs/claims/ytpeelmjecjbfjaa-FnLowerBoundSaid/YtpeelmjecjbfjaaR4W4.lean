/-
  Walks: each function keeps the contract that its model gives. No conditions.
-/
import Derived.Test.YtpeelmjecjbfjaaR4Tab
import Derived.Test.YtpeelmjecjbfjaaR4W3
namespace Go.AE.Y
open Go Go.AE Go.Proofs
set_option linter.unusedVariables false
set_option maxHeartbeats 2000000
set_option maxRecDepth 100000

noncomputable def c_impl_Rule_at : Con := fun args st => match args, st with
  | [.agg [.int .i64 r__0, .imm (.int .i64) r__1, .imm (.int .i64) r__2, .int .i64 r__3, .imm (.sl (.int .i64)) r__4], .c (.imm (.int .i64) cells)], [] => .opt (Bool) (impl_Rule_at (r__0, (r__1, (r__2, (r__3, r__4)))) cells) (fun r => .ret (.c (.bool r)) [])
  | _, _ => .fail

noncomputable def C_impl_Rule_at : Cfg := { y := tys, n := 26, h := 0, tab := [(258, c_impl_Rule_holds)], cut := [7], hand := [], good := [], deep := [], sched := [] }

theorem t_impl_Rule_at : TabOk Try.prog C_impl_Rule_at := by
  refine tabOk_of ?_
  simp only [C_impl_Rule_at, List.forall_mem_cons]
  exact ⟨k_impl_Rule_holds, fun p h => by cases h⟩

theorem k_impl_Rule_at : Entry Try.prog 198 c_impl_Rule_at := by
  refine entry_by (C := C_impl_Rule_at) mixed tys_ok t_impl_Rule_at (fn := Try.f198) (c := bd Try.f198) (by kernel_rfl) (by kernel_rfl) (by kernel_rfl) (by kernel_rfl) ?_
  intro args st k he
  unfold c_impl_Rule_at at he
  split at he
  rotate_left
  · exact he.elim
  rename_i r__0 r__1 r__2 r__3 r__4 cells
  have he : Ok (impl_Rule_at (r__0, (r__1, (r__2, (r__3, r__4)))) cells) (fun r => k (.c (.bool r)) []) := he
  refine ⟨rfl, rfl, ?_⟩
  refine seq_model mixed tys_ok t_impl_Rule_at (S := (List Int)) (I := (fun vals1 => (envOf [(2, .c (.ptr 10001000 0)), (5, .c (.own 10001001 false))], [(10001000, .rc [.int .i64 (r__0, (r__1, (r__2, (r__3, r__4)))).1, .imm (.int .i64) (r__0, (r__1, (r__2, (r__3, r__4)))).2.1, .imm (.int .i64) (r__0, (r__1, (r__2, (r__3, r__4)))).2.2.1, .int .i64 (r__0, (r__1, (r__2, (r__3, r__4)))).2.2.2.1, .imm (.sl (.int .i64)) (r__0, (r__1, (r__2, (r__3, r__4)))).2.2.2.2]), (10001001, .sl 3 (.int .i64) vals1 .shallow)]))) (B := fun s => Ok (impl_Rule_at_j1 (r__0, (r__1, (r__2, (r__3, r__4)))) s) (fun r => k (.c (.bool r)) [])) ?_ ?_
  · rintro vals1 he
    obtain ⟨r1_, hr, he⟩ := ok_bind he
    refine ⟨r1_, hr, ?_⟩
    have he := ok_some he
    exact ⟨rfl, _, _, (leads_ren [] (l := [(4, .c (.bool r1_))]) (st' := []) rfl rfl trivial ⟨.inl rfl, trivial⟩), he⟩
  · skip
    refine loop_model mixed tys_ok t_impl_Rule_at (S := Int × (List Int)) (I := (fun (i, vals) => (envOf [(1, .c (.imm (.int .i64) cells)), (2, .c (.ptr 10000000 0)), (5, .c (.own 10000001 false)), (9, .c (.imm (.int .i64) (r__0, (r__1, (r__2, (r__3, r__4)))).2.1)), (10, .c (.int .i64 ((r__0, (r__1, (r__2, (r__3, r__4)))).2.1.length:Int))), (11, .c (.int .i64 i))], [(10000000, .rc [.int .i64 (r__0, (r__1, (r__2, (r__3, r__4)))).1, .imm (.int .i64) (r__0, (r__1, (r__2, (r__3, r__4)))).2.1, .imm (.int .i64) (r__0, (r__1, (r__2, (r__3, r__4)))).2.2.1, .int .i64 (r__0, (r__1, (r__2, (r__3, r__4)))).2.2.2.1, .imm (.sl (.int .i64)) (r__0, (r__1, (r__2, (r__3, r__4)))).2.2.2.2]), (10000001, .sl 3 (.int .i64) vals .shallow)]))) (f := impl_Rule_at_l1 (r__0, (r__1, (r__2, (r__3, r__4)))) cells) (K := (fun r => k (.c (.bool r)) [])) he (leads_ren [(10000000, 2)] (l := [(1, .c (.imm (.int .i64) cells)), (2, .c (.ptr 10000000 0)), (5, .c (.own 10000001 false)), (9, .c (.imm (.int .i64) (r__0, (r__1, (r__2, (r__3, r__4)))).2.1)), (10, .c (.int .i64 ((r__0, (r__1, (r__2, (r__3, r__4)))).2.1.length:Int))), (11, .c (.int .i64 (0:Int)))]) (st' := [(10000000, .rc [.int .i64 (r__0, (r__1, (r__2, (r__3, r__4)))).1, .imm (.int .i64) (r__0, (r__1, (r__2, (r__3, r__4)))).2.1, .imm (.int .i64) (r__0, (r__1, (r__2, (r__3, r__4)))).2.2.1, .int .i64 (r__0, (r__1, (r__2, (r__3, r__4)))).2.2.2.1, .imm (.sl (.int .i64)) (r__0, (r__1, (r__2, (r__3, r__4)))).2.2.2.2]), (10000001, .sl 3 (.int .i64) ([] : List Int) .shallow)]) rfl rfl ⟨⟨rfl, .inl rfl, .inl rfl, rfl, .inl rfl, trivial⟩, trivial, trivial⟩ ⟨.inl rfl, ⟨⟨rfl, rfl⟩, rfl⟩, ⟨rfl, trivial⟩, .inl rfl, rfl, rfl, trivial⟩) ?_
    rintro ⟨i, vals⟩ J1 he
    refine And.intro (fun hb => ?_) (fun hb => ?_)
    · have he := ok_t he hb
      have he := ok_rq he
      refine And.intro he.1 ?_
      have he := he.2
      have he := ok_rq he
      refine And.intro he.1 ?_
      have he := he.2
      have he := ok_rq he
      refine And.intro he.1 ?_
      have he := he.2
      have he := ok_rq he
      refine And.intro he.1 ?_
      have he := he.2
      have he := ok_some he
      exact ⟨((i + (1:Int)), (vals ++ [(cells.getD ((r__0, (r__1, (r__2, (r__3, r__4)))).2.1.getD i.toNat 0).toNat 0)])), he, (leads_ren [(10000001, 21)] (l := [(1, .c (.imm (.int .i64) cells)), (2, .c (.ptr 10000000 0)), (5, .c (.own 10000001 false)), (9, .c (.imm (.int .i64) (r__0, (r__1, (r__2, (r__3, r__4)))).2.1)), (10, .c (.int .i64 ((r__0, (r__1, (r__2, (r__3, r__4)))).2.1.length:Int))), (11, .c (.int .i64 (i + (1:Int))))]) (st' := [(10000000, .rc [.int .i64 (r__0, (r__1, (r__2, (r__3, r__4)))).1, .imm (.int .i64) (r__0, (r__1, (r__2, (r__3, r__4)))).2.1, .imm (.int .i64) (r__0, (r__1, (r__2, (r__3, r__4)))).2.2.1, .int .i64 (r__0, (r__1, (r__2, (r__3, r__4)))).2.2.2.1, .imm (.sl (.int .i64)) (r__0, (r__1, (r__2, (r__3, r__4)))).2.2.2.2]), (10000001, .sl 3 (.int .i64) (vals ++ [(cells.getD ((r__0, (r__1, (r__2, (r__3, r__4)))).2.1.getD i.toNat 0).toNat 0)]) .shallow)]) rfl rfl ⟨⟨rfl, .inl rfl, .inl rfl, rfl, .inl rfl, trivial⟩, ⟨rfl, rfl⟩, trivial⟩ ⟨.inl rfl, ⟨⟨rfl, rfl⟩, rfl⟩, ⟨⟨rfl, rfl⟩, trivial⟩, .inl rfl, rfl, rfl, trivial⟩)⟩
    · have he := ok_f he hb
      exact ⟨vals, ok_up he, (leads_ren [(10001000, 10000000), (10001001, 10000001)] (l := [(2, .c (.ptr 10001000 0)), (5, .c (.own 10001001 false))]) (st' := [(10001000, .rc [.int .i64 (r__0, (r__1, (r__2, (r__3, r__4)))).1, .imm (.int .i64) (r__0, (r__1, (r__2, (r__3, r__4)))).2.1, .imm (.int .i64) (r__0, (r__1, (r__2, (r__3, r__4)))).2.2.1, .int .i64 (r__0, (r__1, (r__2, (r__3, r__4)))).2.2.2.1, .imm (.sl (.int .i64)) (r__0, (r__1, (r__2, (r__3, r__4)))).2.2.2.2]), (10001001, .sl 3 (.int .i64) vals .shallow)]) rfl rfl ⟨⟨rfl, .inl rfl, .inl rfl, rfl, .inl rfl, trivial⟩, ⟨rfl, rfl⟩, trivial⟩ ⟨⟨⟨rfl, rfl⟩, rfl⟩, ⟨⟨rfl, rfl⟩, trivial⟩, trivial⟩)⟩

noncomputable def c_impl_Model_solves_1 : Con := fun args st => match args, st with
  | [.agg [.int .i64 r__0, .imm (.int .i64) r__1, .imm (.int .i64) r__2, .int .i64 r__3, .imm (.sl (.int .i64)) r__4], .c (.ptr 0 0)], [(0, .rc [.imm (.int .i64) o0])] => .opt (Bool) (impl_Model_solves_1 (r__0, (r__1, (r__2, (r__3, r__4)))) o0) (fun r => .ret (.c (.bool r)) [(0, .rc [.imm (.int .i64) o0])])
  | _, _ => .fail

noncomputable def C_impl_Model_solves_1 : Cfg := { y := tys, n := 8, h := 1, tab := [(198, c_impl_Rule_at)], cut := [], hand := [], good := [], deep := [], sched := [] }

theorem t_impl_Model_solves_1 : TabOk Try.prog C_impl_Model_solves_1 := by
  refine tabOk_of ?_
  simp only [C_impl_Model_solves_1, List.forall_mem_cons]
  exact ⟨k_impl_Rule_at, fun p h => by cases h⟩

theorem k_impl_Model_solves_1 : Entry Try.prog 220 c_impl_Model_solves_1 := by
  refine entry_by (C := C_impl_Model_solves_1) mixed tys_ok t_impl_Model_solves_1 (fn := Try.f220) (c := bd Try.f220) (by kernel_rfl) (by kernel_rfl) (by kernel_rfl) (by kernel_rfl) ?_
  intro args st k he
  unfold c_impl_Model_solves_1 at he
  split at he
  rotate_left
  · exact he.elim
  rename_i r__0 r__1 r__2 r__3 r__4 o0
  have he : Ok (impl_Model_solves_1 (r__0, (r__1, (r__2, (r__3, r__4)))) o0) (fun r => k (.c (.bool r)) [(0, .rc [.imm (.int .i64) o0])]) := he
  refine ⟨rfl, rfl, ?_⟩
  obtain ⟨r1_, hr, he⟩ := ok_bind he
  refine ⟨r1_, hr, ?_⟩
  have he := ok_some he
  exact ⟨rfl, _, _, (leads_ren [] (l := [(3, .c (.bool (!r1_)))]) (st' := [(0, .rc [.imm (.int .i64) o0])]) rfl rfl ⟨⟨.inl rfl, trivial⟩, trivial⟩ ⟨.inl rfl, trivial⟩), he⟩

noncomputable def c_slices_IndexFunc_impl_Rule__impl_Model_solves_1 : Con := fun args st => match args, st with
  | [.c (.imm (.pair (.int .i64) (.pair (.sl (.int .i64)) (.pair (.sl (.int .i64)) (.pair (.int .i64) (.sl (.sl (.int .i64))))))) s_), .c (.fn 220 [0])], [(0, .rc [.imm (.int .i64) o0])] => .opt (Int) (slices_IndexFunc_impl_Rule__impl_Model_solves_1 s_ o0) (fun r => .ret (.c (.int .i64 r)) [(0, .rc [.imm (.int .i64) o0])])
  | _, _ => .fail

noncomputable def C_slices_IndexFunc_impl_Rule__impl_Model_solves_1 : Cfg := { y := tys, n := 19, h := 1, tab := [(220, c_impl_Model_solves_1)], cut := [], hand := [], good := [], deep := [], sched := [] }

theorem t_slices_IndexFunc_impl_Rule__impl_Model_solves_1 : TabOk Try.prog C_slices_IndexFunc_impl_Rule__impl_Model_solves_1 := by
  refine tabOk_of ?_
  simp only [C_slices_IndexFunc_impl_Rule__impl_Model_solves_1, List.forall_mem_cons]
  exact ⟨k_impl_Model_solves_1, fun p h => by cases h⟩

theorem k_slices_IndexFunc_impl_Rule__impl_Model_solves_1 : Entry Try.prog 215 c_slices_IndexFunc_impl_Rule__impl_Model_solves_1 := by
  refine entry_by (C := C_slices_IndexFunc_impl_Rule__impl_Model_solves_1) mixed tys_ok t_slices_IndexFunc_impl_Rule__impl_Model_solves_1 (fn := Try.f215) (c := bd Try.f215) (by kernel_rfl) (by kernel_rfl) (by kernel_rfl) (by kernel_rfl) ?_
  intro args st k he
  unfold c_slices_IndexFunc_impl_Rule__impl_Model_solves_1 at he
  split at he
  rotate_left
  · exact he.elim
  rename_i s_ o0
  have he : Ok (slices_IndexFunc_impl_Rule__impl_Model_solves_1 s_ o0) (fun r => k (.c (.int .i64 r)) [(0, .rc [.imm (.int .i64) o0])]) := he
  refine ⟨rfl, rfl, ?_⟩
  refine loop_model mixed tys_ok t_slices_IndexFunc_impl_Rule__impl_Model_solves_1 (S := Int) (I := (fun i => (envOf [(0, .c (.imm (.pair (.int .i64) (.pair (.sl (.int .i64)) (.pair (.sl (.int .i64)) (.pair (.int .i64) (.sl (.sl (.int .i64))))))) s_)), (1, .c (.fn 220 [0])), (7, .c (.int .i64 (s_.length:Int))), (8, .c (.int .i64 i))], [(0, .rc [.imm (.int .i64) o0])]))) (f := slices_IndexFunc_impl_Rule__impl_Model_solves_1_l1 s_ o0) (K := (fun r => k (.c (.int .i64 r)) [(0, .rc [.imm (.int .i64) o0])])) he (leads_ren [] (l := [(0, .c (.imm (.pair (.int .i64) (.pair (.sl (.int .i64)) (.pair (.sl (.int .i64)) (.pair (.int .i64) (.sl (.sl (.int .i64))))))) s_)), (1, .c (.fn 220 [0])), (7, .c (.int .i64 (s_.length:Int))), (8, .c (.int .i64 (0:Int)))]) (st' := [(0, .rc [.imm (.int .i64) o0])]) rfl rfl ⟨⟨.inl rfl, trivial⟩, trivial⟩ ⟨.inl rfl, ⟨rfl, ⟨⟨rfl, rfl⟩, trivial⟩⟩, rfl, rfl, trivial⟩) ?_
  rintro i J1 he
  refine And.intro (fun hb => ?_) (fun hb => ?_)
  · have he := ok_t he hb
    have he := ok_rq he
    refine And.intro he.1 ?_
    have he := he.2
    obtain ⟨r1_, hr, he⟩ := ok_bind he
    refine ⟨r1_, hr, ?_⟩
    refine And.intro (fun hb => ?_) (fun hb => ?_)
    · have he := ok_t he hb
      have he := ok_some he
      exact ⟨rfl, _, _, (leads_ren [] (l := [(4, .c (.int .i64 i))]) (st' := [(0, .rc [.imm (.int .i64) o0])]) rfl rfl ⟨⟨.inl rfl, trivial⟩, trivial⟩ ⟨rfl, trivial⟩), he⟩
    · have he := ok_f he hb
      have he := ok_rq he
      refine And.intro he.1 ?_
      have he := he.2
      have he := ok_some he
      exact ⟨(i + (1:Int)), he, (leads_ren [] (l := [(0, .c (.imm (.pair (.int .i64) (.pair (.sl (.int .i64)) (.pair (.sl (.int .i64)) (.pair (.int .i64) (.sl (.sl (.int .i64))))))) s_)), (1, .c (.fn 220 [0])), (7, .c (.int .i64 (s_.length:Int))), (8, .c (.int .i64 (i + (1:Int))))]) (st' := [(0, .rc [.imm (.int .i64) o0])]) rfl rfl ⟨⟨.inl rfl, trivial⟩, trivial⟩ ⟨.inl rfl, ⟨rfl, ⟨⟨rfl, rfl⟩, trivial⟩⟩, rfl, rfl, trivial⟩)⟩
  · have he := ok_f he hb
    have he := ok_some he
    exact ⟨rfl, _, _, (leads_ren [] (l := [(4, .c (.int .i64 (-1:Int)))]) (st' := [(0, .rc [.imm (.int .i64) o0])]) rfl rfl ⟨⟨.inl rfl, trivial⟩, trivial⟩ ⟨rfl, trivial⟩), he⟩

noncomputable def c_slices_ContainsFunc_impl_Rule__impl_Model_solves_1 : Con := fun args st => match args, st with
  | [.c (.imm (.pair (.int .i64) (.pair (.sl (.int .i64)) (.pair (.sl (.int .i64)) (.pair (.int .i64) (.sl (.sl (.int .i64))))))) s_), .c (.fn 220 [0])], [(0, .rc [.imm (.int .i64) o0])] => .opt (Bool) (slices_ContainsFunc_impl_Rule__impl_Model_solves_1 s_ o0) (fun r => .ret (.c (.bool r)) [(0, .rc [.imm (.int .i64) o0])])
  | _, _ => .fail

noncomputable def C_slices_ContainsFunc_impl_Rule__impl_Model_solves_1 : Cfg := { y := tys, n := 9, h := 1, tab := [(215, c_slices_IndexFunc_impl_Rule__impl_Model_solves_1)], cut := [], hand := [], good := [], deep := [], sched := [] }

theorem t_slices_ContainsFunc_impl_Rule__impl_Model_solves_1 : TabOk Try.prog C_slices_ContainsFunc_impl_Rule__impl_Model_solves_1 := by
  refine tabOk_of ?_
  simp only [C_slices_ContainsFunc_impl_Rule__impl_Model_solves_1, List.forall_mem_cons]
  exact ⟨k_slices_IndexFunc_impl_Rule__impl_Model_solves_1, fun p h => by cases h⟩

theorem k_slices_ContainsFunc_impl_Rule__impl_Model_solves_1 : Entry Try.prog 130 c_slices_ContainsFunc_impl_Rule__impl_Model_solves_1 := by
  refine entry_by (C := C_slices_ContainsFunc_impl_Rule__impl_Model_solves_1) mixed tys_ok t_slices_ContainsFunc_impl_Rule__impl_Model_solves_1 (fn := Try.f130) (c := bd Try.f130) (by kernel_rfl) (by kernel_rfl) (by kernel_rfl) (by kernel_rfl) ?_
  intro args st k he
  unfold c_slices_ContainsFunc_impl_Rule__impl_Model_solves_1 at he
  split at he
  rotate_left
  · exact he.elim
  rename_i s_ o0
  have he : Ok (slices_ContainsFunc_impl_Rule__impl_Model_solves_1 s_ o0) (fun r => k (.c (.bool r)) [(0, .rc [.imm (.int .i64) o0])]) := he
  refine ⟨rfl, rfl, ?_⟩
  obtain ⟨r1_, hr, he⟩ := ok_bind he
  refine ⟨r1_, hr, ?_⟩
  have he := ok_some he
  exact ⟨rfl, _, _, (leads_ren [] (l := [(4, .c (.bool (decide ((0:Int) ≤ r1_))))]) (st' := [(0, .rc [.imm (.int .i64) o0])]) rfl rfl ⟨⟨.inl rfl, trivial⟩, trivial⟩ ⟨.inl rfl, trivial⟩), he⟩

noncomputable def c_impl_Model_solves : Con := fun args st => match args, st with
  | [.agg [.imm (.int .i64) m_0, .imm (.pair (.int .i64) (.pair (.sl (.int .i64)) (.pair (.sl (.int .i64)) (.pair (.int .i64) (.sl (.sl (.int .i64))))))) m_1], .c (.imm (.int .i64) cells)], [] => .opt (Bool) (impl_Model_solves (m_0, m_1) cells) (fun r => .ret (.c (.bool r)) [])
  | _, _ => .fail

noncomputable def C_impl_Model_solves : Cfg := { y := tys, n := 10, h := 0, tab := [(130, c_slices_ContainsFunc_impl_Rule__impl_Model_solves_1)], cut := [], hand := [], good := [], deep := [], sched := [] }

theorem t_impl_Model_solves : TabOk Try.prog C_impl_Model_solves := by
  refine tabOk_of ?_
  simp only [C_impl_Model_solves, List.forall_mem_cons]
  exact ⟨k_slices_ContainsFunc_impl_Rule__impl_Model_solves_1, fun p h => by cases h⟩

theorem k_impl_Model_solves : Entry Try.prog 133 c_impl_Model_solves := by
  refine entry_by (C := C_impl_Model_solves) mixed tys_ok t_impl_Model_solves (fn := Try.f133) (c := bd Try.f133) (by kernel_rfl) (by kernel_rfl) (by kernel_rfl) (by kernel_rfl) ?_
  intro args st k he
  unfold c_impl_Model_solves at he
  split at he
  rotate_left
  · exact he.elim
  rename_i m_0 m_1 cells
  have he : Ok (impl_Model_solves (m_0, m_1) cells) (fun r => k (.c (.bool r)) []) := he
  refine ⟨rfl, rfl, ?_⟩
  obtain ⟨r1_, hr, he⟩ := ok_bind he
  refine ⟨r1_, hr, ?_⟩
  have he := ok_some he
  exact ⟨rfl, _, _, (leads_ren [] (l := [(4, .c (.bool (!r1_)))]) (st' := []) rfl rfl trivial ⟨.inl rfl, trivial⟩), he⟩

noncomputable def c_impl_NextModel_1__rRNss : Con := fun args st => match args, st with
  | [.c (.own 2 false), .c (.ptr 0 0), .c (.ptr 1 0)], [(0, .rc [.imm (.int .i64) o0_0, .imm (.pair (.int .i64) (.pair (.sl (.int .i64)) (.pair (.sl (.int .i64)) (.pair (.int .i64) (.sl (.sl (.int .i64))))))) o0_1]), (1, .rc [.own 3 true]), (2, .sl 3 (.int .i64) cells .shallow), (3, .sl 3 (.int .i64) o3 .shallow)] => .opt (Bool × (List Int)) (impl_NextModel_1__rRNss (o0_0, o0_1) cells o3) (fun r => .ret (.c (.bool r.1)) [(0, .rc [.imm (.int .i64) o0_0, .imm (.pair (.int .i64) (.pair (.sl (.int .i64)) (.pair (.sl (.int .i64)) (.pair (.int .i64) (.sl (.sl (.int .i64))))))) o0_1]), (1, .rc [.own 900 true]), (2, .sl 3 (.int .i64) cells .shallow), (3, .dead), (900, .sl 3 (.int .i64) r.2 .shallow)])
  | _, _ => .fail

noncomputable def C_impl_NextModel_1__rRNss : Cfg := { y := tys, n := 12, h := 4, tab := [(133, c_impl_Model_solves), (150, c_slices_Clone_int)], cut := [], hand := [], good := [], deep := [], sched := [] }

theorem t_impl_NextModel_1__rRNss : TabOk Try.prog C_impl_NextModel_1__rRNss := by
  refine tabOk_of ?_
  simp only [C_impl_NextModel_1__rRNss, List.forall_mem_cons]
  exact ⟨k_impl_Model_solves, k_slices_Clone_int, fun p h => by cases h⟩

theorem k_impl_NextModel_1__rRNss : Entry Try.prog 154 c_impl_NextModel_1__rRNss := by
  refine entry_by (C := C_impl_NextModel_1__rRNss) mixed tys_ok t_impl_NextModel_1__rRNss (fn := Try.f154) (c := bd Try.f154) (by kernel_rfl) (by kernel_rfl) (by kernel_rfl) (by kernel_rfl) ?_
  intro args st k he
  unfold c_impl_NextModel_1__rRNss at he
  split at he
  rotate_left
  · exact he.elim
  rename_i o0_0 o0_1 cells o3
  have he : Ok (impl_NextModel_1__rRNss (o0_0, o0_1) cells o3) (fun r => k (.c (.bool r.1)) [(0, .rc [.imm (.int .i64) o0_0, .imm (.pair (.int .i64) (.pair (.sl (.int .i64)) (.pair (.sl (.int .i64)) (.pair (.int .i64) (.sl (.sl (.int .i64))))))) o0_1]), (1, .rc [.own 900 true]), (2, .sl 3 (.int .i64) cells .shallow), (3, .dead), (900, .sl 3 (.int .i64) r.2 .shallow)]) := he
  refine ⟨rfl, rfl, ?_⟩
  obtain ⟨r1_, hr, he⟩ := ok_bind he
  refine ⟨r1_, hr, ?_⟩
  refine And.intro (fun hb => ?_) (fun hb => ?_)
  · have he := ok_t he hb
    obtain ⟨r2_, hr, he⟩ := ok_bind he
    refine ⟨r2_, hr, ?_⟩
    have he := ok_rq he
    have hnn := he.1
    have he := he.2
    refine fun bn1_ hbn1_ => ?_
    have hbb : bn1_ = false := by
      cases bn1_
      · rfl
      · exact absurd (hbn1_ rfl) hnn
    subst hbb
    have he := ok_rq he
    have hne0 := he.1
    have he := he.2
    have he := ok_some he
    exact ⟨rfl, _, _, (leads_ren [(900, 10900)] (l := [(4, .c (.bool false))]) (st' := [(0, .rc [.imm (.int .i64) o0_0, .imm (.pair (.int .i64) (.pair (.sl (.int .i64)) (.pair (.sl (.int .i64)) (.pair (.int .i64) (.sl (.sl (.int .i64))))))) o0_1]), (1, .rc [.own 900 true]), (2, .sl 3 (.int .i64) cells .shallow), (3, .dead), (900, .sl 3 (.int .i64) r2_ .shallow)]) rfl rfl ⟨⟨.inl rfl, .inl rfl, trivial⟩, ⟨⟨⟨rfl, rfl⟩, hne0⟩, trivial⟩, ⟨rfl, rfl⟩, trivial, ⟨rfl, rfl⟩, trivial⟩ ⟨.inl rfl, trivial⟩), he⟩
  · have he := ok_f he hb
    have he := ok_some he
    exact ⟨rfl, _, _, (leads_ren [(900, 3)] (l := [(4, .c (.bool o3.isEmpty))]) (st' := [(0, .rc [.imm (.int .i64) o0_0, .imm (.pair (.int .i64) (.pair (.sl (.int .i64)) (.pair (.sl (.int .i64)) (.pair (.int .i64) (.sl (.sl (.int .i64))))))) o0_1]), (1, .rc [.own 900 true]), (2, .sl 3 (.int .i64) cells .shallow), (3, .dead), (900, .sl 3 (.int .i64) o3 .shallow)]) rfl rfl ⟨⟨.inl rfl, .inl rfl, trivial⟩, ⟨⟨⟨rfl, rfl⟩, trivial⟩, trivial⟩, ⟨rfl, rfl⟩, trivial, ⟨rfl, rfl⟩, trivial⟩ ⟨.inl rfl, trivial⟩), he⟩

noncomputable def c_impl_each__impl_NextModel_1__rR0 : Con := fun args st => match args, st with
  | [.c (.imm (.int .i64) sizes), .c (.imm (.int .i64) from_), .c (.fn 154 [0, 1])], [(0, .rc [.imm (.int .i64) o0_0, .imm (.pair (.int .i64) (.pair (.sl (.int .i64)) (.pair (.sl (.int .i64)) (.pair (.int .i64) (.sl (.sl (.int .i64))))))) o0_1]), (1, .rc [.nil])] => .opt ((List Int)) (impl_each__impl_NextModel_1__rR0 sizes from_ (o0_0, o0_1)) (fun r => .ret (.tup []) [(0, .rc [.imm (.int .i64) o0_0, .imm (.pair (.int .i64) (.pair (.sl (.int .i64)) (.pair (.sl (.int .i64)) (.pair (.int .i64) (.sl (.sl (.int .i64))))))) o0_1]), (1, .rc [.own 900 true]), (900, .sl 3 (.int .i64) r .shallow)])
  | _, _ => .fail

noncomputable def C_impl_each__impl_NextModel_1__rR0 : Cfg := { y := tys, n := 42, h := 2, tab := [(150, c_slices_Clone_int), (154, c_impl_NextModel_1__rRNss)], cut := [6], hand := [(154, [0])], good := [], deep := [], sched := [] }

theorem t_impl_each__impl_NextModel_1__rR0 : TabOk Try.prog C_impl_each__impl_NextModel_1__rR0 := by
  refine tabOk_of ?_
  simp only [C_impl_each__impl_NextModel_1__rR0, List.forall_mem_cons]
  exact ⟨k_slices_Clone_int, k_impl_NextModel_1__rRNss, fun p h => by cases h⟩

theorem k_impl_each__impl_NextModel_1__rR0 : Entry Try.prog 134 c_impl_each__impl_NextModel_1__rR0 := by
  refine entry_by (C := C_impl_each__impl_NextModel_1__rR0) mixed tys_ok t_impl_each__impl_NextModel_1__rR0 (fn := Try.f134) (c := bd Try.f134) (by kernel_rfl) (by kernel_rfl) (by kernel_rfl) (by kernel_rfl) ?_
  intro args st k he
  unfold c_impl_each__impl_NextModel_1__rR0 at he
  split at he
  rotate_left
  · exact he.elim
  rename_i sizes from_ o0_0 o0_1
  have he : Ok (impl_each__impl_NextModel_1__rR0 sizes from_ (o0_0, o0_1)) (fun r => k (.tup []) [(0, .rc [.imm (.int .i64) o0_0, .imm (.pair (.int .i64) (.pair (.sl (.int .i64)) (.pair (.sl (.int .i64)) (.pair (.int .i64) (.sl (.sl (.int .i64))))))) o0_1]), (1, .rc [.own 900 true]), (900, .sl 3 (.int .i64) r .shallow)]) := he
  refine ⟨rfl, rfl, ?_⟩
  obtain ⟨r1_, hr, he⟩ := ok_bind he
  refine ⟨r1_, hr, ?_⟩
  refine loop_model mixed tys_ok t_impl_each__impl_NextModel_1__rR0 (S := (List Int) × (List Int)) (I := (fun (cells2, cap) => (envOf [(0, .c (.imm (.int .i64) sizes)), (2, .c (.fn 154 [0, 1])), (6, .c (.own 10000000 false))], [(0, .rc [.imm (.int .i64) (o0_0, o0_1).1, .imm (.pair (.int .i64) (.pair (.sl (.int .i64)) (.pair (.sl (.int .i64)) (.pair (.int .i64) (.sl (.sl (.int .i64))))))) (o0_0, o0_1).2]), (1, .rc [.own 10000001 true]), (10000000, .sl 3 (.int .i64) cells2 .shallow), (10000001, .sl 3 (.int .i64) cap .shallow)]))) (f := impl_each__impl_NextModel_1__rR0_l1 sizes (o0_0, o0_1)) (K := (fun r => k (.tup []) [(0, .rc [.imm (.int .i64) o0_0, .imm (.pair (.int .i64) (.pair (.sl (.int .i64)) (.pair (.sl (.int .i64)) (.pair (.int .i64) (.sl (.sl (.int .i64))))))) o0_1]), (1, .rc [.own 900 true]), (900, .sl 3 (.int .i64) r .shallow)])) he (leads_ren [(10000000, 10900)] (l := [(0, .c (.imm (.int .i64) sizes)), (2, .c (.fn 154 [0, 1])), (6, .c (.own 10000000 false))]) (st' := [(0, .rc [.imm (.int .i64) (o0_0, o0_1).1, .imm (.pair (.int .i64) (.pair (.sl (.int .i64)) (.pair (.sl (.int .i64)) (.pair (.int .i64) (.sl (.sl (.int .i64))))))) (o0_0, o0_1).2]), (1, .rc [.own 10000001 true]), (10000000, .sl 3 (.int .i64) r1_ .shallow), (10000001, .sl 3 (.int .i64) ([] : List Int) .shallow)]) rfl rfl ⟨⟨.inl rfl, .inl rfl, trivial⟩, ⟨⟨rfl, trivial⟩, trivial⟩, ⟨rfl, rfl⟩, trivial, trivial⟩ ⟨.inl rfl, ⟨rfl, ⟨⟨rfl, rfl⟩, ⟨⟨rfl, rfl⟩, trivial⟩⟩⟩, ⟨⟨rfl, rfl⟩, trivial⟩, trivial⟩) ?_
  rintro ⟨cells2, cap⟩ J1 he
  obtain ⟨r3_, hr, he⟩ := ok_bind he
  refine ⟨r3_, hr, ?_⟩
  refine And.intro (fun hb => ?_) (fun hb => ?_)
  · have he := ok_t he hb
    have he := ok_rq he
    refine And.intro he.1 ?_
    have he := he.2
    refine seq_model mixed tys_ok t_impl_each__impl_NextModel_1__rR0 (S := Int × (List Int)) (I := (fun (i3, cells4) => (envOf [(0, .c (.imm (.int .i64) sizes)), (2, .c (.fn 154 [0, 1])), (6, .c (.own 10004000 false)), (7, .c (.int .i64 i3))], [(0, .rc [.imm (.int .i64) (o0_0, o0_1).1, .imm (.pair (.int .i64) (.pair (.sl (.int .i64)) (.pair (.sl (.int .i64)) (.pair (.int .i64) (.sl (.sl (.int .i64))))))) (o0_0, o0_1).2]), (1, .rc [.own 10004001 true]), (10004000, .sl 3 (.int .i64) cells4 .shallow), (10004001, .sl 3 (.int .i64) r3_.2 .shallow)]))) (B := fun s => Ok (impl_each__impl_NextModel_1__rR0_j1 r3_ s) (LK J1 (fun r => k (.tup []) [(0, .rc [.imm (.int .i64) o0_0, .imm (.pair (.int .i64) (.pair (.sl (.int .i64)) (.pair (.sl (.int .i64)) (.pair (.int .i64) (.sl (.sl (.int .i64))))))) o0_1]), (1, .rc [.own 900 true]), (900, .sl 3 (.int .i64) r .shallow)]))) ?_ ?_
    · rintro ⟨i3, cells4⟩ he
      refine And.intro (fun hb => ?_) (fun hb => ?_)
      · have he := ok_t he hb
        have he := ok_some he
        exact ⟨rfl, _, _, (leads_ren [(900, 10004001)] (l := []) (st' := [(0, .rc [.imm (.int .i64) o0_0, .imm (.pair (.int .i64) (.pair (.sl (.int .i64)) (.pair (.sl (.int .i64)) (.pair (.int .i64) (.sl (.sl (.int .i64))))))) o0_1]), (1, .rc [.own 900 true]), (900, .sl 3 (.int .i64) r3_.2 .shallow)]) rfl rfl ⟨⟨.inl rfl, .inl rfl, trivial⟩, ⟨⟨⟨rfl, rfl⟩, trivial⟩, trivial⟩, ⟨rfl, rfl⟩, trivial⟩ trivial), he⟩
      · have he := ok_f he hb
        have he := ok_rq he
        refine And.intro he.1 ?_
        have he := he.2
        have he := ok_rq he
        refine And.intro he.1 ?_
        have he := he.2
        have he := ok_rq he
        refine And.intro he.1 ?_
        have he := he.2
        have he := ok_some he
        exact ⟨((cells4.set i3.toNat ((cells4.getD i3.toNat 0) + (1:Int))), r3_.2), he, (leads_ren [(10000000, 10004000), (10000001, 10004001)] (l := [(0, .c (.imm (.int .i64) sizes)), (2, .c (.fn 154 [0, 1])), (6, .c (.own 10000000 false))]) (st' := [(0, .rc [.imm (.int .i64) (o0_0, o0_1).1, .imm (.pair (.int .i64) (.pair (.sl (.int .i64)) (.pair (.sl (.int .i64)) (.pair (.int .i64) (.sl (.sl (.int .i64))))))) (o0_0, o0_1).2]), (1, .rc [.own 10000001 true]), (10000000, .sl 3 (.int .i64) (cells4.set i3.toNat ((cells4.getD i3.toNat 0) + (1:Int))) .shallow), (10000001, .sl 3 (.int .i64) r3_.2 .shallow)]) rfl rfl ⟨⟨.inl rfl, .inl rfl, trivial⟩, ⟨⟨⟨rfl, rfl⟩, trivial⟩, trivial⟩, ⟨rfl, rfl⟩, ⟨rfl, rfl⟩, trivial⟩ ⟨.inl rfl, ⟨rfl, ⟨⟨rfl, rfl⟩, ⟨⟨rfl, rfl⟩, trivial⟩⟩⟩, ⟨⟨rfl, rfl⟩, trivial⟩, trivial⟩)⟩
    · skip
      refine loop_model mixed tys_ok t_impl_each__impl_NextModel_1__rR0 (S := Int × (List Int)) (I := (fun (i2, cells3) => (envOf [(0, .c (.imm (.int .i64) sizes)), (2, .c (.fn 154 [0, 1])), (6, .c (.own 10003000 false)), (7, .c (.int .i64 i2))], [(0, .rc [.imm (.int .i64) (o0_0, o0_1).1, .imm (.pair (.int .i64) (.pair (.sl (.int .i64)) (.pair (.sl (.int .i64)) (.pair (.int .i64) (.sl (.sl (.int .i64))))))) (o0_0, o0_1).2]), (1, .rc [.own 10003001 true]), (10003000, .sl 3 (.int .i64) cells3 .shallow), (10003001, .sl 3 (.int .i64) r3_.2 .shallow)]))) (f := impl_each__impl_NextModel_1__rR0_l2 sizes r3_) (K := (LK J1 (fun r => k (.tup []) [(0, .rc [.imm (.int .i64) o0_0, .imm (.pair (.int .i64) (.pair (.sl (.int .i64)) (.pair (.sl (.int .i64)) (.pair (.int .i64) (.sl (.sl (.int .i64))))))) o0_1]), (1, .rc [.own 900 true]), (900, .sl 3 (.int .i64) r .shallow)]))) he (leads_ren [(10003000, 10000000), (10003001, 13900)] (l := [(0, .c (.imm (.int .i64) sizes)), (2, .c (.fn 154 [0, 1])), (6, .c (.own 10003000 false)), (7, .c (.int .i64 ((cells2.length:Int) - (1:Int))))]) (st' := [(0, .rc [.imm (.int .i64) (o0_0, o0_1).1, .imm (.pair (.int .i64) (.pair (.sl (.int .i64)) (.pair (.sl (.int .i64)) (.pair (.int .i64) (.sl (.sl (.int .i64))))))) (o0_0, o0_1).2]), (1, .rc [.own 10003001 true]), (10003000, .sl 3 (.int .i64) cells2 .shallow), (10003001, .sl 3 (.int .i64) r3_.2 .shallow)]) rfl rfl ⟨⟨.inl rfl, .inl rfl, trivial⟩, ⟨⟨⟨rfl, rfl⟩, trivial⟩, trivial⟩, ⟨rfl, rfl⟩, ⟨rfl, rfl⟩, trivial⟩ ⟨.inl rfl, ⟨rfl, ⟨⟨rfl, rfl⟩, ⟨⟨rfl, rfl⟩, trivial⟩⟩⟩, ⟨⟨rfl, rfl⟩, trivial⟩, rfl, trivial⟩) ?_
      rintro ⟨i2, cells3⟩ J2 he
      refine And.intro (by kernel_rfl) ?_
      refine And.intro (fun hb => ?_) (fun hb => ?_)
      · have he := ok_t he hb
        have he := ok_rq he
        refine And.intro he.1 ?_
        have he := he.2
        have he := ok_rq he
        refine And.intro he.1 ?_
        have he := he.2
        refine And.intro (fun hb => ?_) (fun hb => ?_)
        · have he := ok_t he hb
          have he := ok_rq he
          refine And.intro he.1 ?_
          have he := he.2
          have he := ok_rq he
          refine And.intro he.1 ?_
          have he := he.2
          have he := ok_some he
          exact ⟨((i2 - (1:Int)), (cells3.set i2.toNat (0:Int))), he, (leads_ren [] (l := [(0, .c (.imm (.int .i64) sizes)), (2, .c (.fn 154 [0, 1])), (6, .c (.own 10003000 false)), (7, .c (.int .i64 (i2 - (1:Int))))]) (st' := [(0, .rc [.imm (.int .i64) (o0_0, o0_1).1, .imm (.pair (.int .i64) (.pair (.sl (.int .i64)) (.pair (.sl (.int .i64)) (.pair (.int .i64) (.sl (.sl (.int .i64))))))) (o0_0, o0_1).2]), (1, .rc [.own 10003001 true]), (10003000, .sl 3 (.int .i64) (cells3.set i2.toNat (0:Int)) .shallow), (10003001, .sl 3 (.int .i64) r3_.2 .shallow)]) rfl rfl ⟨⟨.inl rfl, .inl rfl, trivial⟩, ⟨⟨⟨rfl, rfl⟩, trivial⟩, trivial⟩, ⟨rfl, rfl⟩, ⟨rfl, rfl⟩, trivial⟩ ⟨.inl rfl, ⟨rfl, ⟨⟨rfl, rfl⟩, ⟨⟨rfl, rfl⟩, trivial⟩⟩⟩, ⟨⟨rfl, rfl⟩, trivial⟩, rfl, trivial⟩)⟩
        · have he := ok_f he hb
          exact ⟨(i2, cells3), ok_up he, (leads_ren [(10004000, 10003000), (10004001, 10003001)] (l := [(0, .c (.imm (.int .i64) sizes)), (2, .c (.fn 154 [0, 1])), (6, .c (.own 10004000 false)), (7, .c (.int .i64 i2))]) (st' := [(0, .rc [.imm (.int .i64) (o0_0, o0_1).1, .imm (.pair (.int .i64) (.pair (.sl (.int .i64)) (.pair (.sl (.int .i64)) (.pair (.int .i64) (.sl (.sl (.int .i64))))))) (o0_0, o0_1).2]), (1, .rc [.own 10004001 true]), (10004000, .sl 3 (.int .i64) cells3 .shallow), (10004001, .sl 3 (.int .i64) r3_.2 .shallow)]) rfl rfl ⟨⟨.inl rfl, .inl rfl, trivial⟩, ⟨⟨⟨rfl, rfl⟩, trivial⟩, trivial⟩, ⟨rfl, rfl⟩, ⟨rfl, rfl⟩, trivial⟩ ⟨.inl rfl, ⟨rfl, ⟨⟨rfl, rfl⟩, ⟨⟨rfl, rfl⟩, trivial⟩⟩⟩, ⟨⟨rfl, rfl⟩, trivial⟩, rfl, trivial⟩)⟩
      · have he := ok_f he hb
        exact ⟨(i2, cells3), ok_up he, (leads_ren [(10004000, 10003000), (10004001, 10003001)] (l := [(0, .c (.imm (.int .i64) sizes)), (2, .c (.fn 154 [0, 1])), (6, .c (.own 10004000 false)), (7, .c (.int .i64 i2))]) (st' := [(0, .rc [.imm (.int .i64) (o0_0, o0_1).1, .imm (.pair (.int .i64) (.pair (.sl (.int .i64)) (.pair (.sl (.int .i64)) (.pair (.int .i64) (.sl (.sl (.int .i64))))))) (o0_0, o0_1).2]), (1, .rc [.own 10004001 true]), (10004000, .sl 3 (.int .i64) cells3 .shallow), (10004001, .sl 3 (.int .i64) r3_.2 .shallow)]) rfl rfl ⟨⟨.inl rfl, .inl rfl, trivial⟩, ⟨⟨⟨rfl, rfl⟩, trivial⟩, trivial⟩, ⟨rfl, rfl⟩, ⟨rfl, rfl⟩, trivial⟩ ⟨.inl rfl, ⟨rfl, ⟨⟨rfl, rfl⟩, ⟨⟨rfl, rfl⟩, trivial⟩⟩⟩, ⟨⟨rfl, rfl⟩, trivial⟩, rfl, trivial⟩)⟩
  · have he := ok_f he hb
    have he := ok_some he
    exact ⟨rfl, _, _, (leads_ren [(900, 13900)] (l := []) (st' := [(0, .rc [.imm (.int .i64) o0_0, .imm (.pair (.int .i64) (.pair (.sl (.int .i64)) (.pair (.sl (.int .i64)) (.pair (.int .i64) (.sl (.sl (.int .i64))))))) o0_1]), (1, .rc [.own 900 true]), (900, .sl 3 (.int .i64) r3_.2 .shallow)]) rfl rfl ⟨⟨.inl rfl, .inl rfl, trivial⟩, ⟨⟨⟨rfl, rfl⟩, trivial⟩, trivial⟩, ⟨rfl, rfl⟩, trivial⟩ trivial), he⟩

noncomputable def c_impl_NextModel : Con := fun args st => match args, st with
  | [.agg [.imm (.int .i64) m_0, .imm (.pair (.int .i64) (.pair (.sl (.int .i64)) (.pair (.sl (.int .i64)) (.pair (.int .i64) (.sl (.sl (.int .i64))))))) m_1], .c (.imm (.int .i64) cells)], [] => .opt (Bool × (List Int)) (impl_NextModel (m_0, m_1) cells) (fun r => .ret (.tup [.c (.own 900 false), .c (.bool r.1)]) [(900, .sl 3 (.int .i64) r.2 .shallow)])
  | _, _ => .fail

noncomputable def C_impl_NextModel : Cfg := { y := tys, n := 19, h := 0, tab := [(108, c_impl_CellsValid), (134, c_impl_each__impl_NextModel_1__rR0)], cut := [], hand := [], good := [], deep := [], sched := [] }

theorem t_impl_NextModel : TabOk Try.prog C_impl_NextModel := by
  refine tabOk_of ?_
  simp only [C_impl_NextModel, List.forall_mem_cons]
  exact ⟨k_impl_CellsValid, k_impl_each__impl_NextModel_1__rR0, fun p h => by cases h⟩

theorem k_impl_NextModel : Entry Try.prog 53 c_impl_NextModel := by
  refine entry_by (C := C_impl_NextModel) mixed tys_ok t_impl_NextModel (fn := Try.f53) (c := bd Try.f53) (by kernel_rfl) (by kernel_rfl) (by kernel_rfl) (by kernel_rfl) ?_
  intro args st k he
  unfold c_impl_NextModel at he
  split at he
  rotate_left
  · exact he.elim
  rename_i m_0 m_1 cells
  have he : Ok (impl_NextModel (m_0, m_1) cells) (fun r => k (.tup [.c (.own 900 false), .c (.bool r.1)]) [(900, .sl 3 (.int .i64) r.2 .shallow)]) := he
  refine ⟨rfl, rfl, ?_⟩
  obtain ⟨r1_, hr, he⟩ := ok_bind he
  refine ⟨r1_, hr, ?_⟩
  refine And.intro (fun hb => ?_) (fun hb => ?_)
  · have he := ok_t he hb
    have he := ok_some he
    exact ⟨rfl, _, _, (leads_ren [] (l := [(4, .c (.own 900 false)), (5, .c (.bool false))]) (st' := [(900, .sl 3 (.int .i64) ([] : List Int) .shallow)]) rfl rfl ⟨trivial, trivial⟩ ⟨⟨rfl, trivial⟩, .inr rfl, trivial⟩), he⟩
  · have he := ok_f he hb
    obtain ⟨r2_, hr, he⟩ := ok_bind he
    refine ⟨r2_, hr, ?_⟩
    refine And.intro (by kernel_rfl) ?_
    have he := ok_some he
    exact ⟨rfl, _, _, (leads_ren [(900, 16900)] (l := [(4, .c (.own 900 false)), (5, .c (.bool (!r2_.isEmpty)))]) (st' := [(900, .sl 3 (.int .i64) r2_ .shallow)]) rfl rfl ⟨⟨rfl, rfl⟩, trivial⟩ ⟨⟨⟨rfl, rfl⟩, trivial⟩, .inl rfl, trivial⟩), he⟩

noncomputable def c_impl_valueOf : Con := fun args st => match args, st with
  | [.c (.imm (.int .i64) coefs), .c (.imm (.int .i64) cells)], [] => .opt (Int) (impl_valueOf coefs cells) (fun r => .ret (.c (.int .i64 r)) [])
  | _, _ => .fail

noncomputable def C_impl_valueOf : Cfg := { y := tys, n := 25, h := 0, tab := [], cut := [], hand := [], good := [], deep := [], sched := [] }

theorem t_impl_valueOf : TabOk Try.prog C_impl_valueOf := tabOk_of (fun p h => by cases h)

theorem k_impl_valueOf : Entry Try.prog 109 c_impl_valueOf := by
  refine entry_by (C := C_impl_valueOf) mixed tys_ok t_impl_valueOf (fn := Try.f109) (c := bd Try.f109) (by kernel_rfl) (by kernel_rfl) (by kernel_rfl) (by kernel_rfl) ?_
  intro args st k he
  unfold c_impl_valueOf at he
  split at he
  rotate_left
  · exact he.elim
  rename_i coefs cells
  have he : Ok (impl_valueOf coefs cells) (fun r => k (.c (.int .i64 r)) []) := he
  refine ⟨rfl, rfl, ?_⟩
  refine loop_model mixed tys_ok t_impl_valueOf (S := Int × Int) (I := (fun (sum, i) => (envOf [(0, .c (.imm (.int .i64) coefs)), (5, .c (.int .i64 sum)), (8, .c (.imm (.int .i64) cells)), (9, .c (.int .i64 (cells.length:Int))), (10, .c (.int .i64 i))], []))) (f := impl_valueOf_l1 coefs cells) (K := (fun r => k (.c (.int .i64 r)) [])) he (leads_ren [] (l := [(0, .c (.imm (.int .i64) coefs)), (5, .c (.int .i64 (0:Int))), (8, .c (.imm (.int .i64) cells)), (9, .c (.int .i64 (cells.length:Int))), (10, .c (.int .i64 (0:Int)))]) (st' := []) rfl rfl trivial ⟨.inl rfl, rfl, .inl rfl, rfl, rfl, trivial⟩) ?_
  rintro ⟨sum, i⟩ J1 he
  refine And.intro (fun hb => ?_) (fun hb => ?_)
  · have he := ok_t he hb
    have he := ok_rq he
    refine And.intro he.1 ?_
    have he := he.2
    have he := ok_rq he
    refine And.intro he.1 ?_
    have he := he.2
    have he := ok_rq he
    refine And.intro he.1 ?_
    have he := he.2
    have he := ok_rq he
    refine And.intro he.1 ?_
    have he := he.2
    have he := ok_rq he
    refine And.intro he.1 ?_
    have he := he.2
    have he := ok_some he
    exact ⟨((sum + ((coefs.getD i.toNat 0) * (cells.getD i.toNat 0))), (i + (1:Int))), he, (leads_ren [] (l := [(0, .c (.imm (.int .i64) coefs)), (5, .c (.int .i64 (sum + ((coefs.getD i.toNat 0) * (cells.getD i.toNat 0))))), (8, .c (.imm (.int .i64) cells)), (9, .c (.int .i64 (cells.length:Int))), (10, .c (.int .i64 (i + (1:Int))))]) (st' := []) rfl rfl trivial ⟨.inl rfl, rfl, .inl rfl, rfl, rfl, trivial⟩)⟩
  · have he := ok_f he hb
    have he := ok_some he
    exact ⟨rfl, _, _, Leads.refl _ _, he⟩

noncomputable def c_impl_ObjectiveValue : Con := fun args st => match args, st with
  | [.agg [.imm (.int .i64) m_0, .imm (.pair (.int .i64) (.pair (.sl (.int .i64)) (.pair (.sl (.int .i64)) (.pair (.int .i64) (.sl (.sl (.int .i64))))))) m_1], .c (.imm (.int .i64) coefs), .c (.imm (.int .i64) cells)], [] => .opt (Int × Bool) (impl_ObjectiveValue (m_0, m_1) coefs cells) (fun r => .ret (.tup [.c (.int .i64 r.1), .c (.bool r.2)]) [])
  | _, _ => .fail

noncomputable def C_impl_ObjectiveValue : Cfg := { y := tys, n := 21, h := 0, tab := [(100, c_impl_isObjective), (108, c_impl_CellsValid), (109, c_impl_valueOf)], cut := [], hand := [], good := [], deep := [], sched := [] }

theorem t_impl_ObjectiveValue : TabOk Try.prog C_impl_ObjectiveValue := by
  refine tabOk_of ?_
  simp only [C_impl_ObjectiveValue, List.forall_mem_cons]
  exact ⟨k_impl_isObjective, k_impl_CellsValid, k_impl_valueOf, fun p h => by cases h⟩

theorem k_impl_ObjectiveValue : Entry Try.prog 21 c_impl_ObjectiveValue := by
  refine entry_by (C := C_impl_ObjectiveValue) mixed tys_ok t_impl_ObjectiveValue (fn := Try.f21) (c := bd Try.f21) (by kernel_rfl) (by kernel_rfl) (by kernel_rfl) (by kernel_rfl) ?_
  intro args st k he
  unfold c_impl_ObjectiveValue at he
  split at he
  rotate_left
  · exact he.elim
  rename_i m_0 m_1 coefs cells
  have he : Ok (impl_ObjectiveValue (m_0, m_1) coefs cells) (fun r => k (.tup [.c (.int .i64 r.1), .c (.bool r.2)]) []) := he
  refine ⟨rfl, rfl, ?_⟩
  obtain ⟨r1_, hr, he⟩ := ok_bind he
  refine ⟨r1_, hr, ?_⟩
  refine And.intro (fun hb => ?_) (fun hb => ?_)
  · have he := ok_f he hb
    obtain ⟨r2_, hr, he⟩ := ok_bind he
    refine ⟨r2_, hr, ?_⟩
    refine And.intro (fun hb => ?_) (fun hb => ?_)
    · have he := ok_t he hb
      have he := ok_some he
      exact ⟨rfl, _, _, (leads_ren [] (l := [(6, .c (.int .i64 (0:Int))), (7, .c (.bool false))]) (st' := []) rfl rfl trivial ⟨rfl, .inr rfl, trivial⟩), he⟩
    · have he := ok_f he hb
      obtain ⟨r3_, hr, he⟩ := ok_bind he
      refine ⟨r3_, hr, ?_⟩
      have he := ok_some he
      exact ⟨rfl, _, _, (leads_ren [] (l := [(6, .c (.int .i64 r3_)), (7, .c (.bool true))]) (st' := []) rfl rfl trivial ⟨rfl, .inr rfl, trivial⟩), he⟩
  · have he := ok_t he hb
    have he := ok_some he
    exact ⟨rfl, _, _, (leads_ren [] (l := [(6, .c (.int .i64 (0:Int))), (7, .c (.bool false))]) (st' := []) rfl rfl trivial ⟨rfl, .inr rfl, trivial⟩), he⟩

noncomputable def c_impl_inside : Con := fun args st => match args, st with
  | [.c (.imm (.sl .bool) d), .c (.imm (.int .i64) cells)], [] => .opt (Bool) (impl_inside d cells) (fun r => .ret (.c (.bool r)) [])
  | _, _ => .fail

noncomputable def C_impl_inside : Cfg := { y := tys, n := 23, h := 0, tab := [], cut := [], hand := [], good := [], deep := [], sched := [] }

theorem t_impl_inside : TabOk Try.prog C_impl_inside := tabOk_of (fun p h => by cases h)

theorem k_impl_inside : Entry Try.prog 156 c_impl_inside := by
  refine entry_by (C := C_impl_inside) mixed tys_ok t_impl_inside (fn := Try.f156) (c := bd Try.f156) (by kernel_rfl) (by kernel_rfl) (by kernel_rfl) (by kernel_rfl) ?_
  intro args st k he
  unfold c_impl_inside at he
  split at he
  rotate_left
  · exact he.elim
  rename_i d cells
  have he : Ok (impl_inside d cells) (fun r => k (.c (.bool r)) []) := he
  refine ⟨rfl, rfl, ?_⟩
  refine loop_model mixed tys_ok t_impl_inside (S := Int) (I := (fun i => (envOf [(0, .c (.imm (.sl .bool) d)), (7, .c (.imm (.int .i64) cells)), (8, .c (.int .i64 (cells.length:Int))), (9, .c (.int .i64 i))], []))) (f := impl_inside_l1 d cells) (K := (fun r => k (.c (.bool r)) [])) he (leads_ren [] (l := [(0, .c (.imm (.sl .bool) d)), (7, .c (.imm (.int .i64) cells)), (8, .c (.int .i64 (cells.length:Int))), (9, .c (.int .i64 (0:Int)))]) (st' := []) rfl rfl trivial ⟨.inl rfl, .inl rfl, rfl, rfl, trivial⟩) ?_
  rintro i J1 he
  refine And.intro (fun hb => ?_) (fun hb => ?_)
  · have he := ok_t he hb
    have he := ok_rq he
    refine And.intro he.1 ?_
    have he := he.2
    have he := ok_rq he
    refine And.intro he.1 ?_
    have he := he.2
    have he := ok_rq he
    refine And.intro he.1 ?_
    have he := he.2
    refine And.intro (fun hb => ?_) (fun hb => ?_)
    · have he := ok_t he hb
      have he := ok_some he
      exact ⟨rfl, _, _, Leads.refl _ _, he⟩
    · have he := ok_f he hb
      have he := ok_rq he
      refine And.intro he.1 ?_
      have he := he.2
      have he := ok_some he
      exact ⟨(i + (1:Int)), he, (leads_ren [] (l := [(0, .c (.imm (.sl .bool) d)), (7, .c (.imm (.int .i64) cells)), (8, .c (.int .i64 (cells.length:Int))), (9, .c (.int .i64 (i + (1:Int))))]) (st' := []) rfl rfl trivial ⟨.inl rfl, .inl rfl, rfl, rfl, trivial⟩)⟩
  · have he := ok_f he hb
    have he := ok_some he
    exact ⟨rfl, _, _, Leads.refl _ _, he⟩

noncomputable def c_impl_CellsIn : Con := fun args st => match args, st with
  | [.agg [.imm (.int .i64) m_0, .imm (.pair (.int .i64) (.pair (.sl (.int .i64)) (.pair (.sl (.int .i64)) (.pair (.int .i64) (.sl (.sl (.int .i64))))))) m_1], .c (.imm (.sl .bool) d), .c (.imm (.int .i64) cells)], [] => .opt (Bool) (impl_CellsIn (m_0, m_1) d cells) (fun r => .ret (.c (.bool r)) [])
  | _, _ => .fail

noncomputable def C_impl_CellsIn : Cfg := { y := tys, n := 20, h := 0, tab := [(108, c_impl_CellsValid), (142, c_impl_DomainsValid), (156, c_impl_inside)], cut := [], hand := [], good := [], deep := [], sched := [] }

theorem t_impl_CellsIn : TabOk Try.prog C_impl_CellsIn := by
  refine tabOk_of ?_
  simp only [C_impl_CellsIn, List.forall_mem_cons]
  exact ⟨k_impl_CellsValid, k_impl_DomainsValid, k_impl_inside, fun p h => by cases h⟩

theorem k_impl_CellsIn : Entry Try.prog 59 c_impl_CellsIn := by
  refine entry_by (C := C_impl_CellsIn) mixed tys_ok t_impl_CellsIn (fn := Try.f59) (c := bd Try.f59) (by kernel_rfl) (by kernel_rfl) (by kernel_rfl) (by kernel_rfl) ?_
  intro args st k he
  unfold c_impl_CellsIn at he
  split at he
  rotate_left
  · exact he.elim
  rename_i m_0 m_1 d cells
  have he : Ok (impl_CellsIn (m_0, m_1) d cells) (fun r => k (.c (.bool r)) []) := he
  refine ⟨rfl, rfl, ?_⟩
  obtain ⟨r1_, hr, he⟩ := ok_bind he
  refine ⟨r1_, hr, ?_⟩
  refine And.intro (fun hb => ?_) (fun hb => ?_)
  · have he := ok_t he hb
    obtain ⟨r2_, hr, he⟩ := ok_bind he
    refine ⟨r2_, hr, ?_⟩
    refine And.intro (fun hb => ?_) (fun hb => ?_)
    · have he := ok_t he hb
      obtain ⟨r3_, hr, he⟩ := ok_bind he
      refine ⟨r3_, hr, ?_⟩
      have he := ok_some he
      exact ⟨rfl, _, _, (leads_ren [] (l := [(6, .c (.bool r3_))]) (st' := []) rfl rfl trivial ⟨.inl rfl, trivial⟩), he⟩
    · have he := ok_f he hb
      have he := ok_some he
      exact ⟨rfl, _, _, (leads_ren [] (l := [(6, .c (.bool false))]) (st' := []) rfl rfl trivial ⟨.inr rfl, trivial⟩), he⟩
  · have he := ok_f he hb
    have he := ok_some he
    exact ⟨rfl, _, _, (leads_ren [] (l := [(6, .c (.bool false))]) (st' := []) rfl rfl trivial ⟨.inr rfl, trivial⟩), he⟩

noncomputable def c_laws_cpAfter : Con := fun args st => match args, st with
  | [.agg [.imm (.int .i64) m_0, .imm (.pair (.int .i64) (.pair (.sl (.int .i64)) (.pair (.sl (.int .i64)) (.pair (.int .i64) (.sl (.sl (.int .i64))))))) m_1], .c (.imm (.int .i64) cells)], [] => .opt (Bool × (List Int)) (laws_cpAfter (m_0, m_1) cells) (fun r => .ret (.tup [.c (.own 900 false), .c (.bool r.1)]) [(900, .sl 3 (.int .i64) r.2 .shallow)])
  | _, _ => .fail

noncomputable def C_laws_cpAfter : Cfg := { y := tys, n := 45, h := 0, tab := [(53, c_impl_NextModel)], cut := [], hand := [], good := [], deep := [], sched := [] }

theorem t_laws_cpAfter : TabOk Try.prog C_laws_cpAfter := by
  refine tabOk_of ?_
  simp only [C_laws_cpAfter, List.forall_mem_cons]
  exact ⟨k_impl_NextModel, fun p h => by cases h⟩

theorem k_laws_cpAfter : Entry Try.prog 54 c_laws_cpAfter := by
  refine entry_by (C := C_laws_cpAfter) mixed tys_ok t_laws_cpAfter (fn := Try.f54) (c := bd Try.f54) (by kernel_rfl) (by kernel_rfl) (by kernel_rfl) (by kernel_rfl) ?_
  intro args st k he
  unfold c_laws_cpAfter at he
  split at he
  rotate_left
  · exact he.elim
  rename_i m_0 m_1 cells
  have he : Ok (laws_cpAfter (m_0, m_1) cells) (fun r => k (.tup [.c (.own 900 false), .c (.bool r.1)]) [(900, .sl 3 (.int .i64) r.2 .shallow)]) := he
  refine ⟨rfl, rfl, ?_⟩
  have he := ok_rq he
  refine And.intro he.1 ?_
  have he := he.2
  have he := ok_rq he
  refine And.intro he.1 ?_
  have he := he.2
  refine loop_model mixed tys_ok t_laws_cpAfter (S := Int × (List Int)) (I := (fun (i, next) => (envOf [(2, .c (.ptr 10000000 0)), (6, .c (.own 10000001 false)), (7, .c (.int .i64 i))], [(10000000, .rc [.imm (.int .i64) (m_0, m_1).1, .imm (.pair (.int .i64) (.pair (.sl (.int .i64)) (.pair (.sl (.int .i64)) (.pair (.int .i64) (.sl (.sl (.int .i64))))))) (m_0, m_1).2]), (10000001, .sl 3 (.int .i64) next .shallow)]))) (f := laws_cpAfter_l1 (m_0, m_1)) (K := (fun r => k (.tup [.c (.own 900 false), .c (.bool r.1)]) [(900, .sl 3 (.int .i64) r.2 .shallow)])) he (leads_ren [(10000000, 2), (10000001, 10)] (l := [(2, .c (.ptr 10000000 0)), (6, .c (.own 10000001 false)), (7, .c (.int .i64 (((([] : List Int) ++ cells).length:Int) - (1:Int))))]) (st' := [(10000000, .rc [.imm (.int .i64) (m_0, m_1).1, .imm (.pair (.int .i64) (.pair (.sl (.int .i64)) (.pair (.sl (.int .i64)) (.pair (.int .i64) (.sl (.sl (.int .i64))))))) (m_0, m_1).2]), (10000001, .sl 3 (.int .i64) (([] : List Int) ++ cells) .shallow)]) rfl rfl ⟨⟨.inl rfl, .inl rfl, trivial⟩, ⟨rfl, rfl⟩, trivial⟩ ⟨⟨⟨rfl, rfl⟩, rfl⟩, ⟨⟨rfl, rfl⟩, trivial⟩, rfl, trivial⟩) ?_
  rintro ⟨i, next⟩ J1 he
  refine And.intro (fun hb => ?_) (fun hb => ?_)
  · have he := ok_t he hb
    refine And.intro (by kernel_rfl) ?_
    have he := ok_rq he
    refine And.intro he.1 ?_
    have he := he.2
    have he := ok_rq he
    refine And.intro he.1 ?_
    have he := he.2
    refine And.intro (fun hb => ?_) (fun hb => ?_)
    · have he := ok_t he hb
      have he := ok_rq he
      refine And.intro he.1 ?_
      have he := he.2
      have he := ok_rq he
      refine And.intro he.1 ?_
      have he := he.2
      have he := ok_rq he
      refine And.intro he.1 ?_
      have he := he.2
      obtain ⟨r2_, hr, he⟩ := ok_bind he
      refine ⟨r2_, hr, ?_⟩
      have he := ok_some he
      exact ⟨rfl, _, _, (leads_ren [(900, 39900)] (l := [(4, .c (.own 900 false)), (5, .c (.bool r2_.1))]) (st' := [(900, .sl 3 (.int .i64) r2_.2 .shallow)]) rfl rfl ⟨⟨rfl, rfl⟩, trivial⟩ ⟨⟨⟨rfl, rfl⟩, trivial⟩, .inl rfl, trivial⟩), he⟩
    · have he := ok_f he hb
      have he := ok_rq he
      refine And.intro he.1 ?_
      have he := he.2
      have he := ok_rq he
      refine And.intro he.1 ?_
      have he := he.2
      have he := ok_some he
      exact ⟨((i - (1:Int)), (next.set i.toNat (0:Int))), he, (leads_ren [] (l := [(2, .c (.ptr 10000000 0)), (6, .c (.own 10000001 false)), (7, .c (.int .i64 (i - (1:Int))))]) (st' := [(10000000, .rc [.imm (.int .i64) (m_0, m_1).1, .imm (.pair (.int .i64) (.pair (.sl (.int .i64)) (.pair (.sl (.int .i64)) (.pair (.int .i64) (.sl (.sl (.int .i64))))))) (m_0, m_1).2]), (10000001, .sl 3 (.int .i64) (next.set i.toNat (0:Int)) .shallow)]) rfl rfl ⟨⟨.inl rfl, .inl rfl, trivial⟩, ⟨rfl, rfl⟩, trivial⟩ ⟨⟨⟨rfl, rfl⟩, rfl⟩, ⟨⟨rfl, rfl⟩, trivial⟩, rfl, trivial⟩)⟩
  · have he := ok_f he hb
    have he := ok_some he
    exact ⟨rfl, _, _, (leads_ren [(900, 44)] (l := [(4, .c (.own 900 false)), (5, .c (.bool false))]) (st' := [(900, .sl 3 (.int .i64) ([] : List Int) .shallow)]) rfl rfl ⟨⟨rfl, rfl⟩, trivial⟩ ⟨⟨⟨rfl, rfl⟩, trivial⟩, .inr rfl, trivial⟩), he⟩

noncomputable def c_laws_FnLowerBound : Con := fun args st => match args, st with
  | [.c (.imm (.int .u8) a0)], [] => .opt (Bool) (laws_FnLowerBound a0) (fun r => .ret (.c (.bool r)) [])
  | _, _ => .fail

noncomputable def C_laws_FnLowerBound : Cfg := { y := tys, n := 113, h := 0, tab := [(21, c_impl_ObjectiveValue), (53, c_impl_NextModel), (54, c_laws_cpAfter), (56, c_spec_DrawLowerBound), (57, c_impl_LowerBound), (58, c_spec_LowerBound), (59, c_impl_CellsIn)], cut := [13, 17], hand := [], good := [], deep := [], sched := [] }

theorem t_laws_FnLowerBound : TabOk Try.prog C_laws_FnLowerBound := by
  refine tabOk_of ?_
  simp only [C_laws_FnLowerBound, List.forall_mem_cons]
  exact ⟨k_impl_ObjectiveValue, k_impl_NextModel, k_laws_cpAfter, k_spec_DrawLowerBound, k_impl_LowerBound, k_spec_LowerBound, k_impl_CellsIn, fun p h => by cases h⟩

theorem k_laws_FnLowerBound : Entry Try.prog 8 c_laws_FnLowerBound := by
  refine entry_by (C := C_laws_FnLowerBound) mixed tys_ok t_laws_FnLowerBound (fn := Try.f8) (c := bd Try.f8) (by kernel_rfl) (by kernel_rfl) (by kernel_rfl) (by kernel_rfl) ?_
  intro args st k he
  unfold c_laws_FnLowerBound at he
  split at he
  rotate_left
  · exact he.elim
  rename_i a0
  have he : Ok (laws_FnLowerBound a0) (fun r => k (.c (.bool r)) []) := he
  refine ⟨rfl, rfl, ?_⟩
  refine And.intro (fun hb => ?_) (fun hb => ?_)
  · have he := ok_t he hb
    have he := ok_some he
    exact ⟨rfl, _, _, Leads.refl _ _, he⟩
  · have he := ok_f he hb
    obtain ⟨r1_, hr, he⟩ := ok_bind he
    refine ⟨r1_, hr, ?_⟩
    obtain ⟨r2_, hr, he⟩ := ok_bind he
    refine ⟨r2_, hr, ?_⟩
    obtain ⟨r3_, hr, he⟩ := ok_bind he
    refine ⟨r3_, hr, ?_⟩
    refine And.intro (fun hb => ?_) (fun hb => ?_)
    · have he := ok_f he hb
      refine And.intro (fun hb => ?_) (fun hb => ?_)
      · have he := ok_f he hb
        refine And.intro (fun hb => ?_) (fun hb => ?_)
        · have he := ok_t he hb
          refine And.intro (fun hb => ?_) (fun hb => ?_)
          · have he := ok_t he hb
            have he := ok_some he
            exact ⟨rfl, _, _, (leads_ren [] (l := [(2, .c (.bool (r2_.1 == r3_.1)))]) (st' := []) rfl rfl trivial ⟨.inl rfl, trivial⟩), he⟩
          · have he := ok_f he hb
            have he := ok_some he
            exact ⟨rfl, _, _, (leads_ren [] (l := [(2, .c (.bool false))]) (st' := []) rfl rfl trivial ⟨.inr rfl, trivial⟩), he⟩
        · have he := ok_f he hb
          have he := ok_rq he
          refine And.intro he.1 ?_
          have he := he.2
          obtain ⟨r4_, hr, he⟩ := ok_bind he
          refine ⟨r4_, hr, ?_⟩
          refine loop_model mixed tys_ok t_laws_FnLowerBound (S := Bool × Bool × (List Int)) (I := (fun (i, i1, i3) => (envOf [(3, .c (.ptr 10000000 0)), (4, .c (.own 10000001 false)), (5, .c (.imm (.sl .bool) r1_.1)), (6, .c (.int .i64 r2_.1)), (10, .c (.ptr 10000002 0)), (11, .c (.bool i)), (13, .c (.own 10000003 false)), (14, .c (.bool i1))], [(10000000, .rc [.own 10000004 false, .own 10000005 false]), (10000001, .sl 3 (.int .i64) r1_.2.1 .shallow), (10000002, .rc [.own 10000004 false, .nil]), (10000003, .sl 3 (.int .i64) i3 .shallow), (10000004, .sl 3 (.int .i64) r1_.2.2.1 .shallow), (10000005, .sl 124 (.pair (.int .i64) (.pair (.sl (.int .i64)) (.pair (.sl (.int .i64)) (.pair (.int .i64) (.sl (.sl (.int .i64))))))) r1_.2.2.2 (.deep true .no))]))) (f := laws_FnLowerBound_l1 r1_ r2_) (K := (fun r => k (.c (.bool r)) [])) he (leads_ren [(10000000, 3), (10000001, 23901), (10000002, 10), (10000003, 71900), (10000004, 23902), (10000005, 23903)] (l := [(3, .c (.ptr 10000000 0)), (4, .c (.own 10000001 false)), (5, .c (.imm (.sl .bool) r1_.1)), (6, .c (.int .i64 r2_.1)), (10, .c (.ptr 10000002 0)), (11, .c (.bool false)), (13, .c (.own 10000003 false)), (14, .c (.bool r4_.1))]) (st' := [(10000000, .rc [.own 10000004 false, .own 10000005 false]), (10000001, .sl 3 (.int .i64) r1_.2.1 .shallow), (10000002, .rc [.own 10000004 false, .nil]), (10000003, .sl 3 (.int .i64) r4_.2 .shallow), (10000004, .sl 3 (.int .i64) r1_.2.2.1 .shallow), (10000005, .sl 124 (.pair (.int .i64) (.pair (.sl (.int .i64)) (.pair (.sl (.int .i64)) (.pair (.int .i64) (.sl (.sl (.int .i64))))))) r1_.2.2.2 (.deep true .no))]) rfl rfl ⟨⟨⟨⟨rfl, rfl⟩, trivial⟩, ⟨⟨rfl, rfl⟩, trivial⟩, trivial⟩, ⟨rfl, rfl⟩, ⟨⟨⟨rfl, rfl⟩, trivial⟩, rfl, trivial⟩, ⟨rfl, rfl⟩, ⟨rfl, rfl⟩, ⟨rfl, rfl⟩, trivial⟩ ⟨⟨⟨rfl, rfl⟩, rfl⟩, ⟨⟨rfl, rfl⟩, trivial⟩, .inl rfl, rfl, ⟨⟨rfl, rfl⟩, rfl⟩, .inr rfl, ⟨⟨rfl, rfl⟩, trivial⟩, .inl rfl, trivial⟩) ?_
          rintro ⟨i, i1, i3⟩ J1 he
          refine And.intro (fun hb => ?_) (fun hb => ?_)
          · have he := ok_t he hb
            refine seq_model mixed tys_ok t_laws_FnLowerBound (S := Bool) (I := (fun i4 => (envOf [(3, .c (.ptr 10004000 0)), (4, .c (.own 10004001 false)), (5, .c (.imm (.sl .bool) r1_.1)), (6, .c (.int .i64 r2_.1)), (10, .c (.ptr 10004002 0)), (11, .c (.bool i4)), (13, .c (.own 10004003 false))], [(10004000, .rc [.own 10004004 false, .own 10004005 false]), (10004001, .sl 3 (.int .i64) r1_.2.1 .shallow), (10004002, .rc [.own 10004004 false, .nil]), (10004003, .sl 3 (.int .i64) i3 .shallow), (10004004, .sl 3 (.int .i64) r1_.2.2.1 .shallow), (10004005, .sl 124 (.pair (.int .i64) (.pair (.sl (.int .i64)) (.pair (.sl (.int .i64)) (.pair (.int .i64) (.sl (.sl (.int .i64))))))) r1_.2.2.2 (.deep true .no))]))) (B := fun s => Ok (laws_FnLowerBound_j1 r1_ i3 s) (LK J1 (fun r => k (.c (.bool r)) []))) ?_ ?_
            · rintro i4 he
              obtain ⟨r12_, hr, he⟩ := ok_bind he
              refine ⟨r12_, hr, ?_⟩
              have he := ok_some he
              exact ⟨(i4, r12_.1, r12_.2), he, (leads_ren [(10000000, 10004000), (10000001, 10004001), (10000002, 10004002), (10000003, 78900), (10000004, 10004004), (10000005, 10004005)] (l := [(3, .c (.ptr 10000000 0)), (4, .c (.own 10000001 false)), (5, .c (.imm (.sl .bool) r1_.1)), (6, .c (.int .i64 r2_.1)), (10, .c (.ptr 10000002 0)), (11, .c (.bool i4)), (13, .c (.own 10000003 false)), (14, .c (.bool r12_.1))]) (st' := [(10000000, .rc [.own 10000004 false, .own 10000005 false]), (10000001, .sl 3 (.int .i64) r1_.2.1 .shallow), (10000002, .rc [.own 10000004 false, .nil]), (10000003, .sl 3 (.int .i64) r12_.2 .shallow), (10000004, .sl 3 (.int .i64) r1_.2.2.1 .shallow), (10000005, .sl 124 (.pair (.int .i64) (.pair (.sl (.int .i64)) (.pair (.sl (.int .i64)) (.pair (.int .i64) (.sl (.sl (.int .i64))))))) r1_.2.2.2 (.deep true .no))]) rfl rfl ⟨⟨⟨⟨rfl, rfl⟩, trivial⟩, ⟨⟨rfl, rfl⟩, trivial⟩, trivial⟩, ⟨rfl, rfl⟩, ⟨⟨⟨rfl, rfl⟩, trivial⟩, rfl, trivial⟩, ⟨rfl, rfl⟩, ⟨rfl, rfl⟩, ⟨rfl, rfl⟩, trivial⟩ ⟨⟨⟨rfl, rfl⟩, rfl⟩, ⟨⟨rfl, rfl⟩, trivial⟩, .inl rfl, rfl, ⟨⟨rfl, rfl⟩, rfl⟩, .inl rfl, ⟨⟨rfl, rfl⟩, trivial⟩, .inl rfl, trivial⟩)⟩
            · skip
              obtain ⟨r9_, hr, he⟩ := ok_bind he
              refine ⟨r9_, hr, ?_⟩
              refine seq_model mixed tys_ok t_laws_FnLowerBound (S := Unit) (I := (fun _ => (envOf [(3, .c (.ptr 10003000 0)), (4, .c (.own 10003001 false)), (5, .c (.imm (.sl .bool) r1_.1)), (6, .c (.int .i64 r2_.1)), (10, .c (.ptr 10003002 0)), (11, .c (.bool i)), (13, .c (.own 10003003 false)), (15, .c (.int .i64 r9_.1))], [(10003000, .rc [.own 10003004 false, .own 10003005 false]), (10003001, .sl 3 (.int .i64) r1_.2.1 .shallow), (10003002, .rc [.own 10003004 false, .nil]), (10003003, .sl 3 (.int .i64) i3 .shallow), (10003004, .sl 3 (.int .i64) r1_.2.2.1 .shallow), (10003005, .sl 124 (.pair (.int .i64) (.pair (.sl (.int .i64)) (.pair (.sl (.int .i64)) (.pair (.int .i64) (.sl (.sl (.int .i64))))))) r1_.2.2.2 (.deep true .no))]))) (B := fun s => Ok (laws_FnLowerBound_j2 r1_ r2_ i i3 r9_ s) (LK J1 (fun r => k (.c (.bool r)) []))) ?_ ?_
              · rintro ⟨⟩ he
                refine And.intro (fun hb => ?_) (fun hb => ?_)
                · have he := ok_f he hb
                  obtain ⟨r11_, hr, he⟩ := ok_bind he
                  refine ⟨r11_, hr, ?_⟩
                  refine And.intro (fun hb => ?_) (fun hb => ?_)
                  · have he := ok_t he hb
                    exact ⟨(r9_.1 == r2_.1), he, (leads_ren [(10004000, 10003000), (10004001, 10003001), (10004002, 10003002), (10004003, 10003003), (10004004, 10003004), (10004005, 10003005)] (l := [(3, .c (.ptr 10004000 0)), (4, .c (.own 10004001 false)), (5, .c (.imm (.sl .bool) r1_.1)), (6, .c (.int .i64 r2_.1)), (10, .c (.ptr 10004002 0)), (11, .c (.bool (r9_.1 == r2_.1))), (13, .c (.own 10004003 false))]) (st' := [(10004000, .rc [.own 10004004 false, .own 10004005 false]), (10004001, .sl 3 (.int .i64) r1_.2.1 .shallow), (10004002, .rc [.own 10004004 false, .nil]), (10004003, .sl 3 (.int .i64) i3 .shallow), (10004004, .sl 3 (.int .i64) r1_.2.2.1 .shallow), (10004005, .sl 124 (.pair (.int .i64) (.pair (.sl (.int .i64)) (.pair (.sl (.int .i64)) (.pair (.int .i64) (.sl (.sl (.int .i64))))))) r1_.2.2.2 (.deep true .no))]) rfl rfl ⟨⟨⟨⟨rfl, rfl⟩, trivial⟩, ⟨⟨rfl, rfl⟩, trivial⟩, trivial⟩, ⟨rfl, rfl⟩, ⟨⟨⟨rfl, rfl⟩, trivial⟩, rfl, trivial⟩, ⟨rfl, rfl⟩, ⟨rfl, rfl⟩, ⟨rfl, rfl⟩, trivial⟩ ⟨⟨⟨rfl, rfl⟩, rfl⟩, ⟨⟨rfl, rfl⟩, trivial⟩, .inl rfl, rfl, ⟨⟨rfl, rfl⟩, rfl⟩, .inl rfl, ⟨⟨rfl, rfl⟩, trivial⟩, trivial⟩)⟩
                  · have he := ok_f he hb
                    exact ⟨false, he, (leads_ren [(10004000, 10003000), (10004001, 10003001), (10004002, 10003002), (10004003, 10003003), (10004004, 10003004), (10004005, 10003005)] (l := [(3, .c (.ptr 10004000 0)), (4, .c (.own 10004001 false)), (5, .c (.imm (.sl .bool) r1_.1)), (6, .c (.int .i64 r2_.1)), (10, .c (.ptr 10004002 0)), (11, .c (.bool false)), (13, .c (.own 10004003 false))]) (st' := [(10004000, .rc [.own 10004004 false, .own 10004005 false]), (10004001, .sl 3 (.int .i64) r1_.2.1 .shallow), (10004002, .rc [.own 10004004 false, .nil]), (10004003, .sl 3 (.int .i64) i3 .shallow), (10004004, .sl 3 (.int .i64) r1_.2.2.1 .shallow), (10004005, .sl 124 (.pair (.int .i64) (.pair (.sl (.int .i64)) (.pair (.sl (.int .i64)) (.pair (.int .i64) (.sl (.sl (.int .i64))))))) r1_.2.2.2 (.deep true .no))]) rfl rfl ⟨⟨⟨⟨rfl, rfl⟩, trivial⟩, ⟨⟨rfl, rfl⟩, trivial⟩, trivial⟩, ⟨rfl, rfl⟩, ⟨⟨⟨rfl, rfl⟩, trivial⟩, rfl, trivial⟩, ⟨rfl, rfl⟩, ⟨rfl, rfl⟩, ⟨rfl, rfl⟩, trivial⟩ ⟨⟨⟨rfl, rfl⟩, rfl⟩, ⟨⟨rfl, rfl⟩, trivial⟩, .inl rfl, rfl, ⟨⟨rfl, rfl⟩, rfl⟩, .inr rfl, ⟨⟨rfl, rfl⟩, trivial⟩, trivial⟩)⟩
                · have he := ok_t he hb
                  exact ⟨true, he, (leads_ren [(10004000, 10003000), (10004001, 10003001), (10004002, 10003002), (10004003, 10003003), (10004004, 10003004), (10004005, 10003005)] (l := [(3, .c (.ptr 10004000 0)), (4, .c (.own 10004001 false)), (5, .c (.imm (.sl .bool) r1_.1)), (6, .c (.int .i64 r2_.1)), (10, .c (.ptr 10004002 0)), (11, .c (.bool true)), (13, .c (.own 10004003 false))]) (st' := [(10004000, .rc [.own 10004004 false, .own 10004005 false]), (10004001, .sl 3 (.int .i64) r1_.2.1 .shallow), (10004002, .rc [.own 10004004 false, .nil]), (10004003, .sl 3 (.int .i64) i3 .shallow), (10004004, .sl 3 (.int .i64) r1_.2.2.1 .shallow), (10004005, .sl 124 (.pair (.int .i64) (.pair (.sl (.int .i64)) (.pair (.sl (.int .i64)) (.pair (.int .i64) (.sl (.sl (.int .i64))))))) r1_.2.2.2 (.deep true .no))]) rfl rfl ⟨⟨⟨⟨rfl, rfl⟩, trivial⟩, ⟨⟨rfl, rfl⟩, trivial⟩, trivial⟩, ⟨rfl, rfl⟩, ⟨⟨⟨rfl, rfl⟩, trivial⟩, rfl, trivial⟩, ⟨rfl, rfl⟩, ⟨rfl, rfl⟩, ⟨rfl, rfl⟩, trivial⟩ ⟨⟨⟨rfl, rfl⟩, rfl⟩, ⟨⟨rfl, rfl⟩, trivial⟩, .inl rfl, rfl, ⟨⟨rfl, rfl⟩, rfl⟩, .inr rfl, ⟨⟨rfl, rfl⟩, trivial⟩, trivial⟩)⟩
              · skip
                obtain ⟨r10_, hr, he⟩ := ok_bind he
                refine ⟨r10_, hr, ?_⟩
                refine And.intro (fun hb => ?_) (fun hb => ?_)
                · have he := ok_t he hb
                  refine And.intro (fun hb => ?_) (fun hb => ?_)
                  · have he := ok_f he hb
                    refine And.intro (fun hb => ?_) (fun hb => ?_)
                    · have he := ok_t he hb
                      have he := ok_some he
                      exact ⟨rfl, _, _, (leads_ren [] (l := [(2, .c (.bool false))]) (st' := []) rfl rfl trivial ⟨.inr rfl, trivial⟩), he⟩
                    · have he := ok_f he hb
                      exact ⟨(), he, (leads_ren [(10003000, 10000000), (10003001, 10000001), (10003002, 10000002), (10003003, 10000003), (10003004, 10000004), (10003005, 10000005)] (l := [(3, .c (.ptr 10003000 0)), (4, .c (.own 10003001 false)), (5, .c (.imm (.sl .bool) r1_.1)), (6, .c (.int .i64 r2_.1)), (10, .c (.ptr 10003002 0)), (11, .c (.bool i)), (13, .c (.own 10003003 false)), (15, .c (.int .i64 r9_.1))]) (st' := [(10003000, .rc [.own 10003004 false, .own 10003005 false]), (10003001, .sl 3 (.int .i64) r1_.2.1 .shallow), (10003002, .rc [.own 10003004 false, .nil]), (10003003, .sl 3 (.int .i64) i3 .shallow), (10003004, .sl 3 (.int .i64) r1_.2.2.1 .shallow), (10003005, .sl 124 (.pair (.int .i64) (.pair (.sl (.int .i64)) (.pair (.sl (.int .i64)) (.pair (.int .i64) (.sl (.sl (.int .i64))))))) r1_.2.2.2 (.deep true .no))]) rfl rfl ⟨⟨⟨⟨rfl, rfl⟩, trivial⟩, ⟨⟨rfl, rfl⟩, trivial⟩, trivial⟩, ⟨rfl, rfl⟩, ⟨⟨⟨rfl, rfl⟩, trivial⟩, rfl, trivial⟩, ⟨rfl, rfl⟩, ⟨rfl, rfl⟩, ⟨rfl, rfl⟩, trivial⟩ ⟨⟨⟨rfl, rfl⟩, rfl⟩, ⟨⟨rfl, rfl⟩, trivial⟩, .inl rfl, rfl, ⟨⟨rfl, rfl⟩, rfl⟩, .inl rfl, ⟨⟨rfl, rfl⟩, trivial⟩, rfl, trivial⟩)⟩
                  · have he := ok_t he hb
                    have he := ok_some he
                    exact ⟨rfl, _, _, (leads_ren [] (l := [(2, .c (.bool false))]) (st' := []) rfl rfl trivial ⟨.inr rfl, trivial⟩), he⟩
                · have he := ok_f he hb
                  exact ⟨(), he, (leads_ren [(10003000, 10000000), (10003001, 10000001), (10003002, 10000002), (10003003, 10000003), (10003004, 10000004), (10003005, 10000005)] (l := [(3, .c (.ptr 10003000 0)), (4, .c (.own 10003001 false)), (5, .c (.imm (.sl .bool) r1_.1)), (6, .c (.int .i64 r2_.1)), (10, .c (.ptr 10003002 0)), (11, .c (.bool i)), (13, .c (.own 10003003 false)), (15, .c (.int .i64 r9_.1))]) (st' := [(10003000, .rc [.own 10003004 false, .own 10003005 false]), (10003001, .sl 3 (.int .i64) r1_.2.1 .shallow), (10003002, .rc [.own 10003004 false, .nil]), (10003003, .sl 3 (.int .i64) i3 .shallow), (10003004, .sl 3 (.int .i64) r1_.2.2.1 .shallow), (10003005, .sl 124 (.pair (.int .i64) (.pair (.sl (.int .i64)) (.pair (.sl (.int .i64)) (.pair (.int .i64) (.sl (.sl (.int .i64))))))) r1_.2.2.2 (.deep true .no))]) rfl rfl ⟨⟨⟨⟨rfl, rfl⟩, trivial⟩, ⟨⟨rfl, rfl⟩, trivial⟩, trivial⟩, ⟨rfl, rfl⟩, ⟨⟨⟨rfl, rfl⟩, trivial⟩, rfl, trivial⟩, ⟨rfl, rfl⟩, ⟨rfl, rfl⟩, ⟨rfl, rfl⟩, trivial⟩ ⟨⟨⟨rfl, rfl⟩, rfl⟩, ⟨⟨rfl, rfl⟩, trivial⟩, .inl rfl, rfl, ⟨⟨rfl, rfl⟩, rfl⟩, .inl rfl, ⟨⟨rfl, rfl⟩, trivial⟩, rfl, trivial⟩)⟩
          · have he := ok_f he hb
            have he := ok_some he
            exact ⟨rfl, _, _, (leads_ren [] (l := [(2, .c (.bool i))]) (st' := []) rfl rfl trivial ⟨.inl rfl, trivial⟩), he⟩
      · have he := ok_t he hb
        refine And.intro (fun hb => ?_) (fun hb => ?_)
        · have he := ok_t he hb
          have he := ok_some he
          exact ⟨rfl, _, _, (leads_ren [] (l := [(2, .c (.bool (r2_.1 == r3_.1)))]) (st' := []) rfl rfl trivial ⟨.inl rfl, trivial⟩), he⟩
        · have he := ok_f he hb
          have he := ok_some he
          exact ⟨rfl, _, _, (leads_ren [] (l := [(2, .c (.bool false))]) (st' := []) rfl rfl trivial ⟨.inr rfl, trivial⟩), he⟩
    · have he := ok_t he hb
      refine And.intro (fun hb => ?_) (fun hb => ?_)
      · have he := ok_t he hb
        have he := ok_some he
        exact ⟨rfl, _, _, (leads_ren [] (l := [(2, .c (.bool (r2_.1 == r3_.1)))]) (st' := []) rfl rfl trivial ⟨.inl rfl, trivial⟩), he⟩
      · have he := ok_f he hb
        have he := ok_some he
        exact ⟨rfl, _, _, (leads_ren [] (l := [(2, .c (.bool false))]) (st' := []) rfl rfl trivial ⟨.inr rfl, trivial⟩), he⟩

end Go.AE.Y
