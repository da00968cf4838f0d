/-
  Walks: each function keeps the contract that its model gives. No conditions.
-/
import Derived.Test.YtpeelmjecjbfjaaR4Tab
import Derived.Test.YtpeelmjecjbfjaaR4W3
namespace Go.AE.Y
open Go Go.AE Go.Proofs
set_option linter.unusedVariables false
set_option maxHeartbeats 2000000
set_option maxRecDepth 100000

noncomputable def c_impl_SolvesModel : Con := fun args st => match args, st with
  | [.agg [.imm (.int .i64) m_0, .imm (.pair (.int .i64) (.pair (.sl (.int .i64)) (.pair (.sl (.int .i64)) (.pair (.int .i64) (.sl (.sl (.int .i64))))))) m_1], .c (.imm (.int .i64) cells)], [] => .opt (Bool) (impl_SolvesModel (m_0, m_1) cells) (fun r => .ret (.c (.bool r)) [])
  | _, _ => .fail

noncomputable def C_impl_SolvesModel : Cfg := { y := tys, n := 13, h := 0, tab := [(108, c_impl_CellsValid), (133, c_impl_Model_solves)], cut := [], hand := [], good := [], deep := [], sched := [] }

theorem t_impl_SolvesModel : TabOk Try.prog C_impl_SolvesModel := by
  refine tabOk_of ?_
  simp only [C_impl_SolvesModel, List.forall_mem_cons]
  exact ⟨k_impl_CellsValid, k_impl_Model_solves, fun p h => by cases h⟩

theorem k_impl_SolvesModel : Entry Try.prog 40 c_impl_SolvesModel := by
  refine entry_by (C := C_impl_SolvesModel) mixed tys_ok t_impl_SolvesModel (fn := Try.f40) (c := bd Try.f40) (by kernel_rfl) (by kernel_rfl) (by kernel_rfl) (by kernel_rfl) ?_
  intro args st k he
  unfold c_impl_SolvesModel at he
  split at he
  rotate_left
  · exact he.elim
  rename_i m_0 m_1 cells
  have he : Ok (impl_SolvesModel (m_0, m_1) cells) (fun r => k (.c (.bool r)) []) := he
  refine ⟨rfl, rfl, ?_⟩
  obtain ⟨r1_, hr, he⟩ := ok_bind he
  refine ⟨r1_, hr, ?_⟩
  refine And.intro (fun hb => ?_) (fun hb => ?_)
  · have he := ok_t he hb
    obtain ⟨r2_, hr, he⟩ := ok_bind he
    refine ⟨r2_, hr, ?_⟩
    have he := ok_some he
    exact ⟨rfl, _, _, (leads_ren [] (l := [(4, .c (.bool r2_))]) (st' := []) rfl rfl trivial ⟨.inl rfl, trivial⟩), he⟩
  · have he := ok_f he hb
    have he := ok_some he
    exact ⟨rfl, _, _, (leads_ren [] (l := [(4, .c (.bool false))]) (st' := []) rfl rfl trivial ⟨.inr rfl, trivial⟩), he⟩

noncomputable def c_impl_CountModel_1__rrs : Con := fun args st => match args, st with
  | [.c (.own 2 false), .c (.ptr 0 0), .c (.ptr 1 0)], [(0, .rc [.imm (.int .i64) o0_0, .imm (.pair (.int .i64) (.pair (.sl (.int .i64)) (.pair (.sl (.int .i64)) (.pair (.int .i64) (.sl (.sl (.int .i64))))))) o0_1]), (1, .rc [.int .i64 o1]), (2, .sl 3 (.int .i64) cells .shallow)] => .opt (Bool × Int) (impl_CountModel_1__rrs (o0_0, o0_1) o1 cells) (fun r => .ret (.c (.bool r.1)) [(0, .rc [.imm (.int .i64) o0_0, .imm (.pair (.int .i64) (.pair (.sl (.int .i64)) (.pair (.sl (.int .i64)) (.pair (.int .i64) (.sl (.sl (.int .i64))))))) o0_1]), (1, .rc [.int .i64 r.2]), (2, .sl 3 (.int .i64) cells .shallow)])
  | _, _ => .fail

noncomputable def C_impl_CountModel_1__rrs : Cfg := { y := tys, n := 10, h := 3, tab := [(133, c_impl_Model_solves)], cut := [], hand := [], good := [], deep := [], sched := [] }

theorem t_impl_CountModel_1__rrs : TabOk Try.prog C_impl_CountModel_1__rrs := by
  refine tabOk_of ?_
  simp only [C_impl_CountModel_1__rrs, List.forall_mem_cons]
  exact ⟨k_impl_Model_solves, fun p h => by cases h⟩

theorem k_impl_CountModel_1__rrs : Entry Try.prog 135 c_impl_CountModel_1__rrs := by
  refine entry_by (C := C_impl_CountModel_1__rrs) mixed tys_ok t_impl_CountModel_1__rrs (fn := Try.f135) (c := bd Try.f135) (by kernel_rfl) (by kernel_rfl) (by kernel_rfl) (by kernel_rfl) ?_
  intro args st k he
  unfold c_impl_CountModel_1__rrs at he
  split at he
  rotate_left
  · exact he.elim
  rename_i o0_0 o0_1 o1 cells
  have he : Ok (impl_CountModel_1__rrs (o0_0, o0_1) o1 cells) (fun r => k (.c (.bool r.1)) [(0, .rc [.imm (.int .i64) o0_0, .imm (.pair (.int .i64) (.pair (.sl (.int .i64)) (.pair (.sl (.int .i64)) (.pair (.int .i64) (.sl (.sl (.int .i64))))))) o0_1]), (1, .rc [.int .i64 r.2]), (2, .sl 3 (.int .i64) cells .shallow)]) := he
  refine ⟨rfl, rfl, ?_⟩
  obtain ⟨r1_, hr, he⟩ := ok_bind he
  refine ⟨r1_, hr, ?_⟩
  refine And.intro (fun hb => ?_) (fun hb => ?_)
  · have he := ok_t he hb
    have he := ok_rq he
    refine And.intro he.1 ?_
    have he := he.2
    have he := ok_some he
    exact ⟨rfl, _, _, (leads_ren [] (l := [(4, .c (.bool true))]) (st' := [(0, .rc [.imm (.int .i64) o0_0, .imm (.pair (.int .i64) (.pair (.sl (.int .i64)) (.pair (.sl (.int .i64)) (.pair (.int .i64) (.sl (.sl (.int .i64))))))) o0_1]), (1, .rc [.int .i64 (o1 + (1:Int))]), (2, .sl 3 (.int .i64) cells .shallow)]) rfl rfl ⟨⟨.inl rfl, .inl rfl, trivial⟩, ⟨rfl, trivial⟩, ⟨rfl, rfl⟩, trivial⟩ ⟨.inr rfl, trivial⟩), he⟩
  · have he := ok_f he hb
    have he := ok_some he
    exact ⟨rfl, _, _, (leads_ren [] (l := [(4, .c (.bool true))]) (st' := [(0, .rc [.imm (.int .i64) o0_0, .imm (.pair (.int .i64) (.pair (.sl (.int .i64)) (.pair (.sl (.int .i64)) (.pair (.int .i64) (.sl (.sl (.int .i64))))))) o0_1]), (1, .rc [.int .i64 o1]), (2, .sl 3 (.int .i64) cells .shallow)]) rfl rfl ⟨⟨.inl rfl, .inl rfl, trivial⟩, ⟨rfl, trivial⟩, ⟨rfl, rfl⟩, trivial⟩ ⟨.inr rfl, trivial⟩), he⟩

noncomputable def c_impl_each__impl_CountModel_1 : Con := fun args st => match args, st with
  | [.c (.imm (.int .i64) sizes), .c (.imm (.int .i64) from_), .c (.fn 135 [0, 1])], [(0, .rc [.imm (.int .i64) o0_0, .imm (.pair (.int .i64) (.pair (.sl (.int .i64)) (.pair (.sl (.int .i64)) (.pair (.int .i64) (.sl (.sl (.int .i64))))))) o0_1]), (1, .rc [.int .i64 o1])] => .opt (Int) (impl_each__impl_CountModel_1 sizes from_ (o0_0, o0_1) o1) (fun r => .ret (.tup []) [(0, .rc [.imm (.int .i64) o0_0, .imm (.pair (.int .i64) (.pair (.sl (.int .i64)) (.pair (.sl (.int .i64)) (.pair (.int .i64) (.sl (.sl (.int .i64))))))) o0_1]), (1, .rc [.int .i64 r])])
  | _, _ => .fail

noncomputable def C_impl_each__impl_CountModel_1 : Cfg := { y := tys, n := 42, h := 2, tab := [(135, c_impl_CountModel_1__rrs), (150, c_slices_Clone_int)], cut := [6], hand := [(135, [0])], good := [], deep := [], sched := [] }

theorem t_impl_each__impl_CountModel_1 : TabOk Try.prog C_impl_each__impl_CountModel_1 := by
  refine tabOk_of ?_
  simp only [C_impl_each__impl_CountModel_1, List.forall_mem_cons]
  exact ⟨k_impl_CountModel_1__rrs, k_slices_Clone_int, fun p h => by cases h⟩

theorem k_impl_each__impl_CountModel_1 : Entry Try.prog 134 c_impl_each__impl_CountModel_1 := by
  refine entry_by (C := C_impl_each__impl_CountModel_1) mixed tys_ok t_impl_each__impl_CountModel_1 (fn := Try.f134) (c := bd Try.f134) (by kernel_rfl) (by kernel_rfl) (by kernel_rfl) (by kernel_rfl) ?_
  intro args st k he
  unfold c_impl_each__impl_CountModel_1 at he
  split at he
  rotate_left
  · exact he.elim
  rename_i sizes from_ o0_0 o0_1 o1
  have he : Ok (impl_each__impl_CountModel_1 sizes from_ (o0_0, o0_1) o1) (fun r => k (.tup []) [(0, .rc [.imm (.int .i64) o0_0, .imm (.pair (.int .i64) (.pair (.sl (.int .i64)) (.pair (.sl (.int .i64)) (.pair (.int .i64) (.sl (.sl (.int .i64))))))) o0_1]), (1, .rc [.int .i64 r])]) := he
  refine ⟨rfl, rfl, ?_⟩
  obtain ⟨r1_, hr, he⟩ := ok_bind he
  refine ⟨r1_, hr, ?_⟩
  refine loop_model mixed tys_ok t_impl_each__impl_CountModel_1 (S := Int × (List Int)) (I := (fun (cap, cells2) => (envOf [(0, .c (.imm (.int .i64) sizes)), (2, .c (.fn 135 [0, 1])), (6, .c (.own 10000000 false))], [(0, .rc [.imm (.int .i64) (o0_0, o0_1).1, .imm (.pair (.int .i64) (.pair (.sl (.int .i64)) (.pair (.sl (.int .i64)) (.pair (.int .i64) (.sl (.sl (.int .i64))))))) (o0_0, o0_1).2]), (1, .rc [.int .i64 cap]), (10000000, .sl 3 (.int .i64) cells2 .shallow)]))) (f := impl_each__impl_CountModel_1_l1 sizes (o0_0, o0_1)) (K := (fun r => k (.tup []) [(0, .rc [.imm (.int .i64) o0_0, .imm (.pair (.int .i64) (.pair (.sl (.int .i64)) (.pair (.sl (.int .i64)) (.pair (.int .i64) (.sl (.sl (.int .i64))))))) o0_1]), (1, .rc [.int .i64 r])])) he (leads_ren [(10000000, 10900)] (l := [(0, .c (.imm (.int .i64) sizes)), (2, .c (.fn 135 [0, 1])), (6, .c (.own 10000000 false))]) (st' := [(0, .rc [.imm (.int .i64) (o0_0, o0_1).1, .imm (.pair (.int .i64) (.pair (.sl (.int .i64)) (.pair (.sl (.int .i64)) (.pair (.int .i64) (.sl (.sl (.int .i64))))))) (o0_0, o0_1).2]), (1, .rc [.int .i64 o1]), (10000000, .sl 3 (.int .i64) r1_ .shallow)]) rfl rfl ⟨⟨.inl rfl, .inl rfl, trivial⟩, ⟨rfl, trivial⟩, ⟨rfl, rfl⟩, trivial⟩ ⟨.inl rfl, ⟨rfl, ⟨⟨rfl, rfl⟩, ⟨⟨rfl, rfl⟩, trivial⟩⟩⟩, ⟨⟨rfl, rfl⟩, trivial⟩, trivial⟩) ?_
  rintro ⟨cap, cells2⟩ J1 he
  obtain ⟨r3_, hr, he⟩ := ok_bind he
  refine ⟨r3_, hr, ?_⟩
  refine And.intro (fun hb => ?_) (fun hb => ?_)
  · have he := ok_t he hb
    have he := ok_rq he
    refine And.intro he.1 ?_
    have he := he.2
    refine seq_model mixed tys_ok t_impl_each__impl_CountModel_1 (S := Int × (List Int)) (I := (fun (i3, cells4) => (envOf [(0, .c (.imm (.int .i64) sizes)), (2, .c (.fn 135 [0, 1])), (6, .c (.own 10004000 false)), (7, .c (.int .i64 i3))], [(0, .rc [.imm (.int .i64) (o0_0, o0_1).1, .imm (.pair (.int .i64) (.pair (.sl (.int .i64)) (.pair (.sl (.int .i64)) (.pair (.int .i64) (.sl (.sl (.int .i64))))))) (o0_0, o0_1).2]), (1, .rc [.int .i64 r3_.2]), (10004000, .sl 3 (.int .i64) cells4 .shallow)]))) (B := fun s => Ok (impl_each__impl_CountModel_1_j1 r3_ s) (LK J1 (fun r => k (.tup []) [(0, .rc [.imm (.int .i64) o0_0, .imm (.pair (.int .i64) (.pair (.sl (.int .i64)) (.pair (.sl (.int .i64)) (.pair (.int .i64) (.sl (.sl (.int .i64))))))) o0_1]), (1, .rc [.int .i64 r])]))) ?_ ?_
    · rintro ⟨i3, cells4⟩ he
      refine And.intro (fun hb => ?_) (fun hb => ?_)
      · have he := ok_t he hb
        have he := ok_some he
        exact ⟨rfl, _, _, (leads_ren [] (l := []) (st' := [(0, .rc [.imm (.int .i64) o0_0, .imm (.pair (.int .i64) (.pair (.sl (.int .i64)) (.pair (.sl (.int .i64)) (.pair (.int .i64) (.sl (.sl (.int .i64))))))) o0_1]), (1, .rc [.int .i64 r3_.2])]) rfl rfl ⟨⟨.inl rfl, .inl rfl, trivial⟩, ⟨rfl, trivial⟩, trivial⟩ trivial), he⟩
      · have he := ok_f he hb
        have he := ok_rq he
        refine And.intro he.1 ?_
        have he := he.2
        have he := ok_rq he
        refine And.intro he.1 ?_
        have he := he.2
        have he := ok_rq he
        refine And.intro he.1 ?_
        have he := he.2
        have he := ok_some he
        exact ⟨(r3_.2, (cells4.set i3.toNat ((cells4.getD i3.toNat 0) + (1:Int)))), he, (leads_ren [(10000000, 10004000)] (l := [(0, .c (.imm (.int .i64) sizes)), (2, .c (.fn 135 [0, 1])), (6, .c (.own 10000000 false))]) (st' := [(0, .rc [.imm (.int .i64) (o0_0, o0_1).1, .imm (.pair (.int .i64) (.pair (.sl (.int .i64)) (.pair (.sl (.int .i64)) (.pair (.int .i64) (.sl (.sl (.int .i64))))))) (o0_0, o0_1).2]), (1, .rc [.int .i64 r3_.2]), (10000000, .sl 3 (.int .i64) (cells4.set i3.toNat ((cells4.getD i3.toNat 0) + (1:Int))) .shallow)]) rfl rfl ⟨⟨.inl rfl, .inl rfl, trivial⟩, ⟨rfl, trivial⟩, ⟨rfl, rfl⟩, trivial⟩ ⟨.inl rfl, ⟨rfl, ⟨⟨rfl, rfl⟩, ⟨⟨rfl, rfl⟩, trivial⟩⟩⟩, ⟨⟨rfl, rfl⟩, trivial⟩, trivial⟩)⟩
    · skip
      refine loop_model mixed tys_ok t_impl_each__impl_CountModel_1 (S := Int × (List Int)) (I := (fun (i2, cells3) => (envOf [(0, .c (.imm (.int .i64) sizes)), (2, .c (.fn 135 [0, 1])), (6, .c (.own 10003000 false)), (7, .c (.int .i64 i2))], [(0, .rc [.imm (.int .i64) (o0_0, o0_1).1, .imm (.pair (.int .i64) (.pair (.sl (.int .i64)) (.pair (.sl (.int .i64)) (.pair (.int .i64) (.sl (.sl (.int .i64))))))) (o0_0, o0_1).2]), (1, .rc [.int .i64 r3_.2]), (10003000, .sl 3 (.int .i64) cells3 .shallow)]))) (f := impl_each__impl_CountModel_1_l2 sizes r3_) (K := (LK J1 (fun r => k (.tup []) [(0, .rc [.imm (.int .i64) o0_0, .imm (.pair (.int .i64) (.pair (.sl (.int .i64)) (.pair (.sl (.int .i64)) (.pair (.int .i64) (.sl (.sl (.int .i64))))))) o0_1]), (1, .rc [.int .i64 r])]))) he (leads_ren [(10003000, 10000000)] (l := [(0, .c (.imm (.int .i64) sizes)), (2, .c (.fn 135 [0, 1])), (6, .c (.own 10003000 false)), (7, .c (.int .i64 ((cells2.length:Int) - (1:Int))))]) (st' := [(0, .rc [.imm (.int .i64) (o0_0, o0_1).1, .imm (.pair (.int .i64) (.pair (.sl (.int .i64)) (.pair (.sl (.int .i64)) (.pair (.int .i64) (.sl (.sl (.int .i64))))))) (o0_0, o0_1).2]), (1, .rc [.int .i64 r3_.2]), (10003000, .sl 3 (.int .i64) cells2 .shallow)]) rfl rfl ⟨⟨.inl rfl, .inl rfl, trivial⟩, ⟨rfl, trivial⟩, ⟨rfl, rfl⟩, trivial⟩ ⟨.inl rfl, ⟨rfl, ⟨⟨rfl, rfl⟩, ⟨⟨rfl, rfl⟩, trivial⟩⟩⟩, ⟨⟨rfl, rfl⟩, trivial⟩, rfl, trivial⟩) ?_
      rintro ⟨i2, cells3⟩ J2 he
      refine And.intro (by kernel_rfl) ?_
      refine And.intro (fun hb => ?_) (fun hb => ?_)
      · have he := ok_t he hb
        have he := ok_rq he
        refine And.intro he.1 ?_
        have he := he.2
        have he := ok_rq he
        refine And.intro he.1 ?_
        have he := he.2
        refine And.intro (fun hb => ?_) (fun hb => ?_)
        · have he := ok_t he hb
          have he := ok_rq he
          refine And.intro he.1 ?_
          have he := he.2
          have he := ok_rq he
          refine And.intro he.1 ?_
          have he := he.2
          have he := ok_some he
          exact ⟨((i2 - (1:Int)), (cells3.set i2.toNat (0:Int))), he, (leads_ren [] (l := [(0, .c (.imm (.int .i64) sizes)), (2, .c (.fn 135 [0, 1])), (6, .c (.own 10003000 false)), (7, .c (.int .i64 (i2 - (1:Int))))]) (st' := [(0, .rc [.imm (.int .i64) (o0_0, o0_1).1, .imm (.pair (.int .i64) (.pair (.sl (.int .i64)) (.pair (.sl (.int .i64)) (.pair (.int .i64) (.sl (.sl (.int .i64))))))) (o0_0, o0_1).2]), (1, .rc [.int .i64 r3_.2]), (10003000, .sl 3 (.int .i64) (cells3.set i2.toNat (0:Int)) .shallow)]) rfl rfl ⟨⟨.inl rfl, .inl rfl, trivial⟩, ⟨rfl, trivial⟩, ⟨rfl, rfl⟩, trivial⟩ ⟨.inl rfl, ⟨rfl, ⟨⟨rfl, rfl⟩, ⟨⟨rfl, rfl⟩, trivial⟩⟩⟩, ⟨⟨rfl, rfl⟩, trivial⟩, rfl, trivial⟩)⟩
        · have he := ok_f he hb
          exact ⟨(i2, cells3), ok_up he, (leads_ren [(10004000, 10003000)] (l := [(0, .c (.imm (.int .i64) sizes)), (2, .c (.fn 135 [0, 1])), (6, .c (.own 10004000 false)), (7, .c (.int .i64 i2))]) (st' := [(0, .rc [.imm (.int .i64) (o0_0, o0_1).1, .imm (.pair (.int .i64) (.pair (.sl (.int .i64)) (.pair (.sl (.int .i64)) (.pair (.int .i64) (.sl (.sl (.int .i64))))))) (o0_0, o0_1).2]), (1, .rc [.int .i64 r3_.2]), (10004000, .sl 3 (.int .i64) cells3 .shallow)]) rfl rfl ⟨⟨.inl rfl, .inl rfl, trivial⟩, ⟨rfl, trivial⟩, ⟨rfl, rfl⟩, trivial⟩ ⟨.inl rfl, ⟨rfl, ⟨⟨rfl, rfl⟩, ⟨⟨rfl, rfl⟩, trivial⟩⟩⟩, ⟨⟨rfl, rfl⟩, trivial⟩, rfl, trivial⟩)⟩
      · have he := ok_f he hb
        exact ⟨(i2, cells3), ok_up he, (leads_ren [(10004000, 10003000)] (l := [(0, .c (.imm (.int .i64) sizes)), (2, .c (.fn 135 [0, 1])), (6, .c (.own 10004000 false)), (7, .c (.int .i64 i2))]) (st' := [(0, .rc [.imm (.int .i64) (o0_0, o0_1).1, .imm (.pair (.int .i64) (.pair (.sl (.int .i64)) (.pair (.sl (.int .i64)) (.pair (.int .i64) (.sl (.sl (.int .i64))))))) (o0_0, o0_1).2]), (1, .rc [.int .i64 r3_.2]), (10004000, .sl 3 (.int .i64) cells3 .shallow)]) rfl rfl ⟨⟨.inl rfl, .inl rfl, trivial⟩, ⟨rfl, trivial⟩, ⟨rfl, rfl⟩, trivial⟩ ⟨.inl rfl, ⟨rfl, ⟨⟨rfl, rfl⟩, ⟨⟨rfl, rfl⟩, trivial⟩⟩⟩, ⟨⟨rfl, rfl⟩, trivial⟩, rfl, trivial⟩)⟩
  · have he := ok_f he hb
    have he := ok_some he
    exact ⟨rfl, _, _, (leads_ren [] (l := []) (st' := [(0, .rc [.imm (.int .i64) o0_0, .imm (.pair (.int .i64) (.pair (.sl (.int .i64)) (.pair (.sl (.int .i64)) (.pair (.int .i64) (.sl (.sl (.int .i64))))))) o0_1]), (1, .rc [.int .i64 r3_.2])]) rfl rfl ⟨⟨.inl rfl, .inl rfl, trivial⟩, ⟨rfl, trivial⟩, trivial⟩ trivial), he⟩

noncomputable def c_impl_CountModel : Con := fun args st => match args, st with
  | [.agg [.imm (.int .i64) m_0, .imm (.pair (.int .i64) (.pair (.sl (.int .i64)) (.pair (.sl (.int .i64)) (.pair (.int .i64) (.sl (.sl (.int .i64))))))) m_1]], [] => .opt (Int) (impl_CountModel (m_0, m_1)) (fun r => .ret (.c (.int .i64 r)) [])
  | _, _ => .fail

noncomputable def C_impl_CountModel : Cfg := { y := tys, n := 16, h := 0, tab := [(39, c_impl_ModelValid), (134, c_impl_each__impl_CountModel_1)], cut := [5], hand := [], good := [], deep := [], sched := [(4, (.first 0 (.first 2 (.alt 1 (.alt 3 (.first 4 (.alt 5 (.alt 6 (.alt 7 .done .stop) .stop) (.alt 6 (.alt 5 (.alt 7 .done .stop) .stop) .stop))) (.alt 6 (.alt 3 (.first 4 (.alt 5 (.alt 7 .done .stop) .stop)) .stop) .stop)) (.alt 3 (.first 4 (.alt 1 (.alt 5 (.alt 6 (.alt 7 .done .stop) .stop) (.alt 6 (.alt 5 (.alt 7 .done .stop) .stop) .stop)) (.alt 5 (.alt 1 (.alt 6 (.alt 7 .done .stop) .stop) (.alt 6 (.alt 1 (.alt 7 .done .stop) .stop) .stop)) (.alt 6 (.alt 1 (.alt 5 (.alt 7 .done .stop) .stop) (.alt 5 (.alt 1 (.alt 7 .done .stop) .stop) .stop)) .stop)))) (.alt 6 (.alt 1 (.alt 3 (.first 4 (.alt 5 (.alt 7 .done .stop) .stop)) .stop) (.alt 3 (.first 4 (.alt 1 (.alt 5 (.alt 7 .done .stop) .stop) (.alt 5 (.alt 1 (.alt 7 .done .stop) .stop) .stop))) .stop)) .stop))))))] }

theorem t_impl_CountModel : TabOk Try.prog C_impl_CountModel := by
  refine tabOk_of ?_
  simp only [C_impl_CountModel, List.forall_mem_cons]
  exact ⟨k_impl_ModelValid, k_impl_each__impl_CountModel_1, fun p h => by cases h⟩

theorem k_impl_CountModel : Entry Try.prog 41 c_impl_CountModel := by
  refine entry_by (C := C_impl_CountModel) mixed tys_ok t_impl_CountModel (fn := Try.f41) (c := bd Try.f41) (by kernel_rfl) (by kernel_rfl) (by kernel_rfl) (by kernel_rfl) ?_
  intro args st k he
  unfold c_impl_CountModel at he
  split at he
  rotate_left
  · exact he.elim
  rename_i m_0 m_1
  have he : Ok (impl_CountModel (m_0, m_1)) (fun r => k (.c (.int .i64 r)) []) := he
  refine ⟨rfl, rfl, ?_⟩
  obtain ⟨r1_, hr, he⟩ := ok_bind he
  refine ⟨r1_, hr, ?_⟩
  refine And.intro (fun hb => ?_) (fun hb => ?_)
  · have he := ok_t he hb
    have he := ok_some he
    exact ⟨rfl, _, _, (leads_ren [] (l := [(2, .c (.int .i64 (0:Int)))]) (st' := []) rfl rfl trivial ⟨rfl, trivial⟩), he⟩
  · have he := ok_f he hb
    refine seq_model mixed tys_ok t_impl_CountModel (S := Int) (I := (fun count => (envOf [(3, .c (.ptr 10000000 0))], [(10000000, .rc [.int .i64 count])]))) (B := fun s => Ok (impl_CountModel_j1 s) (fun r => k (.c (.int .i64 r)) [])) ?_ ?_
    · rintro count he
      have he := ok_some he
      exact ⟨rfl, _, _, (leads_ren [] (l := [(2, .c (.int .i64 count))]) (st' := []) rfl rfl trivial ⟨rfl, trivial⟩), he⟩
    · skip
      refine And.intro (by kernel_rfl) ?_
      have he := ok_rq he
      have hq1 := he.1
      have he := he.2
      obtain ⟨r3_, hq2, he⟩ := ok_bind he
      refine And.intro ?_ (And.intro ?_ (And.intro ?_ (trivial)))
      · skip
        refine And.intro ?_ (And.intro ?_ (trivial))
        · skip
          refine And.intro ?_ (And.intro ?_ (trivial))
          · skip
            refine And.intro hq1 ?_
            refine And.intro ?_ trivial
            refine And.intro ?_ trivial
            refine ⟨r3_, hq2, ?_⟩
            exact ⟨r3_, he, (leads_ren [(10000000, 3)] (l := [(3, .c (.ptr 10000000 0))]) (st' := [(10000000, .rc [.int .i64 r3_])]) rfl rfl ⟨⟨rfl, trivial⟩, trivial⟩ ⟨⟨⟨rfl, rfl⟩, rfl⟩, trivial⟩)⟩
          · skip
            refine And.intro ?_ trivial
            refine And.intro hq1 ?_
            refine And.intro ?_ trivial
            refine ⟨r3_, hq2, ?_⟩
            exact ⟨r3_, he, (leads_ren [(10000000, 3)] (l := [(3, .c (.ptr 10000000 0))]) (st' := [(10000000, .rc [.int .i64 r3_])]) rfl rfl ⟨⟨rfl, trivial⟩, trivial⟩ ⟨⟨⟨rfl, rfl⟩, rfl⟩, trivial⟩)⟩
        · skip
          refine And.intro ?_ trivial
          refine And.intro ?_ trivial
          refine And.intro hq1 ?_
          refine And.intro ?_ trivial
          refine ⟨r3_, hq2, ?_⟩
          exact ⟨r3_, he, (leads_ren [(10000000, 3)] (l := [(3, .c (.ptr 10000000 0))]) (st' := [(10000000, .rc [.int .i64 r3_])]) rfl rfl ⟨⟨rfl, trivial⟩, trivial⟩ ⟨⟨⟨rfl, rfl⟩, rfl⟩, trivial⟩)⟩
      · skip
        refine And.intro ?_ (And.intro ?_ (And.intro ?_ (trivial)))
        · skip
          refine And.intro ?_ (And.intro ?_ (trivial))
          · skip
            refine And.intro hq1 ?_
            refine And.intro ?_ trivial
            refine And.intro ?_ trivial
            refine ⟨r3_, hq2, ?_⟩
            exact ⟨r3_, he, (leads_ren [(10000000, 3)] (l := [(3, .c (.ptr 10000000 0))]) (st' := [(10000000, .rc [.int .i64 r3_])]) rfl rfl ⟨⟨rfl, trivial⟩, trivial⟩ ⟨⟨⟨rfl, rfl⟩, rfl⟩, trivial⟩)⟩
          · skip
            refine And.intro ?_ trivial
            refine And.intro hq1 ?_
            refine And.intro ?_ trivial
            refine ⟨r3_, hq2, ?_⟩
            exact ⟨r3_, he, (leads_ren [(10000000, 3)] (l := [(3, .c (.ptr 10000000 0))]) (st' := [(10000000, .rc [.int .i64 r3_])]) rfl rfl ⟨⟨rfl, trivial⟩, trivial⟩ ⟨⟨⟨rfl, rfl⟩, rfl⟩, trivial⟩)⟩
        · skip
          refine And.intro hq1 ?_
          refine And.intro ?_ (And.intro ?_ (trivial))
          · skip
            refine And.intro ?_ trivial
            refine And.intro ?_ trivial
            refine ⟨r3_, hq2, ?_⟩
            exact ⟨r3_, he, (leads_ren [(10000000, 3)] (l := [(3, .c (.ptr 10000000 0))]) (st' := [(10000000, .rc [.int .i64 r3_])]) rfl rfl ⟨⟨rfl, trivial⟩, trivial⟩ ⟨⟨⟨rfl, rfl⟩, rfl⟩, trivial⟩)⟩
          · skip
            refine And.intro ?_ trivial
            refine And.intro ?_ trivial
            refine ⟨r3_, hq2, ?_⟩
            exact ⟨r3_, he, (leads_ren [(10000000, 3)] (l := [(3, .c (.ptr 10000000 0))]) (st' := [(10000000, .rc [.int .i64 r3_])]) rfl rfl ⟨⟨rfl, trivial⟩, trivial⟩ ⟨⟨⟨rfl, rfl⟩, rfl⟩, trivial⟩)⟩
        · skip
          refine And.intro ?_ (And.intro ?_ (trivial))
          · skip
            refine And.intro ?_ trivial
            refine And.intro hq1 ?_
            refine And.intro ?_ trivial
            refine ⟨r3_, hq2, ?_⟩
            exact ⟨r3_, he, (leads_ren [(10000000, 3)] (l := [(3, .c (.ptr 10000000 0))]) (st' := [(10000000, .rc [.int .i64 r3_])]) rfl rfl ⟨⟨rfl, trivial⟩, trivial⟩ ⟨⟨⟨rfl, rfl⟩, rfl⟩, trivial⟩)⟩
          · skip
            refine And.intro hq1 ?_
            refine And.intro ?_ trivial
            refine And.intro ?_ trivial
            refine ⟨r3_, hq2, ?_⟩
            exact ⟨r3_, he, (leads_ren [(10000000, 3)] (l := [(3, .c (.ptr 10000000 0))]) (st' := [(10000000, .rc [.int .i64 r3_])]) rfl rfl ⟨⟨rfl, trivial⟩, trivial⟩ ⟨⟨⟨rfl, rfl⟩, rfl⟩, trivial⟩)⟩
      · skip
        refine And.intro ?_ (And.intro ?_ (trivial))
        · skip
          refine And.intro ?_ trivial
          refine And.intro ?_ trivial
          refine And.intro hq1 ?_
          refine And.intro ?_ trivial
          refine ⟨r3_, hq2, ?_⟩
          exact ⟨r3_, he, (leads_ren [(10000000, 3)] (l := [(3, .c (.ptr 10000000 0))]) (st' := [(10000000, .rc [.int .i64 r3_])]) rfl rfl ⟨⟨rfl, trivial⟩, trivial⟩ ⟨⟨⟨rfl, rfl⟩, rfl⟩, trivial⟩)⟩
        · skip
          refine And.intro ?_ (And.intro ?_ (trivial))
          · skip
            refine And.intro ?_ trivial
            refine And.intro hq1 ?_
            refine And.intro ?_ trivial
            refine ⟨r3_, hq2, ?_⟩
            exact ⟨r3_, he, (leads_ren [(10000000, 3)] (l := [(3, .c (.ptr 10000000 0))]) (st' := [(10000000, .rc [.int .i64 r3_])]) rfl rfl ⟨⟨rfl, trivial⟩, trivial⟩ ⟨⟨⟨rfl, rfl⟩, rfl⟩, trivial⟩)⟩
          · skip
            refine And.intro hq1 ?_
            refine And.intro ?_ trivial
            refine And.intro ?_ trivial
            refine ⟨r3_, hq2, ?_⟩
            exact ⟨r3_, he, (leads_ren [(10000000, 3)] (l := [(3, .c (.ptr 10000000 0))]) (st' := [(10000000, .rc [.int .i64 r3_])]) rfl rfl ⟨⟨rfl, trivial⟩, trivial⟩ ⟨⟨⟨rfl, rfl⟩, rfl⟩, trivial⟩)⟩

noncomputable def c_laws_FnPermuteModel : Con := fun args st => match args, st with
  | [.c (.imm (.int .u8) a0)], [] => .opt (Bool) (laws_FnPermuteModel a0) (fun r => .ret (.c (.bool r)) [])
  | _, _ => .fail

noncomputable def C_laws_FnPermuteModel : Cfg := { y := tys, n := 83, h := 0, tab := [(34, c_spec_DrawPermuteCells), (35, c_impl_PermuteModel), (36, c_spec_PermuteModel), (37, c_impl_PermuteCells), (38, c_impl_ModelSame), (39, c_impl_ModelValid), (40, c_impl_SolvesModel), (41, c_impl_CountModel)], cut := [], hand := [], good := [], deep := [], sched := [(9, (.alt 0 (.alt 1 (.first 2 (.first 4 (.first 7 (.alt 3 (.alt 5 (.alt 6 (.alt 8 (.first 9 (.first 10 (.first 11 (.alt 12 (.alt 13 (.alt 14 (.alt 15 (.first 16 (.first 17 (.first 18 .done))) .stop) .stop) (.alt 14 (.alt 13 (.alt 15 (.first 16 (.first 17 (.first 18 .done))) .stop) .stop) .stop)) (.alt 14 (.alt 12 (.alt 13 (.alt 15 (.first 16 (.first 17 (.first 18 .done))) .stop) .stop) .stop) .stop))))) .stop) .stop) (.alt 6 (.alt 5 (.alt 8 (.first 9 (.first 10 (.first 11 (.alt 12 (.alt 13 (.alt 14 (.alt 15 (.first 16 (.first 17 (.first 18 .done))) .stop) .stop) (.alt 14 (.alt 13 (.alt 15 (.first 16 (.first 17 (.first 18 .done))) .stop) .stop) .stop)) (.alt 14 (.alt 12 (.alt 13 (.alt 15 (.first 16 (.first 17 (.first 18 .done))) .stop) .stop) .stop) .stop))))) .stop) .stop) .stop)) (.alt 6 (.alt 3 (.alt 5 (.alt 8 (.first 9 (.first 10 (.first 11 (.alt 12 (.alt 13 (.alt 14 (.alt 15 (.first 16 (.first 17 (.first 18 .done))) .stop) .stop) (.alt 14 (.alt 13 (.alt 15 (.first 16 (.first 17 (.first 18 .done))) .stop) .stop) .stop)) (.alt 14 (.alt 12 (.alt 13 (.alt 15 (.first 16 (.first 17 (.first 18 .done))) .stop) .stop) .stop) .stop))))) .stop) .stop) .stop) .stop))))) .stop) .stop))] }

theorem t_laws_FnPermuteModel : TabOk Try.prog C_laws_FnPermuteModel := by
  refine tabOk_of ?_
  simp only [C_laws_FnPermuteModel, List.forall_mem_cons]
  exact ⟨k_spec_DrawPermuteCells, k_impl_PermuteModel, k_spec_PermuteModel, k_impl_PermuteCells, k_impl_ModelSame, k_impl_ModelValid, k_impl_SolvesModel, k_impl_CountModel, fun p h => by cases h⟩

theorem k_laws_FnPermuteModel : Entry Try.prog 5 c_laws_FnPermuteModel := by
  refine entry_by (C := C_laws_FnPermuteModel) mixed tys_ok t_laws_FnPermuteModel (fn := Try.f5) (c := bd Try.f5) (by kernel_rfl) (by kernel_rfl) (by kernel_rfl) (by kernel_rfl) ?_
  intro args st k he
  unfold c_laws_FnPermuteModel at he
  split at he
  rotate_left
  · exact he.elim
  rename_i a0
  have he : Ok (laws_FnPermuteModel a0) (fun r => k (.c (.bool r)) []) := he
  refine ⟨rfl, rfl, ?_⟩
  refine And.intro (fun hb => ?_) (fun hb => ?_)
  · have he := ok_t he hb
    have he := ok_some he
    exact ⟨rfl, _, _, Leads.refl _ _, he⟩
  · have he := ok_f he hb
    obtain ⟨r1_, hr, he⟩ := ok_bind he
    refine ⟨r1_, hr, ?_⟩
    obtain ⟨r2_, hr, he⟩ := ok_bind he
    refine ⟨r2_, hr, ?_⟩
    obtain ⟨r3_, hr, he⟩ := ok_bind he
    refine ⟨r3_, hr, ?_⟩
    obtain ⟨r4_, hr, he⟩ := ok_bind he
    refine ⟨r4_, hr, ?_⟩
    refine And.intro (fun hb => ?_) (fun hb => ?_)
    · have he := ok_f he hb
      obtain ⟨r5_, hr, he⟩ := ok_bind he
      refine ⟨r5_, hr, ?_⟩
      refine And.intro (fun hb => ?_) (fun hb => ?_)
      · have he := ok_f he hb
        refine And.intro (fun hb => ?_) (fun hb => ?_)
        · have he := ok_f he hb
          refine And.intro (fun hb => ?_) (fun hb => ?_)
          · have he := ok_t he hb
            refine And.intro (fun hb => ?_) (fun hb => ?_)
            · have he := ok_t he hb
              obtain ⟨r6_, hr, he⟩ := ok_bind he
              refine ⟨r6_, hr, ?_⟩
              have he := ok_some he
              exact ⟨rfl, _, _, (leads_ren [] (l := [(2, .c (.bool r6_))]) (st' := []) rfl rfl trivial ⟨.inl rfl, trivial⟩), he⟩
            · have he := ok_f he hb
              have he := ok_some he
              exact ⟨rfl, _, _, (leads_ren [] (l := [(2, .c (.bool false))]) (st' := []) rfl rfl trivial ⟨.inr rfl, trivial⟩), he⟩
          · have he := ok_f he hb
            refine And.intro (by kernel_rfl) ?_
            refine And.intro ?_ trivial
            refine And.intro ?_ trivial
            obtain ⟨r15_, hr, he⟩ := ok_bind he
            refine ⟨r15_, hr, ?_⟩
            refine And.intro (fun hb => ?_) (fun hb => ?_)
            · have he := ok_t he hb
              obtain ⟨r16_, hq1, he⟩ := ok_bind he
              obtain ⟨r17_, hq2, he⟩ := ok_bind he
              refine And.intro ?_ (And.intro ?_ (trivial))
              · skip
                refine And.intro ?_ (And.intro ?_ (trivial))
                · skip
                  refine ⟨r16_, hq1, ?_⟩
                  refine And.intro ?_ trivial
                  refine And.intro ?_ trivial
                  refine ⟨r17_, hq2, ?_⟩
                  refine And.intro ?_ (And.intro ?_ (trivial))
                  · skip
                    refine And.intro (fun hb => ?_) (fun hb => ?_)
                    · have he := ok_t he hb
                      obtain ⟨r18_, hq1, he⟩ := ok_bind he
                      obtain ⟨r19_, hq2, he⟩ := ok_bind he
                      refine And.intro ?_ (And.intro ?_ (trivial))
                      · skip
                        refine ⟨r18_, hq1, ?_⟩
                        refine And.intro ?_ trivial
                        refine And.intro ?_ trivial
                        refine ⟨r19_, hq2, ?_⟩
                        have he := ok_some he
                        exact ⟨rfl, _, _, (leads_ren [] (l := [(2, .c (.bool (r18_ == r19_)))]) (st' := []) rfl rfl trivial ⟨.inl rfl, trivial⟩), he⟩
                      · skip
                        refine And.intro ?_ trivial
                        refine ⟨r18_, hq1, ?_⟩
                        refine And.intro ?_ trivial
                        refine ⟨r19_, hq2, ?_⟩
                        have he := ok_some he
                        exact ⟨rfl, _, _, (leads_ren [] (l := [(2, .c (.bool (r18_ == r19_)))]) (st' := []) rfl rfl trivial ⟨.inl rfl, trivial⟩), he⟩
                    · have he := ok_f he hb
                      refine And.intro ?_ (And.intro ?_ (trivial))
                      · skip
                        refine And.intro ?_ trivial
                        refine And.intro ?_ trivial
                        have he := ok_some he
                        exact ⟨rfl, _, _, (leads_ren [] (l := [(2, .c (.bool false))]) (st' := []) rfl rfl trivial ⟨.inr rfl, trivial⟩), he⟩
                      · skip
                        refine And.intro ?_ trivial
                        refine And.intro ?_ trivial
                        have he := ok_some he
                        exact ⟨rfl, _, _, (leads_ren [] (l := [(2, .c (.bool false))]) (st' := []) rfl rfl trivial ⟨.inr rfl, trivial⟩), he⟩
                  · skip
                    refine And.intro (fun hb => ?_) (fun hb => ?_)
                    · have he := ok_t he hb
                      refine And.intro ?_ trivial
                      refine And.intro ?_ trivial
                      obtain ⟨r18_, hr, he⟩ := ok_bind he
                      refine ⟨r18_, hr, ?_⟩
                      refine And.intro ?_ trivial
                      obtain ⟨r19_, hr, he⟩ := ok_bind he
                      refine ⟨r19_, hr, ?_⟩
                      have he := ok_some he
                      exact ⟨rfl, _, _, (leads_ren [] (l := [(2, .c (.bool (r18_ == r19_)))]) (st' := []) rfl rfl trivial ⟨.inl rfl, trivial⟩), he⟩
                    · have he := ok_f he hb
                      refine And.intro ?_ trivial
                      refine And.intro ?_ trivial
                      refine And.intro ?_ trivial
                      have he := ok_some he
                      exact ⟨rfl, _, _, (leads_ren [] (l := [(2, .c (.bool false))]) (st' := []) rfl rfl trivial ⟨.inr rfl, trivial⟩), he⟩
                · skip
                  refine And.intro ?_ trivial
                  refine ⟨r16_, hq1, ?_⟩
                  refine And.intro ?_ trivial
                  refine ⟨r17_, hq2, ?_⟩
                  refine And.intro ?_ (And.intro ?_ (trivial))
                  · skip
                    refine And.intro (fun hb => ?_) (fun hb => ?_)
                    · have he := ok_t he hb
                      obtain ⟨r18_, hq1, he⟩ := ok_bind he
                      obtain ⟨r19_, hq2, he⟩ := ok_bind he
                      refine And.intro ?_ (And.intro ?_ (trivial))
                      · skip
                        refine ⟨r18_, hq1, ?_⟩
                        refine And.intro ?_ trivial
                        refine And.intro ?_ trivial
                        refine ⟨r19_, hq2, ?_⟩
                        have he := ok_some he
                        exact ⟨rfl, _, _, (leads_ren [] (l := [(2, .c (.bool (r18_ == r19_)))]) (st' := []) rfl rfl trivial ⟨.inl rfl, trivial⟩), he⟩
                      · skip
                        refine And.intro ?_ trivial
                        refine ⟨r18_, hq1, ?_⟩
                        refine And.intro ?_ trivial
                        refine ⟨r19_, hq2, ?_⟩
                        have he := ok_some he
                        exact ⟨rfl, _, _, (leads_ren [] (l := [(2, .c (.bool (r18_ == r19_)))]) (st' := []) rfl rfl trivial ⟨.inl rfl, trivial⟩), he⟩
                    · have he := ok_f he hb
                      refine And.intro ?_ (And.intro ?_ (trivial))
                      · skip
                        refine And.intro ?_ trivial
                        refine And.intro ?_ trivial
                        have he := ok_some he
                        exact ⟨rfl, _, _, (leads_ren [] (l := [(2, .c (.bool false))]) (st' := []) rfl rfl trivial ⟨.inr rfl, trivial⟩), he⟩
                      · skip
                        refine And.intro ?_ trivial
                        refine And.intro ?_ trivial
                        have he := ok_some he
                        exact ⟨rfl, _, _, (leads_ren [] (l := [(2, .c (.bool false))]) (st' := []) rfl rfl trivial ⟨.inr rfl, trivial⟩), he⟩
                  · skip
                    refine And.intro (fun hb => ?_) (fun hb => ?_)
                    · have he := ok_t he hb
                      refine And.intro ?_ trivial
                      refine And.intro ?_ trivial
                      obtain ⟨r18_, hr, he⟩ := ok_bind he
                      refine ⟨r18_, hr, ?_⟩
                      refine And.intro ?_ trivial
                      obtain ⟨r19_, hr, he⟩ := ok_bind he
                      refine ⟨r19_, hr, ?_⟩
                      have he := ok_some he
                      exact ⟨rfl, _, _, (leads_ren [] (l := [(2, .c (.bool (r18_ == r19_)))]) (st' := []) rfl rfl trivial ⟨.inl rfl, trivial⟩), he⟩
                    · have he := ok_f he hb
                      refine And.intro ?_ trivial
                      refine And.intro ?_ trivial
                      refine And.intro ?_ trivial
                      have he := ok_some he
                      exact ⟨rfl, _, _, (leads_ren [] (l := [(2, .c (.bool false))]) (st' := []) rfl rfl trivial ⟨.inr rfl, trivial⟩), he⟩
              · skip
                refine And.intro ?_ trivial
                refine And.intro ?_ trivial
                refine ⟨r16_, hq1, ?_⟩
                refine And.intro ?_ trivial
                refine ⟨r17_, hq2, ?_⟩
                refine And.intro ?_ (And.intro ?_ (trivial))
                · skip
                  refine And.intro (fun hb => ?_) (fun hb => ?_)
                  · have he := ok_t he hb
                    obtain ⟨r18_, hq1, he⟩ := ok_bind he
                    obtain ⟨r19_, hq2, he⟩ := ok_bind he
                    refine And.intro ?_ (And.intro ?_ (trivial))
                    · skip
                      refine ⟨r18_, hq1, ?_⟩
                      refine And.intro ?_ trivial
                      refine And.intro ?_ trivial
                      refine ⟨r19_, hq2, ?_⟩
                      have he := ok_some he
                      exact ⟨rfl, _, _, (leads_ren [] (l := [(2, .c (.bool (r18_ == r19_)))]) (st' := []) rfl rfl trivial ⟨.inl rfl, trivial⟩), he⟩
                    · skip
                      refine And.intro ?_ trivial
                      refine ⟨r18_, hq1, ?_⟩
                      refine And.intro ?_ trivial
                      refine ⟨r19_, hq2, ?_⟩
                      have he := ok_some he
                      exact ⟨rfl, _, _, (leads_ren [] (l := [(2, .c (.bool (r18_ == r19_)))]) (st' := []) rfl rfl trivial ⟨.inl rfl, trivial⟩), he⟩
                  · have he := ok_f he hb
                    refine And.intro ?_ (And.intro ?_ (trivial))
                    · skip
                      refine And.intro ?_ trivial
                      refine And.intro ?_ trivial
                      have he := ok_some he
                      exact ⟨rfl, _, _, (leads_ren [] (l := [(2, .c (.bool false))]) (st' := []) rfl rfl trivial ⟨.inr rfl, trivial⟩), he⟩
                    · skip
                      refine And.intro ?_ trivial
                      refine And.intro ?_ trivial
                      have he := ok_some he
                      exact ⟨rfl, _, _, (leads_ren [] (l := [(2, .c (.bool false))]) (st' := []) rfl rfl trivial ⟨.inr rfl, trivial⟩), he⟩
                · skip
                  refine And.intro (fun hb => ?_) (fun hb => ?_)
                  · have he := ok_t he hb
                    refine And.intro ?_ trivial
                    refine And.intro ?_ trivial
                    obtain ⟨r18_, hr, he⟩ := ok_bind he
                    refine ⟨r18_, hr, ?_⟩
                    refine And.intro ?_ trivial
                    obtain ⟨r19_, hr, he⟩ := ok_bind he
                    refine ⟨r19_, hr, ?_⟩
                    have he := ok_some he
                    exact ⟨rfl, _, _, (leads_ren [] (l := [(2, .c (.bool (r18_ == r19_)))]) (st' := []) rfl rfl trivial ⟨.inl rfl, trivial⟩), he⟩
                  · have he := ok_f he hb
                    refine And.intro ?_ trivial
                    refine And.intro ?_ trivial
                    refine And.intro ?_ trivial
                    have he := ok_some he
                    exact ⟨rfl, _, _, (leads_ren [] (l := [(2, .c (.bool false))]) (st' := []) rfl rfl trivial ⟨.inr rfl, trivial⟩), he⟩
            · have he := ok_f he hb
              refine And.intro ?_ (And.intro ?_ (trivial))
              · skip
                refine And.intro ?_ (And.intro ?_ (trivial))
                · skip
                  refine And.intro ?_ trivial
                  refine And.intro ?_ trivial
                  refine And.intro ?_ (And.intro ?_ (trivial))
                  · skip
                    refine And.intro ?_ (And.intro ?_ (trivial))
                    · skip
                      refine And.intro ?_ trivial
                      refine And.intro ?_ trivial
                      have he := ok_some he
                      exact ⟨rfl, _, _, (leads_ren [] (l := [(2, .c (.bool false))]) (st' := []) rfl rfl trivial ⟨.inr rfl, trivial⟩), he⟩
                    · skip
                      refine And.intro ?_ trivial
                      refine And.intro ?_ trivial
                      have he := ok_some he
                      exact ⟨rfl, _, _, (leads_ren [] (l := [(2, .c (.bool false))]) (st' := []) rfl rfl trivial ⟨.inr rfl, trivial⟩), he⟩
                  · skip
                    refine And.intro ?_ trivial
                    refine And.intro ?_ trivial
                    refine And.intro ?_ trivial
                    have he := ok_some he
                    exact ⟨rfl, _, _, (leads_ren [] (l := [(2, .c (.bool false))]) (st' := []) rfl rfl trivial ⟨.inr rfl, trivial⟩), he⟩
                · skip
                  refine And.intro ?_ trivial
                  refine And.intro ?_ trivial
                  refine And.intro ?_ (And.intro ?_ (trivial))
                  · skip
                    refine And.intro ?_ (And.intro ?_ (trivial))
                    · skip
                      refine And.intro ?_ trivial
                      refine And.intro ?_ trivial
                      have he := ok_some he
                      exact ⟨rfl, _, _, (leads_ren [] (l := [(2, .c (.bool false))]) (st' := []) rfl rfl trivial ⟨.inr rfl, trivial⟩), he⟩
                    · skip
                      refine And.intro ?_ trivial
                      refine And.intro ?_ trivial
                      have he := ok_some he
                      exact ⟨rfl, _, _, (leads_ren [] (l := [(2, .c (.bool false))]) (st' := []) rfl rfl trivial ⟨.inr rfl, trivial⟩), he⟩
                  · skip
                    refine And.intro ?_ trivial
                    refine And.intro ?_ trivial
                    refine And.intro ?_ trivial
                    have he := ok_some he
                    exact ⟨rfl, _, _, (leads_ren [] (l := [(2, .c (.bool false))]) (st' := []) rfl rfl trivial ⟨.inr rfl, trivial⟩), he⟩
              · skip
                refine And.intro ?_ trivial
                refine And.intro ?_ trivial
                refine And.intro ?_ trivial
                refine And.intro ?_ (And.intro ?_ (trivial))
                · skip
                  refine And.intro ?_ (And.intro ?_ (trivial))
                  · skip
                    refine And.intro ?_ trivial
                    refine And.intro ?_ trivial
                    have he := ok_some he
                    exact ⟨rfl, _, _, (leads_ren [] (l := [(2, .c (.bool false))]) (st' := []) rfl rfl trivial ⟨.inr rfl, trivial⟩), he⟩
                  · skip
                    refine And.intro ?_ trivial
                    refine And.intro ?_ trivial
                    have he := ok_some he
                    exact ⟨rfl, _, _, (leads_ren [] (l := [(2, .c (.bool false))]) (st' := []) rfl rfl trivial ⟨.inr rfl, trivial⟩), he⟩
                · skip
                  refine And.intro ?_ trivial
                  refine And.intro ?_ trivial
                  refine And.intro ?_ trivial
                  have he := ok_some he
                  exact ⟨rfl, _, _, (leads_ren [] (l := [(2, .c (.bool false))]) (st' := []) rfl rfl trivial ⟨.inr rfl, trivial⟩), he⟩
        · have he := ok_t he hb
          refine And.intro (fun hb => ?_) (fun hb => ?_)
          · have he := ok_t he hb
            obtain ⟨r7_, hr, he⟩ := ok_bind he
            refine ⟨r7_, hr, ?_⟩
            have he := ok_some he
            exact ⟨rfl, _, _, (leads_ren [] (l := [(2, .c (.bool r7_))]) (st' := []) rfl rfl trivial ⟨.inl rfl, trivial⟩), he⟩
          · have he := ok_f he hb
            have he := ok_some he
            exact ⟨rfl, _, _, (leads_ren [] (l := [(2, .c (.bool false))]) (st' := []) rfl rfl trivial ⟨.inr rfl, trivial⟩), he⟩
      · have he := ok_t he hb
        refine And.intro (fun hb => ?_) (fun hb => ?_)
        · have he := ok_t he hb
          obtain ⟨r8_, hr, he⟩ := ok_bind he
          refine ⟨r8_, hr, ?_⟩
          have he := ok_some he
          exact ⟨rfl, _, _, (leads_ren [] (l := [(2, .c (.bool r8_))]) (st' := []) rfl rfl trivial ⟨.inl rfl, trivial⟩), he⟩
        · have he := ok_f he hb
          have he := ok_some he
          exact ⟨rfl, _, _, (leads_ren [] (l := [(2, .c (.bool false))]) (st' := []) rfl rfl trivial ⟨.inr rfl, trivial⟩), he⟩
    · have he := ok_t he hb
      refine And.intro (fun hb => ?_) (fun hb => ?_)
      · have he := ok_t he hb
        obtain ⟨r9_, hr, he⟩ := ok_bind he
        refine ⟨r9_, hr, ?_⟩
        have he := ok_some he
        exact ⟨rfl, _, _, (leads_ren [] (l := [(2, .c (.bool r9_))]) (st' := []) rfl rfl trivial ⟨.inl rfl, trivial⟩), he⟩
      · have he := ok_f he hb
        have he := ok_some he
        exact ⟨rfl, _, _, (leads_ren [] (l := [(2, .c (.bool false))]) (st' := []) rfl rfl trivial ⟨.inr rfl, trivial⟩), he⟩

end Go.AE.Y
