/-
  Walks: each function keeps the contract that its model gives. No conditions.
-/
import Derived.Test.YtpeelmjecjbfjaaR4Tab
import Derived.Test.YtpeelmjecjbfjaaR4W3
namespace Go.AE.Y
open Go Go.AE Go.Proofs
set_option linter.unusedVariables false
set_option maxHeartbeats 2000000
set_option maxRecDepth 100000

noncomputable def c_impl_ObjectiveValue : Con := fun args st => match args, st with
  | [.agg [.imm (.int .i64) m_0, .imm (.pair (.int .i64) (.pair (.sl (.int .i64)) (.pair (.sl (.int .i64)) (.pair (.int .i64) (.sl (.sl (.int .i64))))))) m_1], .c (.imm (.int .i64) coefs), .c (.imm (.int .i64) cells)], [] => .opt (Int × Bool) (impl_ObjectiveValue (m_0, m_1) coefs cells) (fun r => .ret (.tup [.c (.int .i64 r.1), .c (.bool r.2)]) [])
  | _, _ => .fail

noncomputable def C_impl_ObjectiveValue : Cfg := { y := tys, n := 21, h := 0, tab := [(100, c_impl_isObjective), (108, c_impl_CellsValid), (109, c_impl_valueOf)], cut := [], hand := [], good := [], deep := [], sched := [] }

theorem t_impl_ObjectiveValue : TabOk Try.prog C_impl_ObjectiveValue := by
  refine tabOk_of ?_
  simp only [C_impl_ObjectiveValue, List.forall_mem_cons]
  exact ⟨k_impl_isObjective, k_impl_CellsValid, k_impl_valueOf, fun p h => by cases h⟩

theorem k_impl_ObjectiveValue : Entry Try.prog 21 c_impl_ObjectiveValue := by
  refine entry_by (C := C_impl_ObjectiveValue) mixed tys_ok t_impl_ObjectiveValue (fn := Try.f21) (c := bd Try.f21) (by kernel_rfl) (by kernel_rfl) (by kernel_rfl) (by kernel_rfl) ?_
  intro args st k he
  unfold c_impl_ObjectiveValue at he
  split at he
  rotate_left
  · exact he.elim
  rename_i m_0 m_1 coefs cells
  have he : Ok (impl_ObjectiveValue (m_0, m_1) coefs cells) (fun r => k (.tup [.c (.int .i64 r.1), .c (.bool r.2)]) []) := he
  refine ⟨rfl, rfl, ?_⟩
  obtain ⟨r1_, hr, he⟩ := ok_bind he
  refine ⟨r1_, hr, ?_⟩
  refine And.intro (fun hb => ?_) (fun hb => ?_)
  · have he := ok_f he hb
    obtain ⟨r2_, hr, he⟩ := ok_bind he
    refine ⟨r2_, hr, ?_⟩
    refine And.intro (fun hb => ?_) (fun hb => ?_)
    · have he := ok_t he hb
      have he := ok_some he
      exact ⟨rfl, _, _, (leads_ren [] (l := [(6, .c (.int .i64 (0:Int))), (7, .c (.bool false))]) (st' := []) rfl rfl trivial ⟨rfl, .inr rfl, trivial⟩), he⟩
    · have he := ok_f he hb
      obtain ⟨r3_, hr, he⟩ := ok_bind he
      refine ⟨r3_, hr, ?_⟩
      have he := ok_some he
      exact ⟨rfl, _, _, (leads_ren [] (l := [(6, .c (.int .i64 r3_)), (7, .c (.bool true))]) (st' := []) rfl rfl trivial ⟨rfl, .inr rfl, trivial⟩), he⟩
  · have he := ok_t he hb
    have he := ok_some he
    exact ⟨rfl, _, _, (leads_ren [] (l := [(6, .c (.int .i64 (0:Int))), (7, .c (.bool false))]) (st' := []) rfl rfl trivial ⟨rfl, .inr rfl, trivial⟩), he⟩

noncomputable def c_impl_NextModel_1__rRNss : Con := fun args st => match args, st with
  | [.c (.own 2 false), .c (.ptr 0 0), .c (.ptr 1 0)], [(0, .rc [.imm (.int .i64) o0_0, .imm (.pair (.int .i64) (.pair (.sl (.int .i64)) (.pair (.sl (.int .i64)) (.pair (.int .i64) (.sl (.sl (.int .i64))))))) o0_1]), (1, .rc [.own 3 true]), (2, .sl 3 (.int .i64) cells .shallow), (3, .sl 3 (.int .i64) o3 .shallow)] => .opt (Bool × (List Int)) (impl_NextModel_1__rRNss (o0_0, o0_1) cells o3) (fun r => .ret (.c (.bool r.1)) [(0, .rc [.imm (.int .i64) o0_0, .imm (.pair (.int .i64) (.pair (.sl (.int .i64)) (.pair (.sl (.int .i64)) (.pair (.int .i64) (.sl (.sl (.int .i64))))))) o0_1]), (1, .rc [.own 900 true]), (2, .sl 3 (.int .i64) cells .shallow), (3, .dead), (900, .sl 3 (.int .i64) r.2 .shallow)])
  | _, _ => .fail

noncomputable def C_impl_NextModel_1__rRNss : Cfg := { y := tys, n := 12, h := 4, tab := [(133, c_impl_Model_solves), (150, c_slices_Clone_int)], cut := [], hand := [], good := [], deep := [], sched := [] }

theorem t_impl_NextModel_1__rRNss : TabOk Try.prog C_impl_NextModel_1__rRNss := by
  refine tabOk_of ?_
  simp only [C_impl_NextModel_1__rRNss, List.forall_mem_cons]
  exact ⟨k_impl_Model_solves, k_slices_Clone_int, fun p h => by cases h⟩

theorem k_impl_NextModel_1__rRNss : Entry Try.prog 154 c_impl_NextModel_1__rRNss := by
  refine entry_by (C := C_impl_NextModel_1__rRNss) mixed tys_ok t_impl_NextModel_1__rRNss (fn := Try.f154) (c := bd Try.f154) (by kernel_rfl) (by kernel_rfl) (by kernel_rfl) (by kernel_rfl) ?_
  intro args st k he
  unfold c_impl_NextModel_1__rRNss at he
  split at he
  rotate_left
  · exact he.elim
  rename_i o0_0 o0_1 cells o3
  have he : Ok (impl_NextModel_1__rRNss (o0_0, o0_1) cells o3) (fun r => k (.c (.bool r.1)) [(0, .rc [.imm (.int .i64) o0_0, .imm (.pair (.int .i64) (.pair (.sl (.int .i64)) (.pair (.sl (.int .i64)) (.pair (.int .i64) (.sl (.sl (.int .i64))))))) o0_1]), (1, .rc [.own 900 true]), (2, .sl 3 (.int .i64) cells .shallow), (3, .dead), (900, .sl 3 (.int .i64) r.2 .shallow)]) := he
  refine ⟨rfl, rfl, ?_⟩
  obtain ⟨r1_, hr, he⟩ := ok_bind he
  refine ⟨r1_, hr, ?_⟩
  refine And.intro (fun hb => ?_) (fun hb => ?_)
  · have he := ok_t he hb
    obtain ⟨r2_, hr, he⟩ := ok_bind he
    refine ⟨r2_, hr, ?_⟩
    have he := ok_rq he
    have hnn := he.1
    have he := he.2
    refine fun bn1_ hbn1_ => ?_
    have hbb : bn1_ = false := by
      cases bn1_
      · rfl
      · exact absurd (hbn1_ rfl) hnn
    subst hbb
    have he := ok_rq he
    have hne0 := he.1
    have he := he.2
    have he := ok_some he
    exact ⟨rfl, _, _, (leads_ren [(900, 10900)] (l := [(4, .c (.bool false))]) (st' := [(0, .rc [.imm (.int .i64) o0_0, .imm (.pair (.int .i64) (.pair (.sl (.int .i64)) (.pair (.sl (.int .i64)) (.pair (.int .i64) (.sl (.sl (.int .i64))))))) o0_1]), (1, .rc [.own 900 true]), (2, .sl 3 (.int .i64) cells .shallow), (3, .dead), (900, .sl 3 (.int .i64) r2_ .shallow)]) rfl rfl ⟨⟨.inl rfl, .inl rfl, trivial⟩, ⟨⟨⟨rfl, rfl⟩, hne0⟩, trivial⟩, ⟨rfl, rfl⟩, trivial, ⟨rfl, rfl⟩, trivial⟩ ⟨.inl rfl, trivial⟩), he⟩
  · have he := ok_f he hb
    have he := ok_some he
    exact ⟨rfl, _, _, (leads_ren [(900, 3)] (l := [(4, .c (.bool o3.isEmpty))]) (st' := [(0, .rc [.imm (.int .i64) o0_0, .imm (.pair (.int .i64) (.pair (.sl (.int .i64)) (.pair (.sl (.int .i64)) (.pair (.int .i64) (.sl (.sl (.int .i64))))))) o0_1]), (1, .rc [.own 900 true]), (2, .sl 3 (.int .i64) cells .shallow), (3, .dead), (900, .sl 3 (.int .i64) o3 .shallow)]) rfl rfl ⟨⟨.inl rfl, .inl rfl, trivial⟩, ⟨⟨⟨rfl, rfl⟩, trivial⟩, trivial⟩, ⟨rfl, rfl⟩, trivial, ⟨rfl, rfl⟩, trivial⟩ ⟨.inl rfl, trivial⟩), he⟩

noncomputable def c_impl_each__impl_NextModel_1__rR0 : Con := fun args st => match args, st with
  | [.c (.imm (.int .i64) sizes), .c (.imm (.int .i64) from_), .c (.fn 154 [0, 1])], [(0, .rc [.imm (.int .i64) o0_0, .imm (.pair (.int .i64) (.pair (.sl (.int .i64)) (.pair (.sl (.int .i64)) (.pair (.int .i64) (.sl (.sl (.int .i64))))))) o0_1]), (1, .rc [.nil])] => .opt ((List Int)) (impl_each__impl_NextModel_1__rR0 sizes from_ (o0_0, o0_1)) (fun r => .ret (.tup []) [(0, .rc [.imm (.int .i64) o0_0, .imm (.pair (.int .i64) (.pair (.sl (.int .i64)) (.pair (.sl (.int .i64)) (.pair (.int .i64) (.sl (.sl (.int .i64))))))) o0_1]), (1, .rc [.own 900 true]), (900, .sl 3 (.int .i64) r .shallow)])
  | _, _ => .fail

noncomputable def C_impl_each__impl_NextModel_1__rR0 : Cfg := { y := tys, n := 42, h := 2, tab := [(150, c_slices_Clone_int), (154, c_impl_NextModel_1__rRNss)], cut := [6], hand := [(154, [0])], good := [], deep := [], sched := [] }

theorem t_impl_each__impl_NextModel_1__rR0 : TabOk Try.prog C_impl_each__impl_NextModel_1__rR0 := by
  refine tabOk_of ?_
  simp only [C_impl_each__impl_NextModel_1__rR0, List.forall_mem_cons]
  exact ⟨k_slices_Clone_int, k_impl_NextModel_1__rRNss, fun p h => by cases h⟩

theorem k_impl_each__impl_NextModel_1__rR0 : Entry Try.prog 134 c_impl_each__impl_NextModel_1__rR0 := by
  refine entry_by (C := C_impl_each__impl_NextModel_1__rR0) mixed tys_ok t_impl_each__impl_NextModel_1__rR0 (fn := Try.f134) (c := bd Try.f134) (by kernel_rfl) (by kernel_rfl) (by kernel_rfl) (by kernel_rfl) ?_
  intro args st k he
  unfold c_impl_each__impl_NextModel_1__rR0 at he
  split at he
  rotate_left
  · exact he.elim
  rename_i sizes from_ o0_0 o0_1
  have he : Ok (impl_each__impl_NextModel_1__rR0 sizes from_ (o0_0, o0_1)) (fun r => k (.tup []) [(0, .rc [.imm (.int .i64) o0_0, .imm (.pair (.int .i64) (.pair (.sl (.int .i64)) (.pair (.sl (.int .i64)) (.pair (.int .i64) (.sl (.sl (.int .i64))))))) o0_1]), (1, .rc [.own 900 true]), (900, .sl 3 (.int .i64) r .shallow)]) := he
  refine ⟨rfl, rfl, ?_⟩
  obtain ⟨r1_, hr, he⟩ := ok_bind he
  refine ⟨r1_, hr, ?_⟩
  refine loop_model mixed tys_ok t_impl_each__impl_NextModel_1__rR0 (S := (List Int) × (List Int)) (I := (fun (cells2, cap) => (envOf [(0, .c (.imm (.int .i64) sizes)), (2, .c (.fn 154 [0, 1])), (6, .c (.own 10000000 false))], [(0, .rc [.imm (.int .i64) (o0_0, o0_1).1, .imm (.pair (.int .i64) (.pair (.sl (.int .i64)) (.pair (.sl (.int .i64)) (.pair (.int .i64) (.sl (.sl (.int .i64))))))) (o0_0, o0_1).2]), (1, .rc [.own 10000001 true]), (10000000, .sl 3 (.int .i64) cells2 .shallow), (10000001, .sl 3 (.int .i64) cap .shallow)]))) (f := impl_each__impl_NextModel_1__rR0_l1 sizes (o0_0, o0_1)) (K := (fun r => k (.tup []) [(0, .rc [.imm (.int .i64) o0_0, .imm (.pair (.int .i64) (.pair (.sl (.int .i64)) (.pair (.sl (.int .i64)) (.pair (.int .i64) (.sl (.sl (.int .i64))))))) o0_1]), (1, .rc [.own 900 true]), (900, .sl 3 (.int .i64) r .shallow)])) he (leads_ren [(10000000, 10900)] (l := [(0, .c (.imm (.int .i64) sizes)), (2, .c (.fn 154 [0, 1])), (6, .c (.own 10000000 false))]) (st' := [(0, .rc [.imm (.int .i64) (o0_0, o0_1).1, .imm (.pair (.int .i64) (.pair (.sl (.int .i64)) (.pair (.sl (.int .i64)) (.pair (.int .i64) (.sl (.sl (.int .i64))))))) (o0_0, o0_1).2]), (1, .rc [.own 10000001 true]), (10000000, .sl 3 (.int .i64) r1_ .shallow), (10000001, .sl 3 (.int .i64) ([] : List Int) .shallow)]) rfl rfl ⟨⟨.inl rfl, .inl rfl, trivial⟩, ⟨⟨rfl, trivial⟩, trivial⟩, ⟨rfl, rfl⟩, trivial, trivial⟩ ⟨.inl rfl, ⟨rfl, ⟨⟨rfl, rfl⟩, ⟨⟨rfl, rfl⟩, trivial⟩⟩⟩, ⟨⟨rfl, rfl⟩, trivial⟩, trivial⟩) ?_
  rintro ⟨cells2, cap⟩ J1 he
  obtain ⟨r3_, hr, he⟩ := ok_bind he
  refine ⟨r3_, hr, ?_⟩
  refine And.intro (fun hb => ?_) (fun hb => ?_)
  · have he := ok_t he hb
    have he := ok_rq he
    refine And.intro he.1 ?_
    have he := he.2
    refine seq_model mixed tys_ok t_impl_each__impl_NextModel_1__rR0 (S := Int × (List Int)) (I := (fun (i3, cells4) => (envOf [(0, .c (.imm (.int .i64) sizes)), (2, .c (.fn 154 [0, 1])), (6, .c (.own 10004000 false)), (7, .c (.int .i64 i3))], [(0, .rc [.imm (.int .i64) (o0_0, o0_1).1, .imm (.pair (.int .i64) (.pair (.sl (.int .i64)) (.pair (.sl (.int .i64)) (.pair (.int .i64) (.sl (.sl (.int .i64))))))) (o0_0, o0_1).2]), (1, .rc [.own 10004001 true]), (10004000, .sl 3 (.int .i64) cells4 .shallow), (10004001, .sl 3 (.int .i64) r3_.2 .shallow)]))) (B := fun s => Ok (impl_each__impl_NextModel_1__rR0_j1 r3_ s) (LK J1 (fun r => k (.tup []) [(0, .rc [.imm (.int .i64) o0_0, .imm (.pair (.int .i64) (.pair (.sl (.int .i64)) (.pair (.sl (.int .i64)) (.pair (.int .i64) (.sl (.sl (.int .i64))))))) o0_1]), (1, .rc [.own 900 true]), (900, .sl 3 (.int .i64) r .shallow)]))) ?_ ?_
    · rintro ⟨i3, cells4⟩ he
      refine And.intro (fun hb => ?_) (fun hb => ?_)
      · have he := ok_t he hb
        have he := ok_some he
        exact ⟨rfl, _, _, (leads_ren [(900, 10004001)] (l := []) (st' := [(0, .rc [.imm (.int .i64) o0_0, .imm (.pair (.int .i64) (.pair (.sl (.int .i64)) (.pair (.sl (.int .i64)) (.pair (.int .i64) (.sl (.sl (.int .i64))))))) o0_1]), (1, .rc [.own 900 true]), (900, .sl 3 (.int .i64) r3_.2 .shallow)]) rfl rfl ⟨⟨.inl rfl, .inl rfl, trivial⟩, ⟨⟨⟨rfl, rfl⟩, trivial⟩, trivial⟩, ⟨rfl, rfl⟩, trivial⟩ trivial), he⟩
      · have he := ok_f he hb
        have he := ok_rq he
        refine And.intro he.1 ?_
        have he := he.2
        have he := ok_rq he
        refine And.intro he.1 ?_
        have he := he.2
        have he := ok_rq he
        refine And.intro he.1 ?_
        have he := he.2
        have he := ok_some he
        exact ⟨((cells4.set i3.toNat ((cells4.getD i3.toNat 0) + (1:Int))), r3_.2), he, (leads_ren [(10000000, 10004000), (10000001, 10004001)] (l := [(0, .c (.imm (.int .i64) sizes)), (2, .c (.fn 154 [0, 1])), (6, .c (.own 10000000 false))]) (st' := [(0, .rc [.imm (.int .i64) (o0_0, o0_1).1, .imm (.pair (.int .i64) (.pair (.sl (.int .i64)) (.pair (.sl (.int .i64)) (.pair (.int .i64) (.sl (.sl (.int .i64))))))) (o0_0, o0_1).2]), (1, .rc [.own 10000001 true]), (10000000, .sl 3 (.int .i64) (cells4.set i3.toNat ((cells4.getD i3.toNat 0) + (1:Int))) .shallow), (10000001, .sl 3 (.int .i64) r3_.2 .shallow)]) rfl rfl ⟨⟨.inl rfl, .inl rfl, trivial⟩, ⟨⟨⟨rfl, rfl⟩, trivial⟩, trivial⟩, ⟨rfl, rfl⟩, ⟨rfl, rfl⟩, trivial⟩ ⟨.inl rfl, ⟨rfl, ⟨⟨rfl, rfl⟩, ⟨⟨rfl, rfl⟩, trivial⟩⟩⟩, ⟨⟨rfl, rfl⟩, trivial⟩, trivial⟩)⟩
    · skip
      refine loop_model mixed tys_ok t_impl_each__impl_NextModel_1__rR0 (S := Int × (List Int)) (I := (fun (i2, cells3) => (envOf [(0, .c (.imm (.int .i64) sizes)), (2, .c (.fn 154 [0, 1])), (6, .c (.own 10003000 false)), (7, .c (.int .i64 i2))], [(0, .rc [.imm (.int .i64) (o0_0, o0_1).1, .imm (.pair (.int .i64) (.pair (.sl (.int .i64)) (.pair (.sl (.int .i64)) (.pair (.int .i64) (.sl (.sl (.int .i64))))))) (o0_0, o0_1).2]), (1, .rc [.own 10003001 true]), (10003000, .sl 3 (.int .i64) cells3 .shallow), (10003001, .sl 3 (.int .i64) r3_.2 .shallow)]))) (f := impl_each__impl_NextModel_1__rR0_l2 sizes r3_) (K := (LK J1 (fun r => k (.tup []) [(0, .rc [.imm (.int .i64) o0_0, .imm (.pair (.int .i64) (.pair (.sl (.int .i64)) (.pair (.sl (.int .i64)) (.pair (.int .i64) (.sl (.sl (.int .i64))))))) o0_1]), (1, .rc [.own 900 true]), (900, .sl 3 (.int .i64) r .shallow)]))) he (leads_ren [(10003000, 10000000), (10003001, 13900)] (l := [(0, .c (.imm (.int .i64) sizes)), (2, .c (.fn 154 [0, 1])), (6, .c (.own 10003000 false)), (7, .c (.int .i64 ((cells2.length:Int) - (1:Int))))]) (st' := [(0, .rc [.imm (.int .i64) (o0_0, o0_1).1, .imm (.pair (.int .i64) (.pair (.sl (.int .i64)) (.pair (.sl (.int .i64)) (.pair (.int .i64) (.sl (.sl (.int .i64))))))) (o0_0, o0_1).2]), (1, .rc [.own 10003001 true]), (10003000, .sl 3 (.int .i64) cells2 .shallow), (10003001, .sl 3 (.int .i64) r3_.2 .shallow)]) rfl rfl ⟨⟨.inl rfl, .inl rfl, trivial⟩, ⟨⟨⟨rfl, rfl⟩, trivial⟩, trivial⟩, ⟨rfl, rfl⟩, ⟨rfl, rfl⟩, trivial⟩ ⟨.inl rfl, ⟨rfl, ⟨⟨rfl, rfl⟩, ⟨⟨rfl, rfl⟩, trivial⟩⟩⟩, ⟨⟨rfl, rfl⟩, trivial⟩, rfl, trivial⟩) ?_
      rintro ⟨i2, cells3⟩ J2 he
      refine And.intro (by kernel_rfl) ?_
      refine And.intro (fun hb => ?_) (fun hb => ?_)
      · have he := ok_t he hb
        have he := ok_rq he
        refine And.intro he.1 ?_
        have he := he.2
        have he := ok_rq he
        refine And.intro he.1 ?_
        have he := he.2
        refine And.intro (fun hb => ?_) (fun hb => ?_)
        · have he := ok_t he hb
          have he := ok_rq he
          refine And.intro he.1 ?_
          have he := he.2
          have he := ok_rq he
          refine And.intro he.1 ?_
          have he := he.2
          have he := ok_some he
          exact ⟨((i2 - (1:Int)), (cells3.set i2.toNat (0:Int))), he, (leads_ren [] (l := [(0, .c (.imm (.int .i64) sizes)), (2, .c (.fn 154 [0, 1])), (6, .c (.own 10003000 false)), (7, .c (.int .i64 (i2 - (1:Int))))]) (st' := [(0, .rc [.imm (.int .i64) (o0_0, o0_1).1, .imm (.pair (.int .i64) (.pair (.sl (.int .i64)) (.pair (.sl (.int .i64)) (.pair (.int .i64) (.sl (.sl (.int .i64))))))) (o0_0, o0_1).2]), (1, .rc [.own 10003001 true]), (10003000, .sl 3 (.int .i64) (cells3.set i2.toNat (0:Int)) .shallow), (10003001, .sl 3 (.int .i64) r3_.2 .shallow)]) rfl rfl ⟨⟨.inl rfl, .inl rfl, trivial⟩, ⟨⟨⟨rfl, rfl⟩, trivial⟩, trivial⟩, ⟨rfl, rfl⟩, ⟨rfl, rfl⟩, trivial⟩ ⟨.inl rfl, ⟨rfl, ⟨⟨rfl, rfl⟩, ⟨⟨rfl, rfl⟩, trivial⟩⟩⟩, ⟨⟨rfl, rfl⟩, trivial⟩, rfl, trivial⟩)⟩
        · have he := ok_f he hb
          exact ⟨(i2, cells3), ok_up he, (leads_ren [(10004000, 10003000), (10004001, 10003001)] (l := [(0, .c (.imm (.int .i64) sizes)), (2, .c (.fn 154 [0, 1])), (6, .c (.own 10004000 false)), (7, .c (.int .i64 i2))]) (st' := [(0, .rc [.imm (.int .i64) (o0_0, o0_1).1, .imm (.pair (.int .i64) (.pair (.sl (.int .i64)) (.pair (.sl (.int .i64)) (.pair (.int .i64) (.sl (.sl (.int .i64))))))) (o0_0, o0_1).2]), (1, .rc [.own 10004001 true]), (10004000, .sl 3 (.int .i64) cells3 .shallow), (10004001, .sl 3 (.int .i64) r3_.2 .shallow)]) rfl rfl ⟨⟨.inl rfl, .inl rfl, trivial⟩, ⟨⟨⟨rfl, rfl⟩, trivial⟩, trivial⟩, ⟨rfl, rfl⟩, ⟨rfl, rfl⟩, trivial⟩ ⟨.inl rfl, ⟨rfl, ⟨⟨rfl, rfl⟩, ⟨⟨rfl, rfl⟩, trivial⟩⟩⟩, ⟨⟨rfl, rfl⟩, trivial⟩, rfl, trivial⟩)⟩
      · have he := ok_f he hb
        exact ⟨(i2, cells3), ok_up he, (leads_ren [(10004000, 10003000), (10004001, 10003001)] (l := [(0, .c (.imm (.int .i64) sizes)), (2, .c (.fn 154 [0, 1])), (6, .c (.own 10004000 false)), (7, .c (.int .i64 i2))]) (st' := [(0, .rc [.imm (.int .i64) (o0_0, o0_1).1, .imm (.pair (.int .i64) (.pair (.sl (.int .i64)) (.pair (.sl (.int .i64)) (.pair (.int .i64) (.sl (.sl (.int .i64))))))) (o0_0, o0_1).2]), (1, .rc [.own 10004001 true]), (10004000, .sl 3 (.int .i64) cells3 .shallow), (10004001, .sl 3 (.int .i64) r3_.2 .shallow)]) rfl rfl ⟨⟨.inl rfl, .inl rfl, trivial⟩, ⟨⟨⟨rfl, rfl⟩, trivial⟩, trivial⟩, ⟨rfl, rfl⟩, ⟨rfl, rfl⟩, trivial⟩ ⟨.inl rfl, ⟨rfl, ⟨⟨rfl, rfl⟩, ⟨⟨rfl, rfl⟩, trivial⟩⟩⟩, ⟨⟨rfl, rfl⟩, trivial⟩, rfl, trivial⟩)⟩
  · have he := ok_f he hb
    have he := ok_some he
    exact ⟨rfl, _, _, (leads_ren [(900, 13900)] (l := []) (st' := [(0, .rc [.imm (.int .i64) o0_0, .imm (.pair (.int .i64) (.pair (.sl (.int .i64)) (.pair (.sl (.int .i64)) (.pair (.int .i64) (.sl (.sl (.int .i64))))))) o0_1]), (1, .rc [.own 900 true]), (900, .sl 3 (.int .i64) r3_.2 .shallow)]) rfl rfl ⟨⟨.inl rfl, .inl rfl, trivial⟩, ⟨⟨⟨rfl, rfl⟩, trivial⟩, trivial⟩, ⟨rfl, rfl⟩, trivial⟩ trivial), he⟩

noncomputable def c_impl_NextModel : Con := fun args st => match args, st with
  | [.agg [.imm (.int .i64) m_0, .imm (.pair (.int .i64) (.pair (.sl (.int .i64)) (.pair (.sl (.int .i64)) (.pair (.int .i64) (.sl (.sl (.int .i64))))))) m_1], .c (.imm (.int .i64) cells)], [] => .opt (Bool × (List Int)) (impl_NextModel (m_0, m_1) cells) (fun r => .ret (.tup [.c (.own 900 false), .c (.bool r.1)]) [(900, .sl 3 (.int .i64) r.2 .shallow)])
  | _, _ => .fail

noncomputable def C_impl_NextModel : Cfg := { y := tys, n := 19, h := 0, tab := [(108, c_impl_CellsValid), (134, c_impl_each__impl_NextModel_1__rR0)], cut := [], hand := [], good := [], deep := [], sched := [] }

theorem t_impl_NextModel : TabOk Try.prog C_impl_NextModel := by
  refine tabOk_of ?_
  simp only [C_impl_NextModel, List.forall_mem_cons]
  exact ⟨k_impl_CellsValid, k_impl_each__impl_NextModel_1__rR0, fun p h => by cases h⟩

theorem k_impl_NextModel : Entry Try.prog 53 c_impl_NextModel := by
  refine entry_by (C := C_impl_NextModel) mixed tys_ok t_impl_NextModel (fn := Try.f53) (c := bd Try.f53) (by kernel_rfl) (by kernel_rfl) (by kernel_rfl) (by kernel_rfl) ?_
  intro args st k he
  unfold c_impl_NextModel at he
  split at he
  rotate_left
  · exact he.elim
  rename_i m_0 m_1 cells
  have he : Ok (impl_NextModel (m_0, m_1) cells) (fun r => k (.tup [.c (.own 900 false), .c (.bool r.1)]) [(900, .sl 3 (.int .i64) r.2 .shallow)]) := he
  refine ⟨rfl, rfl, ?_⟩
  obtain ⟨r1_, hr, he⟩ := ok_bind he
  refine ⟨r1_, hr, ?_⟩
  refine And.intro (fun hb => ?_) (fun hb => ?_)
  · have he := ok_t he hb
    have he := ok_some he
    exact ⟨rfl, _, _, (leads_ren [] (l := [(4, .c (.own 900 false)), (5, .c (.bool false))]) (st' := [(900, .sl 3 (.int .i64) ([] : List Int) .shallow)]) rfl rfl ⟨trivial, trivial⟩ ⟨⟨rfl, trivial⟩, .inr rfl, trivial⟩), he⟩
  · have he := ok_f he hb
    obtain ⟨r2_, hr, he⟩ := ok_bind he
    refine ⟨r2_, hr, ?_⟩
    refine And.intro (by kernel_rfl) ?_
    have he := ok_some he
    exact ⟨rfl, _, _, (leads_ren [(900, 16900)] (l := [(4, .c (.own 900 false)), (5, .c (.bool (!r2_.isEmpty)))]) (st' := [(900, .sl 3 (.int .i64) r2_ .shallow)]) rfl rfl ⟨⟨rfl, rfl⟩, trivial⟩ ⟨⟨⟨rfl, rfl⟩, trivial⟩, .inl rfl, trivial⟩), he⟩

noncomputable def c_laws_cpLess : Con := fun args st => match args, st with
  | [.c (.imm (.int .i64) a), .c (.imm (.int .i64) b)], [] => .opt (Bool) (laws_cpLess a b) (fun r => .ret (.c (.bool r)) [])
  | _, _ => .fail

noncomputable def C_laws_cpLess : Cfg := { y := tys, n := 36, h := 0, tab := [], cut := [], hand := [], good := [], deep := [], sched := [] }

theorem t_laws_cpLess : TabOk Try.prog C_laws_cpLess := tabOk_of (fun p h => by cases h)

theorem k_laws_cpLess : Entry Try.prog 55 c_laws_cpLess := by
  refine entry_by (C := C_laws_cpLess) mixed tys_ok t_laws_cpLess (fn := Try.f55) (c := bd Try.f55) (by kernel_rfl) (by kernel_rfl) (by kernel_rfl) (by kernel_rfl) ?_
  intro args st k he
  unfold c_laws_cpLess at he
  split at he
  rotate_left
  · exact he.elim
  rename_i a b
  have he : Ok (laws_cpLess a b) (fun r => k (.c (.bool r)) []) := he
  refine ⟨rfl, rfl, ?_⟩
  refine loop_model mixed tys_ok t_laws_cpLess (S := Int) (I := (fun i => (envOf [(0, .c (.imm (.int .i64) a)), (1, .c (.imm (.int .i64) b)), (5, .c (.int .i64 i))], []))) (f := laws_cpLess_l1 a b) (K := (fun r => k (.c (.bool r)) [])) he (leads_ren [] (l := [(0, .c (.imm (.int .i64) a)), (1, .c (.imm (.int .i64) b)), (5, .c (.int .i64 (0:Int)))]) (st' := []) rfl rfl trivial ⟨.inl rfl, .inl rfl, rfl, trivial⟩) ?_
  rintro i J1 he
  refine And.intro (fun hb => ?_) (fun hb => ?_)
  · have he := ok_t he hb
    refine And.intro (fun hb => ?_) (fun hb => ?_)
    · have he := ok_t he hb
      refine And.intro (by kernel_rfl) ?_
      have he := ok_rq he
      refine And.intro he.1 ?_
      have he := he.2
      have he := ok_rq he
      refine And.intro he.1 ?_
      have he := he.2
      refine And.intro (fun hb => ?_) (fun hb => ?_)
      · have he := ok_t he hb
        refine And.intro (by kernel_rfl) ?_
        have he := ok_rq he
        refine And.intro he.1 ?_
        have he := he.2
        have he := ok_rq he
        refine And.intro he.1 ?_
        have he := he.2
        have he := ok_some he
        exact ⟨rfl, _, _, Leads.refl _ _, he⟩
      · have he := ok_f he hb
        have he := ok_rq he
        refine And.intro he.1 ?_
        have he := he.2
        have he := ok_some he
        exact ⟨(i + (1:Int)), he, (leads_ren [] (l := [(0, .c (.imm (.int .i64) a)), (1, .c (.imm (.int .i64) b)), (5, .c (.int .i64 (i + (1:Int))))]) (st' := []) rfl rfl trivial ⟨.inl rfl, .inl rfl, rfl, trivial⟩)⟩
    · have he := ok_f he hb
      have he := ok_some he
      exact ⟨rfl, _, _, Leads.refl _ _, he⟩
  · have he := ok_f he hb
    have he := ok_some he
    exact ⟨rfl, _, _, Leads.refl _ _, he⟩

noncomputable def c_laws_cpAfter : Con := fun args st => match args, st with
  | [.agg [.imm (.int .i64) m_0, .imm (.pair (.int .i64) (.pair (.sl (.int .i64)) (.pair (.sl (.int .i64)) (.pair (.int .i64) (.sl (.sl (.int .i64))))))) m_1], .c (.imm (.int .i64) cells)], [] => .opt (Bool × (List Int)) (laws_cpAfter (m_0, m_1) cells) (fun r => .ret (.tup [.c (.own 900 false), .c (.bool r.1)]) [(900, .sl 3 (.int .i64) r.2 .shallow)])
  | _, _ => .fail

noncomputable def C_laws_cpAfter : Cfg := { y := tys, n := 45, h := 0, tab := [(53, c_impl_NextModel)], cut := [], hand := [], good := [], deep := [], sched := [] }

theorem t_laws_cpAfter : TabOk Try.prog C_laws_cpAfter := by
  refine tabOk_of ?_
  simp only [C_laws_cpAfter, List.forall_mem_cons]
  exact ⟨k_impl_NextModel, fun p h => by cases h⟩

theorem k_laws_cpAfter : Entry Try.prog 54 c_laws_cpAfter := by
  refine entry_by (C := C_laws_cpAfter) mixed tys_ok t_laws_cpAfter (fn := Try.f54) (c := bd Try.f54) (by kernel_rfl) (by kernel_rfl) (by kernel_rfl) (by kernel_rfl) ?_
  intro args st k he
  unfold c_laws_cpAfter at he
  split at he
  rotate_left
  · exact he.elim
  rename_i m_0 m_1 cells
  have he : Ok (laws_cpAfter (m_0, m_1) cells) (fun r => k (.tup [.c (.own 900 false), .c (.bool r.1)]) [(900, .sl 3 (.int .i64) r.2 .shallow)]) := he
  refine ⟨rfl, rfl, ?_⟩
  have he := ok_rq he
  refine And.intro he.1 ?_
  have he := he.2
  have he := ok_rq he
  refine And.intro he.1 ?_
  have he := he.2
  refine loop_model mixed tys_ok t_laws_cpAfter (S := Int × (List Int)) (I := (fun (i, next) => (envOf [(2, .c (.ptr 10000000 0)), (6, .c (.own 10000001 false)), (7, .c (.int .i64 i))], [(10000000, .rc [.imm (.int .i64) (m_0, m_1).1, .imm (.pair (.int .i64) (.pair (.sl (.int .i64)) (.pair (.sl (.int .i64)) (.pair (.int .i64) (.sl (.sl (.int .i64))))))) (m_0, m_1).2]), (10000001, .sl 3 (.int .i64) next .shallow)]))) (f := laws_cpAfter_l1 (m_0, m_1)) (K := (fun r => k (.tup [.c (.own 900 false), .c (.bool r.1)]) [(900, .sl 3 (.int .i64) r.2 .shallow)])) he (leads_ren [(10000000, 2), (10000001, 10)] (l := [(2, .c (.ptr 10000000 0)), (6, .c (.own 10000001 false)), (7, .c (.int .i64 (((([] : List Int) ++ cells).length:Int) - (1:Int))))]) (st' := [(10000000, .rc [.imm (.int .i64) (m_0, m_1).1, .imm (.pair (.int .i64) (.pair (.sl (.int .i64)) (.pair (.sl (.int .i64)) (.pair (.int .i64) (.sl (.sl (.int .i64))))))) (m_0, m_1).2]), (10000001, .sl 3 (.int .i64) (([] : List Int) ++ cells) .shallow)]) rfl rfl ⟨⟨.inl rfl, .inl rfl, trivial⟩, ⟨rfl, rfl⟩, trivial⟩ ⟨⟨⟨rfl, rfl⟩, rfl⟩, ⟨⟨rfl, rfl⟩, trivial⟩, rfl, trivial⟩) ?_
  rintro ⟨i, next⟩ J1 he
  refine And.intro (fun hb => ?_) (fun hb => ?_)
  · have he := ok_t he hb
    refine And.intro (by kernel_rfl) ?_
    have he := ok_rq he
    refine And.intro he.1 ?_
    have he := he.2
    have he := ok_rq he
    refine And.intro he.1 ?_
    have he := he.2
    refine And.intro (fun hb => ?_) (fun hb => ?_)
    · have he := ok_t he hb
      have he := ok_rq he
      refine And.intro he.1 ?_
      have he := he.2
      have he := ok_rq he
      refine And.intro he.1 ?_
      have he := he.2
      have he := ok_rq he
      refine And.intro he.1 ?_
      have he := he.2
      obtain ⟨r2_, hr, he⟩ := ok_bind he
      refine ⟨r2_, hr, ?_⟩
      have he := ok_some he
      exact ⟨rfl, _, _, (leads_ren [(900, 39900)] (l := [(4, .c (.own 900 false)), (5, .c (.bool r2_.1))]) (st' := [(900, .sl 3 (.int .i64) r2_.2 .shallow)]) rfl rfl ⟨⟨rfl, rfl⟩, trivial⟩ ⟨⟨⟨rfl, rfl⟩, trivial⟩, .inl rfl, trivial⟩), he⟩
    · have he := ok_f he hb
      have he := ok_rq he
      refine And.intro he.1 ?_
      have he := he.2
      have he := ok_rq he
      refine And.intro he.1 ?_
      have he := he.2
      have he := ok_some he
      exact ⟨((i - (1:Int)), (next.set i.toNat (0:Int))), he, (leads_ren [] (l := [(2, .c (.ptr 10000000 0)), (6, .c (.own 10000001 false)), (7, .c (.int .i64 (i - (1:Int))))]) (st' := [(10000000, .rc [.imm (.int .i64) (m_0, m_1).1, .imm (.pair (.int .i64) (.pair (.sl (.int .i64)) (.pair (.sl (.int .i64)) (.pair (.int .i64) (.sl (.sl (.int .i64))))))) (m_0, m_1).2]), (10000001, .sl 3 (.int .i64) (next.set i.toNat (0:Int)) .shallow)]) rfl rfl ⟨⟨.inl rfl, .inl rfl, trivial⟩, ⟨rfl, rfl⟩, trivial⟩ ⟨⟨⟨rfl, rfl⟩, rfl⟩, ⟨⟨rfl, rfl⟩, trivial⟩, rfl, trivial⟩)⟩
  · have he := ok_f he hb
    have he := ok_some he
    exact ⟨rfl, _, _, (leads_ren [(900, 44)] (l := [(4, .c (.own 900 false)), (5, .c (.bool false))]) (st' := [(900, .sl 3 (.int .i64) ([] : List Int) .shallow)]) rfl rfl ⟨⟨rfl, rfl⟩, trivial⟩ ⟨⟨⟨rfl, rfl⟩, trivial⟩, .inr rfl, trivial⟩), he⟩

noncomputable def c_impl_SolvesModel : Con := fun args st => match args, st with
  | [.agg [.imm (.int .i64) m_0, .imm (.pair (.int .i64) (.pair (.sl (.int .i64)) (.pair (.sl (.int .i64)) (.pair (.int .i64) (.sl (.sl (.int .i64))))))) m_1], .c (.imm (.int .i64) cells)], [] => .opt (Bool) (impl_SolvesModel (m_0, m_1) cells) (fun r => .ret (.c (.bool r)) [])
  | _, _ => .fail

noncomputable def C_impl_SolvesModel : Cfg := { y := tys, n := 13, h := 0, tab := [(108, c_impl_CellsValid), (133, c_impl_Model_solves)], cut := [], hand := [], good := [], deep := [], sched := [] }

theorem t_impl_SolvesModel : TabOk Try.prog C_impl_SolvesModel := by
  refine tabOk_of ?_
  simp only [C_impl_SolvesModel, List.forall_mem_cons]
  exact ⟨k_impl_CellsValid, k_impl_Model_solves, fun p h => by cases h⟩

theorem k_impl_SolvesModel : Entry Try.prog 40 c_impl_SolvesModel := by
  refine entry_by (C := C_impl_SolvesModel) mixed tys_ok t_impl_SolvesModel (fn := Try.f40) (c := bd Try.f40) (by kernel_rfl) (by kernel_rfl) (by kernel_rfl) (by kernel_rfl) ?_
  intro args st k he
  unfold c_impl_SolvesModel at he
  split at he
  rotate_left
  · exact he.elim
  rename_i m_0 m_1 cells
  have he : Ok (impl_SolvesModel (m_0, m_1) cells) (fun r => k (.c (.bool r)) []) := he
  refine ⟨rfl, rfl, ?_⟩
  obtain ⟨r1_, hr, he⟩ := ok_bind he
  refine ⟨r1_, hr, ?_⟩
  refine And.intro (fun hb => ?_) (fun hb => ?_)
  · have he := ok_t he hb
    obtain ⟨r2_, hr, he⟩ := ok_bind he
    refine ⟨r2_, hr, ?_⟩
    have he := ok_some he
    exact ⟨rfl, _, _, (leads_ren [] (l := [(4, .c (.bool r2_))]) (st' := []) rfl rfl trivial ⟨.inl rfl, trivial⟩), he⟩
  · have he := ok_f he hb
    have he := ok_some he
    exact ⟨rfl, _, _, (leads_ren [] (l := [(4, .c (.bool false))]) (st' := []) rfl rfl trivial ⟨.inr rfl, trivial⟩), he⟩

noncomputable def c_laws_FnMinimizeModel : Con := fun args st => match args, st with
  | [.c (.imm (.int .u8) a0)], [] => .opt (Bool) (laws_FnMinimizeModel a0) (fun r => .ret (.c (.bool r)) [])
  | _, _ => .fail

noncomputable def C_laws_FnMinimizeModel : Cfg := { y := tys, n := 111, h := 0, tab := [(21, c_impl_ObjectiveValue), (40, c_impl_SolvesModel), (49, c_spec_DrawMinimizeModel), (50, c_impl_MinimizeModel), (51, c_spec_MinimizeModel), (52, c_laws_cpInts), (53, c_impl_NextModel), (54, c_laws_cpAfter), (55, c_laws_cpLess)], cut := [12, 16], hand := [], good := [], deep := [], sched := [] }

theorem t_laws_FnMinimizeModel : TabOk Try.prog C_laws_FnMinimizeModel := by
  refine tabOk_of ?_
  simp only [C_laws_FnMinimizeModel, List.forall_mem_cons]
  exact ⟨k_impl_ObjectiveValue, k_impl_SolvesModel, k_spec_DrawMinimizeModel, k_impl_MinimizeModel, k_spec_MinimizeModel, k_laws_cpInts, k_impl_NextModel, k_laws_cpAfter, k_laws_cpLess, fun p h => by cases h⟩

theorem k_laws_FnMinimizeModel : Entry Try.prog 7 c_laws_FnMinimizeModel := by
  refine entry_by (C := C_laws_FnMinimizeModel) mixed tys_ok t_laws_FnMinimizeModel (fn := Try.f7) (c := bd Try.f7) (by kernel_rfl) (by kernel_rfl) (by kernel_rfl) (by kernel_rfl) ?_
  intro args st k he
  unfold c_laws_FnMinimizeModel at he
  split at he
  rotate_left
  · exact he.elim
  rename_i a0
  have he : Ok (laws_FnMinimizeModel a0) (fun r => k (.c (.bool r)) []) := he
  refine ⟨rfl, rfl, ?_⟩
  refine And.intro (fun hb => ?_) (fun hb => ?_)
  · have he := ok_t he hb
    have he := ok_some he
    exact ⟨rfl, _, _, Leads.refl _ _, he⟩
  · have he := ok_f he hb
    obtain ⟨r1_, hr, he⟩ := ok_bind he
    refine ⟨r1_, hr, ?_⟩
    obtain ⟨r2_, hr, he⟩ := ok_bind he
    refine ⟨r2_, hr, ?_⟩
    obtain ⟨r3_, hr, he⟩ := ok_bind he
    refine ⟨r3_, hr, ?_⟩
    refine And.intro (fun hb => ?_) (fun hb => ?_)
    · have he := ok_f he hb
      obtain ⟨r4_, hr, he⟩ := ok_bind he
      refine ⟨r4_, hr, ?_⟩
      refine And.intro (fun hb => ?_) (fun hb => ?_)
      · have he := ok_f he hb
        refine And.intro (fun hb => ?_) (fun hb => ?_)
        · have he := ok_t he hb
          refine And.intro (fun hb => ?_) (fun hb => ?_)
          · have he := ok_t he hb
            obtain ⟨r5_, hr, he⟩ := ok_bind he
            refine ⟨r5_, hr, ?_⟩
            have he := ok_some he
            exact ⟨rfl, _, _, (leads_ren [] (l := [(2, .c (.bool r5_))]) (st' := []) rfl rfl trivial ⟨.inl rfl, trivial⟩), he⟩
          · have he := ok_f he hb
            have he := ok_some he
            exact ⟨rfl, _, _, (leads_ren [] (l := [(2, .c (.bool false))]) (st' := []) rfl rfl trivial ⟨.inr rfl, trivial⟩), he⟩
        · have he := ok_f he hb
          obtain ⟨r8_, hr, he⟩ := ok_bind he
          refine ⟨r8_, hr, ?_⟩
          have he := ok_rq he
          refine And.intro he.1 ?_
          have he := he.2
          refine seq_model mixed tys_ok t_laws_FnMinimizeModel (S := Unit) (I := (fun _ => (envOf [(3, .c (.ptr 10003000 0)), (5, .c (.own 10003001 false)), (10, .c (.bool r8_.2))], [(10003000, .rc [.own 10003002 false, .own 10003003 false]), (10003001, .sl 3 (.int .i64) r2_.2 .shallow), (10003002, .sl 3 (.int .i64) r1_.2.1 .shallow), (10003003, .sl 124 (.pair (.int .i64) (.pair (.sl (.int .i64)) (.pair (.sl (.int .i64)) (.pair (.int .i64) (.sl (.sl (.int .i64))))))) r1_.2.2 (.deep true .no))]))) (B := fun s => Ok (laws_FnMinimizeModel_j1 r1_ r2_ r8_ s) (fun r => k (.c (.bool r)) [])) ?_ ?_
          · rintro ⟨⟩ he
            refine And.intro (fun hb => ?_) (fun hb => ?_)
            · have he := ok_t he hb
              obtain ⟨r16_, hr, he⟩ := ok_bind he
              refine ⟨r16_, hr, ?_⟩
              have he := ok_some he
              exact ⟨rfl, _, _, (leads_ren [] (l := [(2, .c (.bool r16_))]) (st' := []) rfl rfl trivial ⟨.inl rfl, trivial⟩), he⟩
            · have he := ok_f he hb
              have he := ok_some he
              exact ⟨rfl, _, _, (leads_ren [] (l := [(2, .c (.bool false))]) (st' := []) rfl rfl trivial ⟨.inr rfl, trivial⟩), he⟩
          · skip
            obtain ⟨r9_, hr, he⟩ := ok_bind he
            refine ⟨r9_, hr, ?_⟩
            refine loop_model mixed tys_ok t_laws_FnMinimizeModel (S := Bool × (List Int)) (I := (fun (i, i1) => (envOf [(3, .c (.ptr 10000000 0)), (4, .c (.own 10000001 false)), (5, .c (.own 10000002 false)), (9, .c (.int .i64 r8_.1)), (10, .c (.bool r8_.2)), (12, .c (.own 10000003 false)), (13, .c (.bool i))], [(10000000, .rc [.own 10000004 false, .own 10000005 false]), (10000001, .sl 3 (.int .i64) r1_.1 .shallow), (10000002, .sl 3 (.int .i64) r2_.2 .shallow), (10000003, .sl 3 (.int .i64) i1 .shallow), (10000004, .sl 3 (.int .i64) r1_.2.1 .shallow), (10000005, .sl 124 (.pair (.int .i64) (.pair (.sl (.int .i64)) (.pair (.sl (.int .i64)) (.pair (.int .i64) (.sl (.sl (.int .i64))))))) r1_.2.2 (.deep true .no))]))) (f := laws_FnMinimizeModel_l1 r1_ r2_ r8_) (K := (fun r => k (.c (.bool r)) [])) he (leads_ren [(10000000, 3), (10000001, 22901), (10000002, 28900), (10000003, 72900), (10000004, 22902), (10000005, 22903)] (l := [(3, .c (.ptr 10000000 0)), (4, .c (.own 10000001 false)), (5, .c (.own 10000002 false)), (9, .c (.int .i64 r8_.1)), (10, .c (.bool r8_.2)), (12, .c (.own 10000003 false)), (13, .c (.bool r9_.1))]) (st' := [(10000000, .rc [.own 10000004 false, .own 10000005 false]), (10000001, .sl 3 (.int .i64) r1_.1 .shallow), (10000002, .sl 3 (.int .i64) r2_.2 .shallow), (10000003, .sl 3 (.int .i64) r9_.2 .shallow), (10000004, .sl 3 (.int .i64) r1_.2.1 .shallow), (10000005, .sl 124 (.pair (.int .i64) (.pair (.sl (.int .i64)) (.pair (.sl (.int .i64)) (.pair (.int .i64) (.sl (.sl (.int .i64))))))) r1_.2.2 (.deep true .no))]) rfl rfl ⟨⟨⟨⟨rfl, rfl⟩, trivial⟩, ⟨⟨rfl, rfl⟩, trivial⟩, trivial⟩, ⟨rfl, rfl⟩, ⟨rfl, rfl⟩, ⟨rfl, rfl⟩, ⟨rfl, rfl⟩, ⟨rfl, rfl⟩, trivial⟩ ⟨⟨⟨rfl, rfl⟩, rfl⟩, ⟨⟨rfl, rfl⟩, trivial⟩, ⟨⟨rfl, rfl⟩, trivial⟩, rfl, .inl rfl, ⟨⟨rfl, rfl⟩, trivial⟩, .inl rfl, trivial⟩) ?_
            rintro ⟨i, i1⟩ J1 he
            refine And.intro (fun hb => ?_) (fun hb => ?_)
            · have he := ok_t he hb
              refine seq_model mixed tys_ok t_laws_FnMinimizeModel (S := Unit) (I := (fun _ => (envOf [(3, .c (.ptr 10002000 0)), (4, .c (.own 10002001 false)), (5, .c (.own 10002002 false)), (9, .c (.int .i64 r8_.1)), (10, .c (.bool r8_.2)), (12, .c (.own 10002003 false))], [(10002000, .rc [.own 10002004 false, .own 10002005 false]), (10002001, .sl 3 (.int .i64) r1_.1 .shallow), (10002002, .sl 3 (.int .i64) r2_.2 .shallow), (10002003, .sl 3 (.int .i64) i1 .shallow), (10002004, .sl 3 (.int .i64) r1_.2.1 .shallow), (10002005, .sl 124 (.pair (.int .i64) (.pair (.sl (.int .i64)) (.pair (.sl (.int .i64)) (.pair (.int .i64) (.sl (.sl (.int .i64))))))) r1_.2.2 (.deep true .no))]))) (B := fun s => Ok (laws_FnMinimizeModel_j2 r1_ i1 s) (LK J1 (fun r => k (.c (.bool r)) []))) ?_ ?_
              · rintro ⟨⟩ he
                obtain ⟨r15_, hr, he⟩ := ok_bind he
                refine ⟨r15_, hr, ?_⟩
                have he := ok_some he
                exact ⟨(r15_.1, r15_.2), he, (leads_ren [(10000000, 10002000), (10000001, 10002001), (10000002, 10002002), (10000003, 79900), (10000004, 10002004), (10000005, 10002005)] (l := [(3, .c (.ptr 10000000 0)), (4, .c (.own 10000001 false)), (5, .c (.own 10000002 false)), (9, .c (.int .i64 r8_.1)), (10, .c (.bool r8_.2)), (12, .c (.own 10000003 false)), (13, .c (.bool r15_.1))]) (st' := [(10000000, .rc [.own 10000004 false, .own 10000005 false]), (10000001, .sl 3 (.int .i64) r1_.1 .shallow), (10000002, .sl 3 (.int .i64) r2_.2 .shallow), (10000003, .sl 3 (.int .i64) r15_.2 .shallow), (10000004, .sl 3 (.int .i64) r1_.2.1 .shallow), (10000005, .sl 124 (.pair (.int .i64) (.pair (.sl (.int .i64)) (.pair (.sl (.int .i64)) (.pair (.int .i64) (.sl (.sl (.int .i64))))))) r1_.2.2 (.deep true .no))]) rfl rfl ⟨⟨⟨⟨rfl, rfl⟩, trivial⟩, ⟨⟨rfl, rfl⟩, trivial⟩, trivial⟩, ⟨rfl, rfl⟩, ⟨rfl, rfl⟩, ⟨rfl, rfl⟩, ⟨rfl, rfl⟩, ⟨rfl, rfl⟩, trivial⟩ ⟨⟨⟨rfl, rfl⟩, rfl⟩, ⟨⟨rfl, rfl⟩, trivial⟩, ⟨⟨rfl, rfl⟩, trivial⟩, rfl, .inl rfl, ⟨⟨rfl, rfl⟩, trivial⟩, .inl rfl, trivial⟩)⟩
              · skip
                obtain ⟨r13_, hr, he⟩ := ok_bind he
                refine ⟨r13_, hr, ?_⟩
                refine And.intro (fun hb => ?_) (fun hb => ?_)
                · have he := ok_f he hb
                  refine And.intro (fun hb => ?_) (fun hb => ?_)
                  · have he := ok_f he hb
                    refine And.intro (fun hb => ?_) (fun hb => ?_)
                    · have he := ok_t he hb
                      obtain ⟨r14_, hr, he⟩ := ok_bind he
                      refine ⟨r14_, hr, ?_⟩
                      refine And.intro (fun hb => ?_) (fun hb => ?_)
                      · have he := ok_t he hb
                        have he := ok_some he
                        exact ⟨rfl, _, _, (leads_ren [] (l := [(2, .c (.bool false))]) (st' := []) rfl rfl trivial ⟨.inr rfl, trivial⟩), he⟩
                      · have he := ok_f he hb
                        exact ⟨(), he, (leads_ren [(10002000, 10000000), (10002001, 10000001), (10002002, 10000002), (10002003, 10000003), (10002004, 10000004), (10002005, 10000005)] (l := [(3, .c (.ptr 10002000 0)), (4, .c (.own 10002001 false)), (5, .c (.own 10002002 false)), (9, .c (.int .i64 r8_.1)), (10, .c (.bool r8_.2)), (12, .c (.own 10002003 false))]) (st' := [(10002000, .rc [.own 10002004 false, .own 10002005 false]), (10002001, .sl 3 (.int .i64) r1_.1 .shallow), (10002002, .sl 3 (.int .i64) r2_.2 .shallow), (10002003, .sl 3 (.int .i64) i1 .shallow), (10002004, .sl 3 (.int .i64) r1_.2.1 .shallow), (10002005, .sl 124 (.pair (.int .i64) (.pair (.sl (.int .i64)) (.pair (.sl (.int .i64)) (.pair (.int .i64) (.sl (.sl (.int .i64))))))) r1_.2.2 (.deep true .no))]) rfl rfl ⟨⟨⟨⟨rfl, rfl⟩, trivial⟩, ⟨⟨rfl, rfl⟩, trivial⟩, trivial⟩, ⟨rfl, rfl⟩, ⟨rfl, rfl⟩, ⟨rfl, rfl⟩, ⟨rfl, rfl⟩, ⟨rfl, rfl⟩, trivial⟩ ⟨⟨⟨rfl, rfl⟩, rfl⟩, ⟨⟨rfl, rfl⟩, trivial⟩, ⟨⟨rfl, rfl⟩, trivial⟩, rfl, .inl rfl, ⟨⟨rfl, rfl⟩, trivial⟩, trivial⟩)⟩
                    · have he := ok_f he hb
                      exact ⟨(), he, (leads_ren [(10002000, 10000000), (10002001, 10000001), (10002002, 10000002), (10002003, 10000003), (10002004, 10000004), (10002005, 10000005)] (l := [(3, .c (.ptr 10002000 0)), (4, .c (.own 10002001 false)), (5, .c (.own 10002002 false)), (9, .c (.int .i64 r8_.1)), (10, .c (.bool r8_.2)), (12, .c (.own 10002003 false))]) (st' := [(10002000, .rc [.own 10002004 false, .own 10002005 false]), (10002001, .sl 3 (.int .i64) r1_.1 .shallow), (10002002, .sl 3 (.int .i64) r2_.2 .shallow), (10002003, .sl 3 (.int .i64) i1 .shallow), (10002004, .sl 3 (.int .i64) r1_.2.1 .shallow), (10002005, .sl 124 (.pair (.int .i64) (.pair (.sl (.int .i64)) (.pair (.sl (.int .i64)) (.pair (.int .i64) (.sl (.sl (.int .i64))))))) r1_.2.2 (.deep true .no))]) rfl rfl ⟨⟨⟨⟨rfl, rfl⟩, trivial⟩, ⟨⟨rfl, rfl⟩, trivial⟩, trivial⟩, ⟨rfl, rfl⟩, ⟨rfl, rfl⟩, ⟨rfl, rfl⟩, ⟨rfl, rfl⟩, ⟨rfl, rfl⟩, trivial⟩ ⟨⟨⟨rfl, rfl⟩, rfl⟩, ⟨⟨rfl, rfl⟩, trivial⟩, ⟨⟨rfl, rfl⟩, trivial⟩, rfl, .inl rfl, ⟨⟨rfl, rfl⟩, trivial⟩, trivial⟩)⟩
                  · have he := ok_t he hb
                    have he := ok_some he
                    exact ⟨rfl, _, _, (leads_ren [] (l := [(2, .c (.bool false))]) (st' := []) rfl rfl trivial ⟨.inr rfl, trivial⟩), he⟩
                · have he := ok_t he hb
                  have he := ok_some he
                  exact ⟨rfl, _, _, (leads_ren [] (l := [(2, .c (.bool false))]) (st' := []) rfl rfl trivial ⟨.inr rfl, trivial⟩), he⟩
            · have he := ok_f he hb
              exact ⟨(), ok_up he, (leads_ren [(10003000, 10000000), (10003001, 10000002), (10003002, 10000004), (10003003, 10000005)] (l := [(3, .c (.ptr 10003000 0)), (5, .c (.own 10003001 false)), (10, .c (.bool r8_.2))]) (st' := [(10003000, .rc [.own 10003002 false, .own 10003003 false]), (10003001, .sl 3 (.int .i64) r2_.2 .shallow), (10003002, .sl 3 (.int .i64) r1_.2.1 .shallow), (10003003, .sl 124 (.pair (.int .i64) (.pair (.sl (.int .i64)) (.pair (.sl (.int .i64)) (.pair (.int .i64) (.sl (.sl (.int .i64))))))) r1_.2.2 (.deep true .no))]) rfl rfl ⟨⟨⟨⟨rfl, rfl⟩, trivial⟩, ⟨⟨rfl, rfl⟩, trivial⟩, trivial⟩, ⟨rfl, rfl⟩, ⟨rfl, rfl⟩, ⟨rfl, rfl⟩, trivial⟩ ⟨⟨⟨rfl, rfl⟩, rfl⟩, ⟨⟨rfl, rfl⟩, trivial⟩, .inl rfl, trivial⟩)⟩
      · have he := ok_t he hb
        refine And.intro (fun hb => ?_) (fun hb => ?_)
        · have he := ok_t he hb
          obtain ⟨r6_, hr, he⟩ := ok_bind he
          refine ⟨r6_, hr, ?_⟩
          have he := ok_some he
          exact ⟨rfl, _, _, (leads_ren [] (l := [(2, .c (.bool r6_))]) (st' := []) rfl rfl trivial ⟨.inl rfl, trivial⟩), he⟩
        · have he := ok_f he hb
          have he := ok_some he
          exact ⟨rfl, _, _, (leads_ren [] (l := [(2, .c (.bool false))]) (st' := []) rfl rfl trivial ⟨.inr rfl, trivial⟩), he⟩
    · have he := ok_t he hb
      refine And.intro (fun hb => ?_) (fun hb => ?_)
      · have he := ok_t he hb
        obtain ⟨r7_, hr, he⟩ := ok_bind he
        refine ⟨r7_, hr, ?_⟩
        have he := ok_some he
        exact ⟨rfl, _, _, (leads_ren [] (l := [(2, .c (.bool r7_))]) (st' := []) rfl rfl trivial ⟨.inl rfl, trivial⟩), he⟩
      · have he := ok_f he hb
        have he := ok_some he
        exact ⟨rfl, _, _, (leads_ren [] (l := [(2, .c (.bool false))]) (st' := []) rfl rfl trivial ⟨.inr rfl, trivial⟩), he⟩

end Go.AE.Y
