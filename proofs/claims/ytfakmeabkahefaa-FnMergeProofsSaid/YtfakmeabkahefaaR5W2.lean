/-
  Walks: each function keeps the contract that its model gives. No conditions.
-/
import Derived.Test.YtfakmeabkahefaaR5Tab
import Derived.Test.YtfakmeabkahefaaR5W1
import Derived.Test.YtfakmeabkahefaaR5S
namespace Go.AE.Y
open Go Go.AE Go.Proofs
set_option linter.unusedVariables false
set_option maxHeartbeats 2000000
set_option maxRecDepth 100000

noncomputable def c_spec_l3Slack : Con := fun args st => match args, st with
  | [.agg [.imm (.pair (.int .i64) (.int .i64)) c__0, .int .i64 c__1], .c (.imm (.int .i64) p)], [] => .opt (Int) (spec_l3Slack (c__0, c__1) p) (fun r => .ret (.c (.int .i64 r)) [])
  | _, _ => .fail

noncomputable def C_spec_l3Slack : Cfg := { y := tys, n := 35, h := 0, tab := [(71, c_spec_l3State)], cut := [], hand := [], good := [], deep := [], sched := [] }

theorem t_spec_l3Slack : TabOk Try.prog C_spec_l3Slack := by
  refine tabOk_of ?_
  simp only [C_spec_l3Slack, List.forall_mem_cons]
  exact ⟨k_spec_l3State, fun p h => by cases h⟩

theorem k_spec_l3Slack : Entry Try.prog 59 c_spec_l3Slack := by
  refine entry_by (C := C_spec_l3Slack) mixed tys_ok t_spec_l3Slack (fn := Try.f59) (c := bd Try.f59) (by kernel_rfl) (by kernel_rfl) (by kernel_rfl) (by kernel_rfl) ?_
  intro args st k he
  unfold c_spec_l3Slack at he
  split at he
  rotate_left
  · exact he.elim
  rename_i c__0 c__1 p
  have he : Ok (spec_l3Slack (c__0, c__1) p) (fun r => k (.c (.int .i64 r)) []) := he
  refine ⟨rfl, rfl, ?_⟩
  have he := ok_rq he
  refine And.intro he.1 ?_
  have he := he.2
  refine loop_model mixed tys_ok t_spec_l3Slack (S := Int × Int) (I := (fun (n, i) => (envOf [(1, .c (.imm (.int .i64) p)), (2, .c (.ptr 10000000 0)), (5, .c (.int .i64 n)), (6, .c (.int .i64 i))], [(10000000, .rc [.imm (.pair (.int .i64) (.int .i64)) (c__0, c__1).1, .int .i64 (c__0, c__1).2])]))) (f := spec_l3Slack_l1 (c__0, c__1) p) (K := (fun r => k (.c (.int .i64 r)) [])) he (leads_ren [(10000000, 2)] (l := [(1, .c (.imm (.int .i64) p)), (2, .c (.ptr 10000000 0)), (5, .c (.int .i64 (0 - (c__0, c__1).2))), (6, .c (.int .i64 (0:Int)))]) (st' := [(10000000, .rc [.imm (.pair (.int .i64) (.int .i64)) (c__0, c__1).1, .int .i64 (c__0, c__1).2])]) rfl rfl ⟨⟨.inl rfl, rfl, trivial⟩, trivial⟩ ⟨.inl rfl, ⟨⟨rfl, rfl⟩, rfl⟩, rfl, rfl, trivial⟩) ?_
  rintro ⟨n, i⟩ J1 he
  refine And.intro (fun hb => ?_) (fun hb => ?_)
  · have he := ok_t he hb
    have he := ok_rq he
    refine And.intro he.1 ?_
    have he := he.2
    obtain ⟨r1_, hr, he⟩ := ok_bind he
    refine ⟨r1_, hr, ?_⟩
    refine And.intro (fun hb => ?_) (fun hb => ?_)
    · have he := ok_t he hb
      have he := ok_rq he
      refine And.intro he.1 ?_
      have he := he.2
      have he := ok_rq he
      refine And.intro he.1 ?_
      have he := he.2
      have he := ok_rq he
      refine And.intro he.1 ?_
      have he := he.2
      have he := ok_some he
      exact ⟨((n + ((c__0, c__1).1.getD i.toNat (0, 0)).1), (i + (1:Int))), he, (leads_ren [] (l := [(1, .c (.imm (.int .i64) p)), (2, .c (.ptr 10000000 0)), (5, .c (.int .i64 (n + ((c__0, c__1).1.getD i.toNat (0, 0)).1))), (6, .c (.int .i64 (i + (1:Int))))]) (st' := [(10000000, .rc [.imm (.pair (.int .i64) (.int .i64)) (c__0, c__1).1, .int .i64 (c__0, c__1).2])]) rfl rfl ⟨⟨.inl rfl, rfl, trivial⟩, trivial⟩ ⟨.inl rfl, ⟨⟨rfl, rfl⟩, rfl⟩, rfl, rfl, trivial⟩)⟩
    · have he := ok_f he hb
      have he := ok_rq he
      refine And.intro he.1 ?_
      have he := he.2
      have he := ok_some he
      exact ⟨(n, (i + (1:Int))), he, (leads_ren [] (l := [(1, .c (.imm (.int .i64) p)), (2, .c (.ptr 10000000 0)), (5, .c (.int .i64 n)), (6, .c (.int .i64 (i + (1:Int))))]) (st' := [(10000000, .rc [.imm (.pair (.int .i64) (.int .i64)) (c__0, c__1).1, .int .i64 (c__0, c__1).2])]) rfl rfl ⟨⟨.inl rfl, rfl, trivial⟩, trivial⟩ ⟨.inl rfl, ⟨⟨rfl, rfl⟩, rfl⟩, rfl, rfl, trivial⟩)⟩
  · have he := ok_f he hb
    have he := ok_some he
    exact ⟨rfl, _, _, (leads_ren [] (l := [(4, .c (.int .i64 n))]) (st' := []) rfl rfl trivial ⟨rfl, trivial⟩), he⟩

noncomputable def c_spec_l3Implied : Con := fun args st => match args, st with
  | [.agg [.imm (.pair (.int .i64) (.int .i64)) c__0, .int .i64 c__1], .c (.imm (.int .i64) p)], [] => .opt ((List Int)) (spec_l3Implied (c__0, c__1) p) (fun r => .ret (.c (.own 900 false)) [(900, .sl 3 (.int .i64) r .shallow)])
  | _, _ => .fail

noncomputable def C_spec_l3Implied : Cfg := { y := tys, n := 52, h := 0, tab := [(59, c_spec_l3Slack), (71, c_spec_l3State)], cut := [], hand := [], good := [], deep := [], sched := [] }

theorem t_spec_l3Implied : TabOk Try.prog C_spec_l3Implied := by
  refine tabOk_of ?_
  simp only [C_spec_l3Implied, List.forall_mem_cons]
  exact ⟨k_spec_l3Slack, k_spec_l3State, fun p h => by cases h⟩

theorem k_spec_l3Implied : Entry Try.prog 60 c_spec_l3Implied := by
  refine entry_by (C := C_spec_l3Implied) mixed tys_ok t_spec_l3Implied (fn := Try.f60) (c := bd Try.f60) (by kernel_rfl) (by kernel_rfl) (by kernel_rfl) (by kernel_rfl) ?_
  intro args st k he
  unfold c_spec_l3Implied at he
  split at he
  rotate_left
  · exact he.elim
  rename_i c__0 c__1 p
  have he : Ok (spec_l3Implied (c__0, c__1) p) (fun r => k (.c (.own 900 false)) [(900, .sl 3 (.int .i64) r .shallow)]) := he
  refine ⟨rfl, rfl, ?_⟩
  obtain ⟨r1_, hr, he⟩ := ok_bind he
  refine ⟨r1_, hr, ?_⟩
  refine loop_model mixed tys_ok t_spec_l3Implied (S := Int × (List Int)) (I := (fun (i, out) => (envOf [(1, .c (.imm (.int .i64) p)), (2, .c (.ptr 10000000 0)), (5, .c (.own 10000001 false)), (6, .c (.int .i64 r1_)), (7, .c (.int .i64 i))], [(10000000, .rc [.imm (.pair (.int .i64) (.int .i64)) (c__0, c__1).1, .int .i64 (c__0, c__1).2]), (10000001, .sl 3 (.int .i64) out .shallow)]))) (f := spec_l3Implied_l1 (c__0, c__1) p r1_) (K := (fun r => k (.c (.own 900 false)) [(900, .sl 3 (.int .i64) r .shallow)])) he (leads_ren [(10000000, 2), (10000001, 8)] (l := [(1, .c (.imm (.int .i64) p)), (2, .c (.ptr 10000000 0)), (5, .c (.own 10000001 false)), (6, .c (.int .i64 r1_)), (7, .c (.int .i64 (0:Int)))]) (st' := [(10000000, .rc [.imm (.pair (.int .i64) (.int .i64)) (c__0, c__1).1, .int .i64 (c__0, c__1).2]), (10000001, .sl 3 (.int .i64) ([] : List Int) .shallow)]) rfl rfl ⟨⟨.inl rfl, rfl, trivial⟩, ⟨rfl, rfl⟩, trivial⟩ ⟨.inl rfl, ⟨⟨rfl, rfl⟩, rfl⟩, ⟨⟨rfl, rfl⟩, trivial⟩, rfl, rfl, trivial⟩) ?_
  rintro ⟨i, out⟩ J1 he
  refine And.intro (fun hb => ?_) (fun hb => ?_)
  · have he := ok_t he hb
    refine And.intro (fun hb => ?_) (fun hb => ?_)
    · have he := ok_t he hb
      have he := ok_rq he
      refine And.intro he.1 ?_
      have he := he.2
      obtain ⟨r3_, hr, he⟩ := ok_bind he
      refine ⟨r3_, hr, ?_⟩
      refine And.intro (fun hb => ?_) (fun hb => ?_)
      · have he := ok_t he hb
        have he := ok_rq he
        refine And.intro he.1 ?_
        have he := he.2
        refine And.intro (fun hb => ?_) (fun hb => ?_)
        · have he := ok_t he hb
          have he := ok_rq he
          refine And.intro he.1 ?_
          have he := he.2
          have he := ok_rq he
          refine And.intro he.1 ?_
          have he := he.2
          have he := ok_rq he
          refine And.intro he.1 ?_
          have he := he.2
          have he := ok_some he
          exact ⟨((i + (1:Int)), (out ++ [((c__0, c__1).1.getD i.toNat (0, 0)).2])), he, (leads_ren [(10000001, 50)] (l := [(1, .c (.imm (.int .i64) p)), (2, .c (.ptr 10000000 0)), (5, .c (.own 10000001 false)), (6, .c (.int .i64 r1_)), (7, .c (.int .i64 (i + (1:Int))))]) (st' := [(10000000, .rc [.imm (.pair (.int .i64) (.int .i64)) (c__0, c__1).1, .int .i64 (c__0, c__1).2]), (10000001, .sl 3 (.int .i64) (out ++ [((c__0, c__1).1.getD i.toNat (0, 0)).2]) .shallow)]) rfl rfl ⟨⟨.inl rfl, rfl, trivial⟩, ⟨rfl, rfl⟩, trivial⟩ ⟨.inl rfl, ⟨⟨rfl, rfl⟩, rfl⟩, ⟨⟨rfl, rfl⟩, trivial⟩, rfl, rfl, trivial⟩)⟩
        · have he := ok_f he hb
          have he := ok_rq he
          refine And.intro he.1 ?_
          have he := he.2
          have he := ok_some he
          exact ⟨((i + (1:Int)), out), he, (leads_ren [] (l := [(1, .c (.imm (.int .i64) p)), (2, .c (.ptr 10000000 0)), (5, .c (.own 10000001 false)), (6, .c (.int .i64 r1_)), (7, .c (.int .i64 (i + (1:Int))))]) (st' := [(10000000, .rc [.imm (.pair (.int .i64) (.int .i64)) (c__0, c__1).1, .int .i64 (c__0, c__1).2]), (10000001, .sl 3 (.int .i64) out .shallow)]) rfl rfl ⟨⟨.inl rfl, rfl, trivial⟩, ⟨rfl, rfl⟩, trivial⟩ ⟨.inl rfl, ⟨⟨rfl, rfl⟩, rfl⟩, ⟨⟨rfl, rfl⟩, trivial⟩, rfl, rfl, trivial⟩)⟩
      · have he := ok_f he hb
        have he := ok_rq he
        refine And.intro he.1 ?_
        have he := he.2
        have he := ok_some he
        exact ⟨((i + (1:Int)), out), he, (leads_ren [] (l := [(1, .c (.imm (.int .i64) p)), (2, .c (.ptr 10000000 0)), (5, .c (.own 10000001 false)), (6, .c (.int .i64 r1_)), (7, .c (.int .i64 (i + (1:Int))))]) (st' := [(10000000, .rc [.imm (.pair (.int .i64) (.int .i64)) (c__0, c__1).1, .int .i64 (c__0, c__1).2]), (10000001, .sl 3 (.int .i64) out .shallow)]) rfl rfl ⟨⟨.inl rfl, rfl, trivial⟩, ⟨rfl, rfl⟩, trivial⟩ ⟨.inl rfl, ⟨⟨rfl, rfl⟩, rfl⟩, ⟨⟨rfl, rfl⟩, trivial⟩, rfl, rfl, trivial⟩)⟩
    · have he := ok_f he hb
      have he := ok_some he
      exact ⟨rfl, _, _, (leads_ren [(900, 10000001)] (l := [(4, .c (.own 900 false))]) (st' := [(900, .sl 3 (.int .i64) out .shallow)]) rfl rfl ⟨⟨rfl, rfl⟩, trivial⟩ ⟨⟨⟨rfl, rfl⟩, trivial⟩, trivial⟩), he⟩
  · have he := ok_f he hb
    have he := ok_some he
    exact ⟨rfl, _, _, (leads_ren [(900, 10000001)] (l := [(4, .c (.own 900 false))]) (st' := [(900, .sl 3 (.int .i64) out .shallow)]) rfl rfl ⟨⟨rfl, rfl⟩, trivial⟩ ⟨⟨⟨rfl, rfl⟩, trivial⟩, trivial⟩), he⟩

noncomputable def c_spec_l3Propagate : Con := fun args st => match args, st with
  | [.c (.imm (.pair (.sl (.pair (.int .i64) (.int .i64))) (.int .i64)) list_), .c (.own 0 false)], [(0, .sl 3 (.int .i64) p .shallow)] => .opt (Int × (List Int)) (spec_l3Propagate list_ p) (fun r => .ret (.c (.int .i64 r.1)) [(0, .sl 3 (.int .i64) r.2 .shallow)])
  | _, _ => .fail

noncomputable def C_spec_l3Propagate : Cfg := { y := tys, n := 42, h := 1, tab := [(49, c_spec_l3Assign), (59, c_spec_l3Slack), (60, c_spec_l3Implied)], cut := [], hand := [(49, [0])], good := [], deep := [], sched := [] }

theorem t_spec_l3Propagate : TabOk Try.prog C_spec_l3Propagate := by
  refine tabOk_of ?_
  simp only [C_spec_l3Propagate, List.forall_mem_cons]
  exact ⟨k_spec_l3Assign, k_spec_l3Slack, k_spec_l3Implied, fun p h => by cases h⟩

theorem k_spec_l3Propagate : Entry Try.prog 50 c_spec_l3Propagate := by
  refine entry_by (C := C_spec_l3Propagate) mixed tys_ok t_spec_l3Propagate (fn := Try.f50) (c := bd Try.f50) (by kernel_rfl) (by kernel_rfl) (by kernel_rfl) (by kernel_rfl) ?_
  intro args st k he
  unfold c_spec_l3Propagate at he
  split at he
  rotate_left
  · exact he.elim
  rename_i list_ p
  have he : Ok (spec_l3Propagate list_ p) (fun r => k (.c (.int .i64 r.1)) [(0, .sl 3 (.int .i64) r.2 .shallow)]) := he
  refine ⟨rfl, rfl, ?_⟩
  refine loop_model mixed tys_ok t_spec_l3Propagate (S := Bool × (List Int)) (I := (fun (changed, p4) => (envOf [(0, .c (.imm (.pair (.sl (.pair (.int .i64) (.int .i64))) (.int .i64)) list_)), (1, .c (.own 0 false)), (5, .c (.bool changed))], [(0, .sl 3 (.int .i64) p4 .shallow)]))) (f := spec_l3Propagate_l1 list_) (K := (fun r => k (.c (.int .i64 r.1)) [(0, .sl 3 (.int .i64) r.2 .shallow)])) he (leads_ren [] (l := [(0, .c (.imm (.pair (.sl (.pair (.int .i64) (.int .i64))) (.int .i64)) list_)), (1, .c (.own 0 false)), (5, .c (.bool true))]) (st' := [(0, .sl 3 (.int .i64) p .shallow)]) rfl rfl ⟨⟨rfl, rfl⟩, trivial⟩ ⟨.inl rfl, ⟨⟨rfl, rfl⟩, trivial⟩, .inr rfl, trivial⟩) ?_
  rintro ⟨changed, p4⟩ J1 he
  refine And.intro (fun hb => ?_) (fun hb => ?_)
  · have he := ok_t he hb
    refine loop_model mixed tys_ok t_spec_l3Propagate (S := Bool × Int × (List Int)) (I := (fun (changed4, i1, p6) => (envOf [(0, .c (.imm (.pair (.sl (.pair (.int .i64) (.int .i64))) (.int .i64)) list_)), (1, .c (.own 0 false)), (5, .c (.bool changed4)), (6, .c (.int .i64 i1))], [(0, .sl 3 (.int .i64) p6 .shallow)]))) (f := spec_l3Propagate_l2 list_) (K := (LK J1 (fun r => k (.c (.int .i64 r.1)) [(0, .sl 3 (.int .i64) r.2 .shallow)]))) he (leads_ren [] (l := [(0, .c (.imm (.pair (.sl (.pair (.int .i64) (.int .i64))) (.int .i64)) list_)), (1, .c (.own 0 false)), (5, .c (.bool false)), (6, .c (.int .i64 (0:Int)))]) (st' := [(0, .sl 3 (.int .i64) p4 .shallow)]) rfl rfl ⟨⟨rfl, rfl⟩, trivial⟩ ⟨.inl rfl, ⟨⟨rfl, rfl⟩, trivial⟩, .inr rfl, rfl, trivial⟩) ?_
    rintro ⟨changed4, i1, p6⟩ J2 he
    refine And.intro (fun hb => ?_) (fun hb => ?_)
    · have he := ok_t he hb
      have he := ok_rq he
      refine And.intro he.1 ?_
      have he := he.2
      obtain ⟨r13_, hr, he⟩ := ok_bind he
      refine ⟨r13_, hr, ?_⟩
      refine And.intro (fun hb => ?_) (fun hb => ?_)
      · have he := ok_t he hb
        have he := ok_some he
        exact ⟨rfl, _, _, (leads_ren [] (l := [(4, .c (.int .i64 i1))]) (st' := [(0, .sl 3 (.int .i64) p6 .shallow)]) rfl rfl ⟨⟨rfl, rfl⟩, trivial⟩ ⟨rfl, trivial⟩), he⟩
      · have he := ok_f he hb
        have he := ok_rq he
        refine And.intro he.1 ?_
        have he := he.2
        obtain ⟨r14_, hr, he⟩ := ok_bind he
        refine ⟨r14_, hr, ?_⟩
        refine loop_model mixed tys_ok t_spec_l3Propagate (S := Bool × Int × (List Int)) (I := (fun (changed6, k_3, p7) => (envOf [(0, .c (.imm (.pair (.sl (.pair (.int .i64) (.int .i64))) (.int .i64)) list_)), (1, .c (.own 0 false)), (5, .c (.bool changed6)), (6, .c (.int .i64 i1)), (7, .c (.own 10006000 false)), (8, .c (.int .i64 k_3))], [(0, .sl 3 (.int .i64) p7 .shallow), (10006000, .sl 3 (.int .i64) r14_ .shallow)]))) (f := spec_l3Propagate_l3 i1 r14_) (K := (LK J2 (LK J1 (fun r => k (.c (.int .i64 r.1)) [(0, .sl 3 (.int .i64) r.2 .shallow)])))) he (leads_ren [(10006000, 30900)] (l := [(0, .c (.imm (.pair (.sl (.pair (.int .i64) (.int .i64))) (.int .i64)) list_)), (1, .c (.own 0 false)), (5, .c (.bool changed4)), (6, .c (.int .i64 i1)), (7, .c (.own 10006000 false)), (8, .c (.int .i64 (0:Int)))]) (st' := [(0, .sl 3 (.int .i64) p6 .shallow), (10006000, .sl 3 (.int .i64) r14_ .shallow)]) rfl rfl ⟨⟨rfl, rfl⟩, ⟨rfl, rfl⟩, trivial⟩ ⟨.inl rfl, ⟨⟨rfl, rfl⟩, trivial⟩, .inl rfl, rfl, ⟨⟨rfl, rfl⟩, trivial⟩, rfl, trivial⟩) ?_
        rintro ⟨changed6, k_3, p7⟩ J3 he
        refine And.intro (fun hb => ?_) (fun hb => ?_)
        · have he := ok_t he hb
          have he := ok_rq he
          refine And.intro he.1 ?_
          have he := he.2
          obtain ⟨r16_, hr, he⟩ := ok_bind he
          refine ⟨r16_, hr, ?_⟩
          have he := ok_rq he
          refine And.intro he.1 ?_
          have he := he.2
          have he := ok_some he
          exact ⟨(true, (k_3 + (1:Int)), r16_), he, (leads_ren [] (l := [(0, .c (.imm (.pair (.sl (.pair (.int .i64) (.int .i64))) (.int .i64)) list_)), (1, .c (.own 0 false)), (5, .c (.bool true)), (6, .c (.int .i64 i1)), (7, .c (.own 10006000 false)), (8, .c (.int .i64 (k_3 + (1:Int))))]) (st' := [(0, .sl 3 (.int .i64) r16_ .shallow), (10006000, .sl 3 (.int .i64) r14_ .shallow)]) rfl rfl ⟨⟨rfl, rfl⟩, ⟨rfl, rfl⟩, trivial⟩ ⟨.inl rfl, ⟨⟨rfl, rfl⟩, trivial⟩, .inr rfl, rfl, ⟨⟨rfl, rfl⟩, trivial⟩, rfl, trivial⟩)⟩
        · have he := ok_f he hb
          have he := ok_rq he
          refine And.intro he.1 ?_
          have he := he.2
          have he := ok_some he
          exact ⟨(changed6, (i1 + (1:Int)), p7), he, (leads_ren [] (l := [(0, .c (.imm (.pair (.sl (.pair (.int .i64) (.int .i64))) (.int .i64)) list_)), (1, .c (.own 0 false)), (5, .c (.bool changed6)), (6, .c (.int .i64 (i1 + (1:Int))))]) (st' := [(0, .sl 3 (.int .i64) p7 .shallow)]) rfl rfl ⟨⟨rfl, rfl⟩, trivial⟩ ⟨.inl rfl, ⟨⟨rfl, rfl⟩, trivial⟩, .inl rfl, rfl, trivial⟩)⟩
    · have he := ok_f he hb
      have he := ok_some he
      exact ⟨(changed4, p6), he, (leads_ren [] (l := [(0, .c (.imm (.pair (.sl (.pair (.int .i64) (.int .i64))) (.int .i64)) list_)), (1, .c (.own 0 false)), (5, .c (.bool changed4))]) (st' := [(0, .sl 3 (.int .i64) p6 .shallow)]) rfl rfl ⟨⟨rfl, rfl⟩, trivial⟩ ⟨.inl rfl, ⟨⟨rfl, rfl⟩, trivial⟩, .inl rfl, trivial⟩)⟩
  · have he := ok_f he hb
    have he := ok_some he
    exact ⟨rfl, _, _, (leads_ren [] (l := [(4, .c (.int .i64 (-1:Int)))]) (st' := [(0, .sl 3 (.int .i64) p4 .shallow)]) rfl rfl ⟨⟨rfl, rfl⟩, trivial⟩ ⟨rfl, trivial⟩), he⟩

noncomputable def c_spec_ClauseOf : Con := fun args st => match args, st with
  | [.c (.imm (.int .i64) a0)], [] => .opt (Bool × Int × (List (Int × Int))) (spec_ClauseOf a0) (fun r => .ret (.tup [.agg [.own 901 false, .int .i64 r.2.1], .c (.bool r.1)]) [(900, .rc [.own 901 false, .int .i64 r.2.1]), (901, .sl 63 (.pair (.int .i64) (.int .i64)) r.2.2 .shallow)])
  | _, _ => .fail

noncomputable def C_spec_ClauseOf : Cfg := { y := tys, n := 71, h := 0, tab := [(57, c_spec_l1Lit), (58, c_spec_l1Abs)], cut := [13], hand := [], good := [], deep := [], sched := [(18, (.first 0 (.first 2 (.first 3 (.first 4 (.alt 1 (.alt 5 (.alt 6 (.alt 7 (.alt 8 (.first 9 (.alt 10 .done .stop)) .stop) .stop) .stop) .stop) (.alt 5 (.alt 1 (.alt 6 (.alt 7 (.alt 8 (.first 9 (.alt 10 .done .stop)) .stop) .stop) .stop) (.alt 6 (.alt 1 (.alt 7 (.alt 8 (.first 9 (.alt 10 .done .stop)) .stop) .stop) (.alt 7 (.alt 1 (.alt 8 (.first 9 (.alt 10 .done .stop)) .stop) .stop) .stop)) .stop)) .stop)))))))] }

theorem t_spec_ClauseOf : TabOk Try.prog C_spec_ClauseOf := by
  refine tabOk_of ?_
  simp only [C_spec_ClauseOf, List.forall_mem_cons]
  exact ⟨k_spec_l1Lit, k_spec_l1Abs, fun p h => by cases h⟩

theorem k_spec_ClauseOf : Entry Try.prog 44 c_spec_ClauseOf := by
  refine entry_by (C := C_spec_ClauseOf) mixed tys_ok t_spec_ClauseOf (fn := Try.f44) (c := bd Try.f44) (by kernel_rfl) (by kernel_rfl) (by kernel_rfl) (by kernel_rfl) ?_
  intro args st k he
  unfold c_spec_ClauseOf at he
  split at he
  rotate_left
  · exact he.elim
  rename_i a0
  have he : Ok (spec_ClauseOf a0) (fun r => k (.tup [.agg [.own 901 false, .int .i64 r.2.1], .c (.bool r.1)]) [(900, .rc [.own 901 false, .int .i64 r.2.1]), (901, .sl 63 (.pair (.int .i64) (.int .i64)) r.2.2 .shallow)]) := he
  refine ⟨rfl, rfl, ?_⟩
  have he := ok_rq he
  refine And.intro he.1 ?_
  have he := he.2
  refine And.intro (fun hb => ?_) (fun hb => ?_)
  · have he := ok_t he hb
    have he := ok_some he
    exact ⟨rfl, _, _, (leads_ren [(900, 2)] (l := [(2, .c (.ptr 900 0)), (3, .c (.bool false))]) (st' := [(900, .rc [.own 901 false, .int .i64 (0:Int)]), (901, .sl 63 (.pair (.int .i64) (.int .i64)) ([] : List (Int × Int)) .shallow)]) rfl rfl ⟨⟨⟨rfl, trivial⟩, rfl, trivial⟩, trivial, trivial⟩ ⟨⟨⟨rfl, rfl⟩, rfl⟩, .inr rfl, trivial⟩), he⟩
  · have he := ok_f he hb
    refine seq_model mixed tys_ok t_spec_ClauseOf (S := (List Int)) (I := (fun i2 => (envOf [(2, .c (.ptr 10001000 0)), (4, .c (.own 10001001 false))], [(10001000, .rc [.nil, .int .i64 (0:Int)]), (10001001, .sl 3 (.int .i64) i2 .shallow)]))) (B := fun s => Ok (spec_ClauseOf_j1 s) (fun r => k (.tup [.agg [.own 901 false, .int .i64 r.2.1], .c (.bool r.1)]) [(900, .rc [.own 901 false, .int .i64 r.2.1]), (901, .sl 63 (.pair (.int .i64) (.int .i64)) r.2.2 .shallow)])) ?_ ?_
    · rintro i2 he
      refine loop_model mixed tys_ok t_spec_ClauseOf (S := Int × (List (Int × Int))) (I := (fun (i3, i_0) => (envOf [(2, .c (.ptr 10002000 0)), (4, .c (.own 10002001 false)), (7, .c (.ptr 10002002 0)), (8, .c (.int .i64 i3))], [(10002000, .rc [.nil, .int .i64 (0:Int)]), (10002001, .sl 3 (.int .i64) i2 .shallow), (10002002, .rc [.own 10002003 false, .int .i64 (1:Int)]), (10002003, .sl 63 (.pair (.int .i64) (.int .i64)) i_0 .shallow)]))) (f := spec_ClauseOf_l1 i2) (K := (fun r => k (.tup [.agg [.own 901 false, .int .i64 r.2.1], .c (.bool r.1)]) [(900, .rc [.own 901 false, .int .i64 r.2.1]), (901, .sl 63 (.pair (.int .i64) (.int .i64)) r.2.2 .shallow)])) he (leads_ren [(10002000, 10001000), (10002001, 10001001), (10002002, 7)] (l := [(2, .c (.ptr 10002000 0)), (4, .c (.own 10002001 false)), (7, .c (.ptr 10002002 0)), (8, .c (.int .i64 (1:Int)))]) (st' := [(10002000, .rc [.nil, .int .i64 (0:Int)]), (10002001, .sl 3 (.int .i64) i2 .shallow), (10002002, .rc [.own 10002003 false, .int .i64 (1:Int)]), (10002003, .sl 63 (.pair (.int .i64) (.int .i64)) ([] : List (Int × Int)) .shallow)]) rfl rfl ⟨⟨rfl, rfl, trivial⟩, ⟨rfl, rfl⟩, ⟨⟨rfl, trivial⟩, rfl, trivial⟩, trivial, trivial⟩ ⟨⟨⟨rfl, rfl⟩, rfl⟩, ⟨⟨rfl, rfl⟩, trivial⟩, ⟨⟨rfl, rfl⟩, rfl⟩, rfl, trivial⟩) ?_
      rintro ⟨i3, i_0⟩ J1 he
      refine And.intro (fun hb => ?_) (fun hb => ?_)
      · have he := ok_t he hb
        have he := ok_rq he
        refine And.intro he.1 ?_
        have he := he.2
        refine And.intro (fun hb => ?_) (fun hb => ?_)
        · have he := ok_t he hb
          refine And.intro (by kernel_rfl) ?_
          have he := ok_rq he
          refine And.intro he.1 ?_
          have he := he.2
          have he := ok_rq he
          have hq1 := he.1
          have he := he.2
          refine And.intro ?_ (And.intro ?_ (trivial))
          · skip
            refine And.intro ?_ trivial
            refine And.intro ?_ trivial
            refine And.intro ?_ trivial
            refine And.intro ?_ trivial
            refine And.intro hq1 ?_
            refine And.intro ?_ trivial
            have he := ok_rq he
            refine And.intro he.1 ?_
            have he := he.2
            have he := ok_some he
            exact ⟨((i3 + (1:Int)), (i_0 ++ [((1:Int), (i2.getD i3.toNat 0))])), he, (leads_ren [(10002003, 68)] (l := [(2, .c (.ptr 10002000 0)), (4, .c (.own 10002001 false)), (7, .c (.ptr 10002002 0)), (8, .c (.int .i64 (i3 + (1:Int))))]) (st' := [(10002000, .rc [.nil, .int .i64 (0:Int)]), (10002001, .sl 3 (.int .i64) i2 .shallow), (10002002, .rc [.own 10002003 false, .int .i64 (1:Int)]), (10002003, .sl 63 (.pair (.int .i64) (.int .i64)) (i_0 ++ [((1:Int), (i2.getD i3.toNat 0))]) .shallow)]) rfl rfl ⟨⟨rfl, rfl, trivial⟩, ⟨rfl, rfl⟩, ⟨⟨⟨rfl, rfl⟩, trivial⟩, rfl, trivial⟩, ⟨rfl, rfl⟩, trivial⟩ ⟨⟨⟨rfl, rfl⟩, rfl⟩, ⟨⟨rfl, rfl⟩, trivial⟩, ⟨⟨rfl, rfl⟩, rfl⟩, rfl, trivial⟩)⟩
          · skip
            refine And.intro ?_ (And.intro ?_ (trivial))
            · skip
              refine And.intro ?_ trivial
              refine And.intro ?_ trivial
              refine And.intro ?_ trivial
              refine And.intro hq1 ?_
              refine And.intro ?_ trivial
              have he := ok_rq he
              refine And.intro he.1 ?_
              have he := he.2
              have he := ok_some he
              exact ⟨((i3 + (1:Int)), (i_0 ++ [((1:Int), (i2.getD i3.toNat 0))])), he, (leads_ren [(10002003, 68)] (l := [(2, .c (.ptr 10002000 0)), (4, .c (.own 10002001 false)), (7, .c (.ptr 10002002 0)), (8, .c (.int .i64 (i3 + (1:Int))))]) (st' := [(10002000, .rc [.nil, .int .i64 (0:Int)]), (10002001, .sl 3 (.int .i64) i2 .shallow), (10002002, .rc [.own 10002003 false, .int .i64 (1:Int)]), (10002003, .sl 63 (.pair (.int .i64) (.int .i64)) (i_0 ++ [((1:Int), (i2.getD i3.toNat 0))]) .shallow)]) rfl rfl ⟨⟨rfl, rfl, trivial⟩, ⟨rfl, rfl⟩, ⟨⟨⟨rfl, rfl⟩, trivial⟩, rfl, trivial⟩, ⟨rfl, rfl⟩, trivial⟩ ⟨⟨⟨rfl, rfl⟩, rfl⟩, ⟨⟨rfl, rfl⟩, trivial⟩, ⟨⟨rfl, rfl⟩, rfl⟩, rfl, trivial⟩)⟩
            · skip
              refine And.intro ?_ (And.intro ?_ (trivial))
              · skip
                refine And.intro ?_ trivial
                refine And.intro ?_ trivial
                refine And.intro hq1 ?_
                refine And.intro ?_ trivial
                have he := ok_rq he
                refine And.intro he.1 ?_
                have he := he.2
                have he := ok_some he
                exact ⟨((i3 + (1:Int)), (i_0 ++ [((1:Int), (i2.getD i3.toNat 0))])), he, (leads_ren [(10002003, 68)] (l := [(2, .c (.ptr 10002000 0)), (4, .c (.own 10002001 false)), (7, .c (.ptr 10002002 0)), (8, .c (.int .i64 (i3 + (1:Int))))]) (st' := [(10002000, .rc [.nil, .int .i64 (0:Int)]), (10002001, .sl 3 (.int .i64) i2 .shallow), (10002002, .rc [.own 10002003 false, .int .i64 (1:Int)]), (10002003, .sl 63 (.pair (.int .i64) (.int .i64)) (i_0 ++ [((1:Int), (i2.getD i3.toNat 0))]) .shallow)]) rfl rfl ⟨⟨rfl, rfl, trivial⟩, ⟨rfl, rfl⟩, ⟨⟨⟨rfl, rfl⟩, trivial⟩, rfl, trivial⟩, ⟨rfl, rfl⟩, trivial⟩ ⟨⟨⟨rfl, rfl⟩, rfl⟩, ⟨⟨rfl, rfl⟩, trivial⟩, ⟨⟨rfl, rfl⟩, rfl⟩, rfl, trivial⟩)⟩
              · skip
                refine And.intro ?_ trivial
                refine And.intro ?_ trivial
                refine And.intro hq1 ?_
                refine And.intro ?_ trivial
                have he := ok_rq he
                refine And.intro he.1 ?_
                have he := he.2
                have he := ok_some he
                exact ⟨((i3 + (1:Int)), (i_0 ++ [((1:Int), (i2.getD i3.toNat 0))])), he, (leads_ren [(10002003, 68)] (l := [(2, .c (.ptr 10002000 0)), (4, .c (.own 10002001 false)), (7, .c (.ptr 10002002 0)), (8, .c (.int .i64 (i3 + (1:Int))))]) (st' := [(10002000, .rc [.nil, .int .i64 (0:Int)]), (10002001, .sl 3 (.int .i64) i2 .shallow), (10002002, .rc [.own 10002003 false, .int .i64 (1:Int)]), (10002003, .sl 63 (.pair (.int .i64) (.int .i64)) (i_0 ++ [((1:Int), (i2.getD i3.toNat 0))]) .shallow)]) rfl rfl ⟨⟨rfl, rfl, trivial⟩, ⟨rfl, rfl⟩, ⟨⟨⟨rfl, rfl⟩, trivial⟩, rfl, trivial⟩, ⟨rfl, rfl⟩, trivial⟩ ⟨⟨⟨rfl, rfl⟩, rfl⟩, ⟨⟨rfl, rfl⟩, trivial⟩, ⟨⟨rfl, rfl⟩, rfl⟩, rfl, trivial⟩)⟩
        · have he := ok_f he hb
          have he := ok_rq he
          refine And.intro he.1 ?_
          have he := he.2
          have he := ok_some he
          exact ⟨((i3 + (1:Int)), i_0), he, (leads_ren [] (l := [(2, .c (.ptr 10002000 0)), (4, .c (.own 10002001 false)), (7, .c (.ptr 10002002 0)), (8, .c (.int .i64 (i3 + (1:Int))))]) (st' := [(10002000, .rc [.nil, .int .i64 (0:Int)]), (10002001, .sl 3 (.int .i64) i2 .shallow), (10002002, .rc [.own 10002003 false, .int .i64 (1:Int)]), (10002003, .sl 63 (.pair (.int .i64) (.int .i64)) i_0 .shallow)]) rfl rfl ⟨⟨rfl, rfl, trivial⟩, ⟨rfl, rfl⟩, ⟨⟨⟨rfl, rfl⟩, trivial⟩, rfl, trivial⟩, ⟨rfl, rfl⟩, trivial⟩ ⟨⟨⟨rfl, rfl⟩, rfl⟩, ⟨⟨rfl, rfl⟩, trivial⟩, ⟨⟨rfl, rfl⟩, rfl⟩, rfl, trivial⟩)⟩
      · have he := ok_f he hb
        have he := ok_some he
        exact ⟨rfl, _, _, (leads_ren [(900, 10002000), (901, 10002003)] (l := [(2, .c (.ptr 900 0)), (3, .c (.bool true))]) (st' := [(900, .rc [.own 901 false, .int .i64 (1:Int)]), (901, .sl 63 (.pair (.int .i64) (.int .i64)) i_0 .shallow)]) rfl rfl ⟨⟨⟨⟨rfl, rfl⟩, trivial⟩, rfl, trivial⟩, ⟨rfl, rfl⟩, trivial⟩ ⟨⟨⟨rfl, rfl⟩, rfl⟩, .inr rfl, trivial⟩), he⟩
    · skip
      refine loop_model mixed tys_ok t_spec_ClauseOf (S := Int × (List Int)) (I := (fun (i, i1) => (envOf [(0, .c (.imm (.int .i64) a0)), (2, .c (.ptr 10000000 0)), (4, .c (.own 10000001 false)), (5, .c (.int .i64 i))], [(10000000, .rc [.nil, .int .i64 (0:Int)]), (10000001, .sl 3 (.int .i64) i1 .shallow)]))) (f := spec_ClauseOf_l2 a0) (K := (fun r => k (.tup [.agg [.own 901 false, .int .i64 r.2.1], .c (.bool r.1)]) [(900, .rc [.own 901 false, .int .i64 r.2.1]), (901, .sl 63 (.pair (.int .i64) (.int .i64)) r.2.2 .shallow)])) he (leads_ren [(10000000, 2), (10000001, 9)] (l := [(0, .c (.imm (.int .i64) a0)), (2, .c (.ptr 10000000 0)), (4, .c (.own 10000001 false)), (5, .c (.int .i64 (0:Int)))]) (st' := [(10000000, .rc [.nil, .int .i64 (0:Int)]), (10000001, .sl 3 (.int .i64) (List.replicate (13:Int).toNat 0) .shallow)]) rfl rfl ⟨⟨rfl, rfl, trivial⟩, ⟨rfl, rfl⟩, trivial⟩ ⟨.inl rfl, ⟨⟨rfl, rfl⟩, rfl⟩, ⟨⟨rfl, rfl⟩, trivial⟩, rfl, trivial⟩) ?_
      rintro ⟨i, i1⟩ J1 he
      refine And.intro (fun hb => ?_) (fun hb => ?_)
      · have he := ok_t he hb
        have he := ok_rq he
        refine And.intro he.1 ?_
        have he := he.2
        obtain ⟨r3_, hr, he⟩ := ok_bind he
        refine ⟨r3_, hr, ?_⟩
        refine And.intro (fun hb => ?_) (fun hb => ?_)
        · have he := ok_t he hb
          have he := ok_some he
          exact ⟨rfl, _, _, (leads_ren [(900, 10000000)] (l := [(2, .c (.ptr 900 0)), (3, .c (.bool false))]) (st' := [(900, .rc [.own 901 false, .int .i64 (0:Int)]), (901, .sl 63 (.pair (.int .i64) (.int .i64)) ([] : List (Int × Int)) .shallow)]) rfl rfl ⟨⟨⟨rfl, trivial⟩, rfl, trivial⟩, trivial, trivial⟩ ⟨⟨⟨rfl, rfl⟩, rfl⟩, .inr rfl, trivial⟩), he⟩
        · have he := ok_f he hb
          have he := ok_rq he
          refine And.intro he.1 ?_
          have he := he.2
          obtain ⟨r4_, hr, he⟩ := ok_bind he
          refine ⟨r4_, hr, ?_⟩
          refine And.intro (by kernel_rfl) ?_
          have he := ok_rq he
          refine And.intro he.1 ?_
          have he := he.2
          have he := ok_rq he
          refine And.intro he.1 ?_
          have he := he.2
          have he := ok_rq he
          refine And.intro he.1 ?_
          have he := he.2
          refine And.intro (fun hb => ?_) (fun hb => ?_)
          · have he := ok_t he hb
            have he := ok_some he
            exact ⟨rfl, _, _, (leads_ren [(900, 10000000)] (l := [(2, .c (.ptr 900 0)), (3, .c (.bool false))]) (st' := [(900, .rc [.own 901 false, .int .i64 (0:Int)]), (901, .sl 63 (.pair (.int .i64) (.int .i64)) ([] : List (Int × Int)) .shallow)]) rfl rfl ⟨⟨⟨rfl, trivial⟩, rfl, trivial⟩, trivial, trivial⟩ ⟨⟨⟨rfl, rfl⟩, rfl⟩, .inr rfl, trivial⟩), he⟩
          · have he := ok_f he hb
            have he := ok_rq he
            refine And.intro he.1 ?_
            have he := he.2
            have he := ok_rq he
            refine And.intro he.1 ?_
            have he := he.2
            have he := ok_rq he
            refine And.intro he.1 ?_
            have he := he.2
            have he := ok_some he
            exact ⟨((i + (1:Int)), (i1.set r4_.toNat (a0.getD i.toNat 0))), he, (leads_ren [] (l := [(0, .c (.imm (.int .i64) a0)), (2, .c (.ptr 10000000 0)), (4, .c (.own 10000001 false)), (5, .c (.int .i64 (i + (1:Int))))]) (st' := [(10000000, .rc [.nil, .int .i64 (0:Int)]), (10000001, .sl 3 (.int .i64) (i1.set r4_.toNat (a0.getD i.toNat 0)) .shallow)]) rfl rfl ⟨⟨rfl, rfl, trivial⟩, ⟨rfl, rfl⟩, trivial⟩ ⟨.inl rfl, ⟨⟨rfl, rfl⟩, rfl⟩, ⟨⟨rfl, rfl⟩, trivial⟩, rfl, trivial⟩)⟩
      · have he := ok_f he hb
        exact ⟨i1, ok_up he, (leads_ren [(10001000, 10000000), (10001001, 10000001)] (l := [(2, .c (.ptr 10001000 0)), (4, .c (.own 10001001 false))]) (st' := [(10001000, .rc [.nil, .int .i64 (0:Int)]), (10001001, .sl 3 (.int .i64) i1 .shallow)]) rfl rfl ⟨⟨rfl, rfl, trivial⟩, ⟨rfl, rfl⟩, trivial⟩ ⟨⟨⟨rfl, rfl⟩, rfl⟩, ⟨⟨rfl, rfl⟩, trivial⟩, trivial⟩)⟩

noncomputable def c_spec_l5Learn__ss : Con := fun args st => match args, st with
  | [.agg [.own 0 false, .own 1 false, .int .i64 s_2], .c (.imm (.int .i64) decisions)], [(0, .sl 34 (.pair (.sl (.pair (.int .i64) (.int .i64))) (.int .i64)) o0 .shallow), (1, .sl 36 (.pair (.int .i64) (.pair (.int .i64) (.pair (.int .i64) (.pair (.sl (.pair (.int .i64) (.int .i64))) (.int .i64))))) o1 .shallow)] => .opt (Int × (List ((List (Int × Int)) × Int)) × (List (Int × Int × Int × (List (Int × Int)) × Int))) (spec_l5Learn__ss s_2 decisions o0 o1) (fun r => .ret (.agg [.own 901 false, .own 902 false, .int .i64 r.1]) [(0, .dead), (1, .dead), (900, .rc [.own 901 false, .own 902 false, .int .i64 r.1]), (901, .sl 34 (.pair (.sl (.pair (.int .i64) (.int .i64))) (.int .i64)) r.2.1 .shallow), (902, .sl 36 (.pair (.int .i64) (.pair (.int .i64) (.pair (.int .i64) (.pair (.sl (.pair (.int .i64) (.int .i64))) (.int .i64))))) r.2.2 .shallow)])
  | _, _ => .fail

noncomputable def C_spec_l5Learn__ss : Cfg := { y := tys, n := 43, h := 2, tab := [(44, c_spec_ClauseOf)], cut := [6], hand := [], good := [], deep := [], sched := [] }

theorem t_spec_l5Learn__ss : TabOk Try.prog C_spec_l5Learn__ss := by
  refine tabOk_of ?_
  simp only [C_spec_l5Learn__ss, List.forall_mem_cons]
  exact ⟨k_spec_ClauseOf, fun p h => by cases h⟩

theorem k_spec_l5Learn__ss : Entry Try.prog 51 c_spec_l5Learn__ss := by
  refine entry_by (C := C_spec_l5Learn__ss) mixed tys_ok t_spec_l5Learn__ss (fn := Try.f51) (c := bd Try.f51) (by kernel_rfl) (by kernel_rfl) (by kernel_rfl) (by kernel_rfl) ?_
  intro args st k he
  unfold c_spec_l5Learn__ss at he
  split at he
  rotate_left
  · exact he.elim
  rename_i s_2 decisions o0 o1
  have he : Ok (spec_l5Learn__ss s_2 decisions o0 o1) (fun r => k (.agg [.own 901 false, .own 902 false, .int .i64 r.1]) [(0, .dead), (1, .dead), (900, .rc [.own 901 false, .own 902 false, .int .i64 r.1]), (901, .sl 34 (.pair (.sl (.pair (.int .i64) (.int .i64))) (.int .i64)) r.2.1 .shallow), (902, .sl 36 (.pair (.int .i64) (.pair (.int .i64) (.pair (.int .i64) (.pair (.sl (.pair (.int .i64) (.int .i64))) (.int .i64))))) r.2.2 .shallow)]) := he
  refine ⟨rfl, rfl, ?_⟩
  refine seq_model mixed tys_ok t_spec_l5Learn__ss (S := (List Int)) (I := (fun lits1 => (envOf [(2, .c (.ptr 10001000 0)), (4, .c (.ptr 10001001 0)), (5, .c (.own 10001002 false))], [(0, .sl 34 (.pair (.sl (.pair (.int .i64) (.int .i64))) (.int .i64)) o0 .shallow), (1, .sl 36 (.pair (.int .i64) (.pair (.int .i64) (.pair (.int .i64) (.pair (.sl (.pair (.int .i64) (.int .i64))) (.int .i64))))) o1 .shallow), (10001000, .rc [.own 0 false, .own 1 false, .int .i64 s_2]), (10001001, .rc [.nil, .nil, .int .i64 (0:Int)]), (10001002, .sl 3 (.int .i64) lits1 .shallow)]))) (B := fun s => Ok (spec_l5Learn__ss_j1 s_2 o0 o1 s) (fun r => k (.agg [.own 901 false, .own 902 false, .int .i64 r.1]) [(0, .dead), (1, .dead), (900, .rc [.own 901 false, .own 902 false, .int .i64 r.1]), (901, .sl 34 (.pair (.sl (.pair (.int .i64) (.int .i64))) (.int .i64)) r.2.1 .shallow), (902, .sl 36 (.pair (.int .i64) (.pair (.int .i64) (.pair (.int .i64) (.pair (.sl (.pair (.int .i64) (.int .i64))) (.int .i64))))) r.2.2 .shallow)])) ?_ ?_
  · rintro lits1 he
    obtain ⟨r1_, hr, he⟩ := ok_bind he
    refine ⟨r1_, hr, ?_⟩
    have he := ok_rq he
    refine And.intro he.1 ?_
    have he := he.2
    have he := ok_rq he
    refine And.intro he.1 ?_
    have he := he.2
    have he := ok_some he
    exact ⟨rfl, _, _, (leads_ren [(900, 10001001), (901, 33), (902, 40)] (l := [(4, .c (.ptr 900 0))]) (st' := [(0, .dead), (1, .dead), (900, .rc [.own 901 false, .own 902 false, .int .i64 s_2]), (901, .sl 34 (.pair (.sl (.pair (.int .i64) (.int .i64))) (.int .i64)) (o0 ++ [(r1_.2.2, r1_.2.1)]) .shallow), (902, .sl 36 (.pair (.int .i64) (.pair (.int .i64) (.pair (.int .i64) (.pair (.sl (.pair (.int .i64) (.int .i64))) (.int .i64))))) (o1 ++ [((7:Int), ((0:Int), ((0:Int), (r1_.2.2, r1_.2.1))))]) .shallow)]) rfl rfl ⟨trivial, trivial, ⟨⟨⟨rfl, rfl⟩, trivial⟩, ⟨⟨rfl, rfl⟩, trivial⟩, rfl, trivial⟩, ⟨rfl, rfl⟩, ⟨rfl, rfl⟩, trivial⟩ ⟨⟨⟨rfl, rfl⟩, rfl⟩, trivial⟩), he⟩
  · skip
    refine loop_model mixed tys_ok t_spec_l5Learn__ss (S := Int × (List Int)) (I := (fun (i, lits) => (envOf [(1, .c (.imm (.int .i64) decisions)), (2, .c (.ptr 10000000 0)), (4, .c (.ptr 10000001 0)), (5, .c (.own 10000002 false)), (6, .c (.int .i64 i))], [(0, .sl 34 (.pair (.sl (.pair (.int .i64) (.int .i64))) (.int .i64)) o0 .shallow), (1, .sl 36 (.pair (.int .i64) (.pair (.int .i64) (.pair (.int .i64) (.pair (.sl (.pair (.int .i64) (.int .i64))) (.int .i64))))) o1 .shallow), (10000000, .rc [.own 0 false, .own 1 false, .int .i64 s_2]), (10000001, .rc [.nil, .nil, .int .i64 (0:Int)]), (10000002, .sl 3 (.int .i64) lits .shallow)]))) (f := spec_l5Learn__ss_l1 s_2 decisions o0 o1) (K := (fun r => k (.agg [.own 901 false, .own 902 false, .int .i64 r.1]) [(0, .dead), (1, .dead), (900, .rc [.own 901 false, .own 902 false, .int .i64 r.1]), (901, .sl 34 (.pair (.sl (.pair (.int .i64) (.int .i64))) (.int .i64)) r.2.1 .shallow), (902, .sl 36 (.pair (.int .i64) (.pair (.int .i64) (.pair (.int .i64) (.pair (.sl (.pair (.int .i64) (.int .i64))) (.int .i64))))) r.2.2 .shallow)])) he (leads_ren [(10000000, 2), (10000001, 4), (10000002, 9)] (l := [(1, .c (.imm (.int .i64) decisions)), (2, .c (.ptr 10000000 0)), (4, .c (.ptr 10000001 0)), (5, .c (.own 10000002 false)), (6, .c (.int .i64 (0:Int)))]) (st' := [(0, .sl 34 (.pair (.sl (.pair (.int .i64) (.int .i64))) (.int .i64)) o0 .shallow), (1, .sl 36 (.pair (.int .i64) (.pair (.int .i64) (.pair (.int .i64) (.pair (.sl (.pair (.int .i64) (.int .i64))) (.int .i64))))) o1 .shallow), (10000000, .rc [.own 0 false, .own 1 false, .int .i64 s_2]), (10000001, .rc [.nil, .nil, .int .i64 (0:Int)]), (10000002, .sl 3 (.int .i64) ([] : List Int) .shallow)]) rfl rfl ⟨⟨rfl, rfl⟩, ⟨rfl, rfl⟩, ⟨⟨⟨rfl, rfl⟩, trivial⟩, ⟨⟨rfl, rfl⟩, trivial⟩, rfl, trivial⟩, ⟨rfl, rfl, rfl, trivial⟩, ⟨rfl, rfl⟩, trivial⟩ ⟨.inl rfl, ⟨⟨rfl, rfl⟩, rfl⟩, ⟨⟨rfl, rfl⟩, rfl⟩, ⟨⟨rfl, rfl⟩, trivial⟩, rfl, trivial⟩) ?_
    rintro ⟨i, lits⟩ J1 he
    refine And.intro (fun hb => ?_) (fun hb => ?_)
    · have he := ok_t he hb
      have he := ok_rq he
      refine And.intro he.1 ?_
      have he := he.2
      have he := ok_rq he
      refine And.intro he.1 ?_
      have he := he.2
      have he := ok_rq he
      refine And.intro he.1 ?_
      have he := he.2
      have he := ok_rq he
      refine And.intro he.1 ?_
      have he := he.2
      have he := ok_some he
      exact ⟨((i + (1:Int)), (lits ++ [(0 - (decisions.getD i.toNat 0))])), he, (leads_ren [(10000002, 23)] (l := [(1, .c (.imm (.int .i64) decisions)), (2, .c (.ptr 10000000 0)), (4, .c (.ptr 10000001 0)), (5, .c (.own 10000002 false)), (6, .c (.int .i64 (i + (1:Int))))]) (st' := [(0, .sl 34 (.pair (.sl (.pair (.int .i64) (.int .i64))) (.int .i64)) o0 .shallow), (1, .sl 36 (.pair (.int .i64) (.pair (.int .i64) (.pair (.int .i64) (.pair (.sl (.pair (.int .i64) (.int .i64))) (.int .i64))))) o1 .shallow), (10000000, .rc [.own 0 false, .own 1 false, .int .i64 s_2]), (10000001, .rc [.nil, .nil, .int .i64 (0:Int)]), (10000002, .sl 3 (.int .i64) (lits ++ [(0 - (decisions.getD i.toNat 0))]) .shallow)]) rfl rfl ⟨⟨rfl, rfl⟩, ⟨rfl, rfl⟩, ⟨⟨⟨rfl, rfl⟩, trivial⟩, ⟨⟨rfl, rfl⟩, trivial⟩, rfl, trivial⟩, ⟨rfl, rfl, rfl, trivial⟩, ⟨rfl, rfl⟩, trivial⟩ ⟨.inl rfl, ⟨⟨rfl, rfl⟩, rfl⟩, ⟨⟨rfl, rfl⟩, rfl⟩, ⟨⟨rfl, rfl⟩, trivial⟩, rfl, trivial⟩)⟩
    · have he := ok_f he hb
      exact ⟨lits, ok_up he, (leads_ren [(10001000, 10000000), (10001001, 10000001), (10001002, 10000002)] (l := [(2, .c (.ptr 10001000 0)), (4, .c (.ptr 10001001 0)), (5, .c (.own 10001002 false))]) (st' := [(0, .sl 34 (.pair (.sl (.pair (.int .i64) (.int .i64))) (.int .i64)) o0 .shallow), (1, .sl 36 (.pair (.int .i64) (.pair (.int .i64) (.pair (.int .i64) (.pair (.sl (.pair (.int .i64) (.int .i64))) (.int .i64))))) o1 .shallow), (10001000, .rc [.own 0 false, .own 1 false, .int .i64 s_2]), (10001001, .rc [.nil, .nil, .int .i64 (0:Int)]), (10001002, .sl 3 (.int .i64) lits .shallow)]) rfl rfl ⟨⟨rfl, rfl⟩, ⟨rfl, rfl⟩, ⟨⟨⟨rfl, rfl⟩, trivial⟩, ⟨⟨rfl, rfl⟩, trivial⟩, rfl, trivial⟩, ⟨rfl, rfl, rfl, trivial⟩, ⟨rfl, rfl⟩, trivial⟩ ⟨⟨⟨rfl, rfl⟩, rfl⟩, ⟨⟨rfl, rfl⟩, rfl⟩, ⟨⟨rfl, rfl⟩, trivial⟩, trivial⟩)⟩

noncomputable def c_spec_l5Free : Con := fun args st => match args, st with
  | [.c (.imm (.int .i64) p)], [] => .opt (Int) (spec_l5Free p) (fun r => .ret (.c (.int .i64 r)) [])
  | _, _ => .fail

noncomputable def C_spec_l5Free : Cfg := { y := tys, n := 17, h := 0, tab := [], cut := [], hand := [], good := [], deep := [], sched := [] }

theorem t_spec_l5Free : TabOk Try.prog C_spec_l5Free := tabOk_of (fun p h => by cases h)

theorem k_spec_l5Free : Entry Try.prog 52 c_spec_l5Free := by
  refine entry_by (C := C_spec_l5Free) mixed tys_ok t_spec_l5Free (fn := Try.f52) (c := bd Try.f52) (by kernel_rfl) (by kernel_rfl) (by kernel_rfl) (by kernel_rfl) ?_
  intro args st k he
  unfold c_spec_l5Free at he
  split at he
  rotate_left
  · exact he.elim
  rename_i p
  have he : Ok (spec_l5Free p) (fun r => k (.c (.int .i64 r)) []) := he
  refine ⟨rfl, rfl, ?_⟩
  refine loop_model mixed tys_ok t_spec_l5Free (S := Int) (I := (fun i => (envOf [(0, .c (.imm (.int .i64) p)), (3, .c (.int .i64 i))], []))) (f := spec_l5Free_l1 p) (K := (fun r => k (.c (.int .i64 r)) [])) he (leads_ren [] (l := [(0, .c (.imm (.int .i64) p)), (3, .c (.int .i64 (0:Int)))]) (st' := []) rfl rfl trivial ⟨.inl rfl, rfl, trivial⟩) ?_
  rintro i J1 he
  refine And.intro (fun hb => ?_) (fun hb => ?_)
  · have he := ok_t he hb
    have he := ok_rq he
    refine And.intro he.1 ?_
    have he := he.2
    refine And.intro (fun hb => ?_) (fun hb => ?_)
    · have he := ok_t he hb
      have he := ok_rq he
      refine And.intro he.1 ?_
      have he := he.2
      have he := ok_some he
      exact ⟨rfl, _, _, Leads.refl _ _, he⟩
    · have he := ok_f he hb
      have he := ok_rq he
      refine And.intro he.1 ?_
      have he := he.2
      have he := ok_some he
      exact ⟨(i + (1:Int)), he, (leads_ren [] (l := [(0, .c (.imm (.int .i64) p)), (3, .c (.int .i64 (i + (1:Int))))]) (st' := []) rfl rfl trivial ⟨.inl rfl, rfl, trivial⟩)⟩
  · have he := ok_f he hb
    have he := ok_some he
    exact ⟨rfl, _, _, Leads.refl _ _, he⟩

noncomputable def c_spec_l5Search__ss (n_ : Nat) : Con := fun args st => match args, st with
  | [.agg [.own 0 false, .own 1 false, .int .i64 a0_2], .c (.imm (.int .i64) a1)], [(0, .sl 34 (.pair (.sl (.pair (.int .i64) (.int .i64))) (.int .i64)) o0 .shallow), (1, .sl 36 (.pair (.int .i64) (.pair (.int .i64) (.pair (.int .i64) (.pair (.sl (.pair (.int .i64) (.int .i64))) (.int .i64))))) o1 .shallow)] => .opt (Int × Int × (List Bool) × (List ((List (Int × Int)) × Int)) × (List (Int × Int × Int × (List (Int × Int)) × Int))) (spec_l5Search__ss n_ a0_2 a1 o0 o1) (fun r => .ret (.tup [.agg [.own 902 false, .own 903 false, .int .i64 r.2.1], .c (.int .i64 r.1), .c (.own 901 false)]) [(0, .dead), (1, .dead), (900, .rc [.own 902 false, .own 903 false, .int .i64 r.2.1]), (901, .sl 4 .bool r.2.2.1 .shallow), (902, .sl 34 (.pair (.sl (.pair (.int .i64) (.int .i64))) (.int .i64)) r.2.2.2.1 .shallow), (903, .sl 36 (.pair (.int .i64) (.pair (.int .i64) (.pair (.int .i64) (.pair (.sl (.pair (.int .i64) (.int .i64))) (.int .i64))))) r.2.2.2.2 .shallow)])
  | _, _ => .fail

noncomputable def C_spec_l5Search__ss (n_ : Nat) : Cfg := { y := tys, n := 112, h := 2, tab := [(31, c_spec_l5Search__ss n_), (49, c_spec_l3Assign), (50, c_spec_l3Propagate), (51, c_spec_l5Learn__ss), (52, c_spec_l5Free)], cut := [9, 18, 25, 28], hand := [(31, [0]), (49, [0]), (50, [1]), (51, [0])], good := [], deep := [], sched := [(24, (.first 2 (.first 4 (.alt 0 (.alt 1 (.alt 3 (.alt 5 (.alt 6 (.alt 7 (.first 8 (.first 9 (.first 10 (.first 11 (.alt 12 (.first 13 (.first 14 .done)) .stop))))) .stop) .stop) .stop) (.alt 5 (.alt 3 (.alt 6 (.alt 7 (.first 8 (.first 9 (.first 10 (.first 11 (.alt 12 (.first 13 (.first 14 .done)) .stop))))) .stop) .stop) .stop) .stop)) (.alt 5 (.alt 1 (.alt 3 (.alt 6 (.alt 7 (.first 8 (.first 9 (.first 10 (.first 11 (.alt 12 (.first 13 (.first 14 .done)) .stop))))) .stop) .stop) .stop) .stop) .stop)) (.alt 1 (.alt 0 (.alt 3 (.alt 5 (.alt 6 (.alt 7 (.first 8 (.first 9 (.first 10 (.first 11 (.alt 12 (.first 13 (.first 14 .done)) .stop))))) .stop) .stop) .stop) (.alt 5 (.alt 3 (.alt 6 (.alt 7 (.first 8 (.first 9 (.first 10 (.first 11 (.alt 12 (.first 13 (.first 14 .done)) .stop))))) .stop) .stop) .stop) .stop)) (.alt 3 (.alt 0 (.alt 5 (.alt 6 (.alt 7 (.first 8 (.first 9 (.first 10 (.first 11 (.alt 12 (.first 13 (.first 14 .done)) .stop))))) .stop) .stop) .stop) (.alt 5 (.alt 0 (.alt 6 (.alt 7 (.first 8 (.first 9 (.first 10 (.first 11 (.alt 12 (.first 13 (.first 14 .done)) .stop))))) .stop) .stop) (.alt 6 (.alt 0 (.alt 7 (.first 8 (.first 9 (.first 10 (.first 11 (.alt 12 (.first 13 (.first 14 .done)) .stop))))) .stop) .stop) .stop)) .stop)) (.alt 5 (.alt 0 (.alt 3 (.alt 6 (.alt 7 (.first 8 (.first 9 (.first 10 (.first 11 (.alt 12 (.first 13 (.first 14 .done)) .stop))))) .stop) .stop) .stop) (.alt 3 (.alt 0 (.alt 6 (.alt 7 (.first 8 (.first 9 (.first 10 (.first 11 (.alt 12 (.first 13 (.first 14 .done)) .stop))))) .stop) .stop) (.alt 6 (.alt 0 (.alt 7 (.first 8 (.first 9 (.first 10 (.first 11 (.alt 12 (.first 13 (.first 14 .done)) .stop))))) .stop) .stop) .stop)) .stop)) .stop))) (.alt 5 (.alt 0 (.alt 1 (.alt 3 (.alt 6 (.alt 7 (.first 8 (.first 9 (.first 10 (.first 11 (.alt 12 (.first 13 (.first 14 .done)) .stop))))) .stop) .stop) .stop) .stop) (.alt 1 (.alt 0 (.alt 3 (.alt 6 (.alt 7 (.first 8 (.first 9 (.first 10 (.first 11 (.alt 12 (.first 13 (.first 14 .done)) .stop))))) .stop) .stop) .stop) (.alt 3 (.alt 0 (.alt 6 (.alt 7 (.first 8 (.first 9 (.first 10 (.first 11 (.alt 12 (.first 13 (.first 14 .done)) .stop))))) .stop) .stop) (.alt 6 (.alt 0 (.alt 7 (.first 8 (.first 9 (.first 10 (.first 11 (.alt 12 (.first 13 (.first 14 .done)) .stop))))) .stop) .stop) .stop)) .stop)) .stop)) .stop))))))], nils := [31, 51] }

theorem t_spec_l5Search__ss (n_ : Nat) (ih : Entry Try.prog 31 (c_spec_l5Search__ss n_)) : TabOk Try.prog (C_spec_l5Search__ss n_) := by
  refine tabOk_of ?_
  simp only [C_spec_l5Search__ss, List.forall_mem_cons]
  exact ⟨ih, k_spec_l3Assign, k_spec_l3Propagate, k_spec_l5Learn__ss, k_spec_l5Free, fun p h => by cases h⟩

theorem k_spec_l5Search__ss_step (n_ : Nat) (ih : Entry Try.prog 31 (c_spec_l5Search__ss n_)) : Entry Try.prog 31 (c_spec_l5Search__ss (n_ + 1)) := by
  refine entry_by (C := (C_spec_l5Search__ss n_)) mixed tys_ok (t_spec_l5Search__ss n_ ih) (fn := Try.f31) (c := bd Try.f31) (by kernel_rfl) (by kernel_rfl) (by kernel_rfl) (by kernel_rfl) ?_
  intro args st k he
  unfold c_spec_l5Search__ss at he
  split at he
  rotate_left
  · exact he.elim
  rename_i a0_2 a1 o0 o1
  have he : Ok (spec_l5Search__ss_rec (spec_l5Search__ss n_) a0_2 a1 o0 o1) (fun r => k (.tup [.agg [.own 902 false, .own 903 false, .int .i64 r.2.1], .c (.int .i64 r.1), .c (.own 901 false)]) [(0, .dead), (1, .dead), (900, .rc [.own 902 false, .own 903 false, .int .i64 r.2.1]), (901, .sl 4 .bool r.2.2.1 .shallow), (902, .sl 34 (.pair (.sl (.pair (.int .i64) (.int .i64))) (.int .i64)) r.2.2.2.1 .shallow), (903, .sl 36 (.pair (.int .i64) (.pair (.int .i64) (.pair (.int .i64) (.pair (.sl (.pair (.int .i64) (.int .i64))) (.int .i64))))) r.2.2.2.2 .shallow)]) := he
  refine ⟨rfl, rfl, ?_⟩
  refine And.intro (fun hb => ?_) (fun hb => ?_)
  · have he := ok_f he hb
    refine And.intro (fun hb => ?_) (fun hb => ?_)
    · have he := ok_t he hb
      have he := ok_some he
      exact ⟨rfl, _, _, (leads_ren [(900, 4), (901, 26), (902, 0), (903, 1)] (l := [(4, .c (.ptr 900 0)), (5, .c (.int .i64 (0:Int))), (6, .c (.own 901 false))]) (st' := [(0, .dead), (1, .dead), (900, .rc [.own 902 false, .own 903 false, .int .i64 a0_2]), (901, .sl 4 .bool ([] : List Bool) .shallow), (902, .sl 34 (.pair (.sl (.pair (.int .i64) (.int .i64))) (.int .i64)) o0 .shallow), (903, .sl 36 (.pair (.int .i64) (.pair (.int .i64) (.pair (.int .i64) (.pair (.sl (.pair (.int .i64) (.int .i64))) (.int .i64))))) o1 .shallow)]) rfl rfl ⟨trivial, trivial, ⟨⟨⟨rfl, rfl⟩, trivial⟩, ⟨⟨rfl, rfl⟩, trivial⟩, rfl, trivial⟩, ⟨rfl, rfl⟩, ⟨rfl, rfl⟩, ⟨rfl, rfl⟩, trivial⟩ ⟨⟨⟨rfl, rfl⟩, rfl⟩, rfl, ⟨⟨rfl, rfl⟩, trivial⟩, trivial⟩), he⟩
    · have he := ok_f he hb
      have he := ok_rq he
      refine And.intro he.1 ?_
      have he := he.2
      have he := ok_rq he
      refine And.intro he.1 ?_
      have he := he.2
      refine seq_model mixed tys_ok (t_spec_l5Search__ss n_ ih) (S := (List Int)) (I := (fun i2 => (envOf [(1, .c (.imm (.int .i64) a1)), (2, .c (.ptr 10001000 0)), (4, .c (.ptr 10001001 0)), (7, .c (.own 10001002 false))], [(0, .sl 34 (.pair (.sl (.pair (.int .i64) (.int .i64))) (.int .i64)) o0 .shallow), (1, .sl 36 (.pair (.int .i64) (.pair (.int .i64) (.pair (.int .i64) (.pair (.sl (.pair (.int .i64) (.int .i64))) (.int .i64))))) o1 .shallow), (10001000, .rc [.own 0 false, .own 1 false, .int .i64 (a0_2 - (1:Int))]), (10001001, .rc [.nil, .nil, .int .i64 (0:Int)]), (10001002, .sl 3 (.int .i64) i2 .shallow)]))) (B := fun s => Ok (spec_l5Search__ss_j1 a0_2 a1 o0 o1 (spec_l5Search__ss n_) s) (fun r => k (.tup [.agg [.own 902 false, .own 903 false, .int .i64 r.2.1], .c (.int .i64 r.1), .c (.own 901 false)]) [(0, .dead), (1, .dead), (900, .rc [.own 902 false, .own 903 false, .int .i64 r.2.1]), (901, .sl 4 .bool r.2.2.1 .shallow), (902, .sl 34 (.pair (.sl (.pair (.int .i64) (.int .i64))) (.int .i64)) r.2.2.2.1 .shallow), (903, .sl 36 (.pair (.int .i64) (.pair (.int .i64) (.pair (.int .i64) (.pair (.sl (.pair (.int .i64) (.int .i64))) (.int .i64))))) r.2.2.2.2 .shallow)])) ?_ ?_
      · rintro i2 he
        obtain ⟨r3_, hr, he⟩ := ok_bind he
        refine ⟨r3_, hr, ?_⟩
        refine And.intro (fun hb => ?_) (fun hb => ?_)
        · have he := ok_t he hb
          obtain ⟨r4_, hr, he⟩ := ok_bind he
          refine ⟨r4_, hr, ?_⟩
          have he := ok_some he
          exact ⟨rfl, _, _, (leads_ren [(900, 10001001), (901, 52), (902, 52901), (903, 52902)] (l := [(4, .c (.ptr 900 0)), (5, .c (.int .i64 (2:Int))), (6, .c (.own 901 false))]) (st' := [(0, .dead), (1, .dead), (900, .rc [.own 902 false, .own 903 false, .int .i64 r4_.1]), (901, .sl 4 .bool ([] : List Bool) .shallow), (902, .sl 34 (.pair (.sl (.pair (.int .i64) (.int .i64))) (.int .i64)) r4_.2.1 .shallow), (903, .sl 36 (.pair (.int .i64) (.pair (.int .i64) (.pair (.int .i64) (.pair (.sl (.pair (.int .i64) (.int .i64))) (.int .i64))))) r4_.2.2 .shallow)]) rfl rfl ⟨trivial, trivial, ⟨⟨⟨rfl, rfl⟩, trivial⟩, ⟨⟨rfl, rfl⟩, trivial⟩, rfl, trivial⟩, ⟨rfl, rfl⟩, ⟨rfl, rfl⟩, ⟨rfl, rfl⟩, trivial⟩ ⟨⟨⟨rfl, rfl⟩, rfl⟩, rfl, ⟨⟨rfl, rfl⟩, trivial⟩, trivial⟩), he⟩
        · have he := ok_f he hb
          obtain ⟨r5_, hr, he⟩ := ok_bind he
          refine ⟨r5_, hr, ?_⟩
          refine And.intro (fun hb => ?_) (fun hb => ?_)
          · have he := ok_t he hb
            refine seq_model mixed tys_ok (t_spec_l5Search__ss n_ ih) (S := (List Bool)) (I := (fun i5 => (envOf [(2, .c (.ptr 10003000 0)), (4, .c (.ptr 10003001 0)), (10, .c (.own 10003002 false))], [(0, .sl 34 (.pair (.sl (.pair (.int .i64) (.int .i64))) (.int .i64)) o0 .shallow), (1, .sl 36 (.pair (.int .i64) (.pair (.int .i64) (.pair (.int .i64) (.pair (.sl (.pair (.int .i64) (.int .i64))) (.int .i64))))) o1 .shallow), (10003000, .rc [.own 0 false, .own 1 false, .int .i64 (a0_2 - (1:Int))]), (10003001, .rc [.nil, .nil, .int .i64 (0:Int)]), (10003002, .sl 4 .bool i5 .shallow)]))) (B := fun s => Ok (spec_l5Search__ss_j2 a0_2 o0 o1 s) (fun r => k (.tup [.agg [.own 902 false, .own 903 false, .int .i64 r.2.1], .c (.int .i64 r.1), .c (.own 901 false)]) [(0, .dead), (1, .dead), (900, .rc [.own 902 false, .own 903 false, .int .i64 r.2.1]), (901, .sl 4 .bool r.2.2.1 .shallow), (902, .sl 34 (.pair (.sl (.pair (.int .i64) (.int .i64))) (.int .i64)) r.2.2.2.1 .shallow), (903, .sl 36 (.pair (.int .i64) (.pair (.int .i64) (.pair (.int .i64) (.pair (.sl (.pair (.int .i64) (.int .i64))) (.int .i64))))) r.2.2.2.2 .shallow)])) ?_ ?_
            · rintro i5 he
              have he := ok_some he
              exact ⟨rfl, _, _, (leads_ren [(900, 10003001), (901, 10003002), (902, 0), (903, 1)] (l := [(4, .c (.ptr 900 0)), (5, .c (.int .i64 (1:Int))), (6, .c (.own 901 false))]) (st' := [(0, .dead), (1, .dead), (900, .rc [.own 902 false, .own 903 false, .int .i64 (a0_2 - (1:Int))]), (901, .sl 4 .bool i5 .shallow), (902, .sl 34 (.pair (.sl (.pair (.int .i64) (.int .i64))) (.int .i64)) o0 .shallow), (903, .sl 36 (.pair (.int .i64) (.pair (.int .i64) (.pair (.int .i64) (.pair (.sl (.pair (.int .i64) (.int .i64))) (.int .i64))))) o1 .shallow)]) rfl rfl ⟨trivial, trivial, ⟨⟨⟨rfl, rfl⟩, trivial⟩, ⟨⟨rfl, rfl⟩, trivial⟩, rfl, trivial⟩, ⟨rfl, rfl⟩, ⟨rfl, rfl⟩, ⟨rfl, rfl⟩, trivial⟩ ⟨⟨⟨rfl, rfl⟩, rfl⟩, rfl, ⟨⟨rfl, rfl⟩, trivial⟩, trivial⟩), he⟩
            · skip
              refine loop_model mixed tys_ok (t_spec_l5Search__ss n_ ih) (S := Int × (List Bool)) (I := (fun (i3, i4) => (envOf [(2, .c (.ptr 10002000 0)), (4, .c (.ptr 10002001 0)), (7, .c (.own 10002002 false)), (10, .c (.own 10002003 false)), (11, .c (.int .i64 i3))], [(0, .sl 34 (.pair (.sl (.pair (.int .i64) (.int .i64))) (.int .i64)) o0 .shallow), (1, .sl 36 (.pair (.int .i64) (.pair (.int .i64) (.pair (.int .i64) (.pair (.sl (.pair (.int .i64) (.int .i64))) (.int .i64))))) o1 .shallow), (10002000, .rc [.own 0 false, .own 1 false, .int .i64 (a0_2 - (1:Int))]), (10002001, .rc [.nil, .nil, .int .i64 (0:Int)]), (10002002, .sl 3 (.int .i64) r3_.2 .shallow), (10002003, .sl 4 .bool i4 .shallow)]))) (f := spec_l5Search__ss_l1 a0_2 o0 o1 r3_) (K := (fun r => k (.tup [.agg [.own 902 false, .own 903 false, .int .i64 r.2.1], .c (.int .i64 r.1), .c (.own 901 false)]) [(0, .dead), (1, .dead), (900, .rc [.own 902 false, .own 903 false, .int .i64 r.2.1]), (901, .sl 4 .bool r.2.2.1 .shallow), (902, .sl 34 (.pair (.sl (.pair (.int .i64) (.int .i64))) (.int .i64)) r.2.2.2.1 .shallow), (903, .sl 36 (.pair (.int .i64) (.pair (.int .i64) (.pair (.int .i64) (.pair (.sl (.pair (.int .i64) (.int .i64))) (.int .i64))))) r.2.2.2.2 .shallow)])) he (leads_ren [(10002000, 10001000), (10002001, 10001001), (10002002, 10001002), (10002003, 57)] (l := [(2, .c (.ptr 10002000 0)), (4, .c (.ptr 10002001 0)), (7, .c (.own 10002002 false)), (10, .c (.own 10002003 false)), (11, .c (.int .i64 (0:Int)))]) (st' := [(0, .sl 34 (.pair (.sl (.pair (.int .i64) (.int .i64))) (.int .i64)) o0 .shallow), (1, .sl 36 (.pair (.int .i64) (.pair (.int .i64) (.pair (.int .i64) (.pair (.sl (.pair (.int .i64) (.int .i64))) (.int .i64))))) o1 .shallow), (10002000, .rc [.own 0 false, .own 1 false, .int .i64 (a0_2 - (1:Int))]), (10002001, .rc [.nil, .nil, .int .i64 (0:Int)]), (10002002, .sl 3 (.int .i64) r3_.2 .shallow), (10002003, .sl 4 .bool ([] : List Bool) .shallow)]) rfl rfl ⟨⟨rfl, rfl⟩, ⟨rfl, rfl⟩, ⟨⟨⟨rfl, rfl⟩, trivial⟩, ⟨⟨rfl, rfl⟩, trivial⟩, rfl, trivial⟩, ⟨rfl, rfl, rfl, trivial⟩, ⟨rfl, rfl⟩, ⟨rfl, rfl⟩, trivial⟩ ⟨⟨⟨rfl, rfl⟩, rfl⟩, ⟨⟨rfl, rfl⟩, rfl⟩, ⟨⟨rfl, rfl⟩, trivial⟩, ⟨⟨rfl, rfl⟩, trivial⟩, rfl, trivial⟩) ?_
              rintro ⟨i3, i4⟩ J1 he
              refine And.intro (fun hb => ?_) (fun hb => ?_)
              · have he := ok_t he hb
                have he := ok_rq he
                refine And.intro he.1 ?_
                have he := he.2
                have he := ok_rq he
                refine And.intro he.1 ?_
                have he := he.2
                have he := ok_rq he
                refine And.intro he.1 ?_
                have he := he.2
                have he := ok_some he
                exact ⟨((i3 + (1:Int)), (i4 ++ [(decide ((0:Int) < (r3_.2.getD i3.toNat 0)))])), he, (leads_ren [(10002003, 71)] (l := [(2, .c (.ptr 10002000 0)), (4, .c (.ptr 10002001 0)), (7, .c (.own 10002002 false)), (10, .c (.own 10002003 false)), (11, .c (.int .i64 (i3 + (1:Int))))]) (st' := [(0, .sl 34 (.pair (.sl (.pair (.int .i64) (.int .i64))) (.int .i64)) o0 .shallow), (1, .sl 36 (.pair (.int .i64) (.pair (.int .i64) (.pair (.int .i64) (.pair (.sl (.pair (.int .i64) (.int .i64))) (.int .i64))))) o1 .shallow), (10002000, .rc [.own 0 false, .own 1 false, .int .i64 (a0_2 - (1:Int))]), (10002001, .rc [.nil, .nil, .int .i64 (0:Int)]), (10002002, .sl 3 (.int .i64) r3_.2 .shallow), (10002003, .sl 4 .bool (i4 ++ [(decide ((0:Int) < (r3_.2.getD i3.toNat 0)))]) .shallow)]) rfl rfl ⟨⟨rfl, rfl⟩, ⟨rfl, rfl⟩, ⟨⟨⟨rfl, rfl⟩, trivial⟩, ⟨⟨rfl, rfl⟩, trivial⟩, rfl, trivial⟩, ⟨rfl, rfl, rfl, trivial⟩, ⟨rfl, rfl⟩, ⟨rfl, rfl⟩, trivial⟩ ⟨⟨⟨rfl, rfl⟩, rfl⟩, ⟨⟨rfl, rfl⟩, rfl⟩, ⟨⟨rfl, rfl⟩, trivial⟩, ⟨⟨rfl, rfl⟩, trivial⟩, rfl, trivial⟩)⟩
              · have he := ok_f he hb
                exact ⟨i4, ok_up he, (leads_ren [(10003000, 10002000), (10003001, 10002001), (10003002, 10002003)] (l := [(2, .c (.ptr 10003000 0)), (4, .c (.ptr 10003001 0)), (10, .c (.own 10003002 false))]) (st' := [(0, .sl 34 (.pair (.sl (.pair (.int .i64) (.int .i64))) (.int .i64)) o0 .shallow), (1, .sl 36 (.pair (.int .i64) (.pair (.int .i64) (.pair (.int .i64) (.pair (.sl (.pair (.int .i64) (.int .i64))) (.int .i64))))) o1 .shallow), (10003000, .rc [.own 0 false, .own 1 false, .int .i64 (a0_2 - (1:Int))]), (10003001, .rc [.nil, .nil, .int .i64 (0:Int)]), (10003002, .sl 4 .bool i4 .shallow)]) rfl rfl ⟨⟨rfl, rfl⟩, ⟨rfl, rfl⟩, ⟨⟨⟨rfl, rfl⟩, trivial⟩, ⟨⟨rfl, rfl⟩, trivial⟩, rfl, trivial⟩, ⟨rfl, rfl, rfl, trivial⟩, ⟨rfl, rfl⟩, trivial⟩ ⟨⟨⟨rfl, rfl⟩, rfl⟩, ⟨⟨rfl, rfl⟩, rfl⟩, ⟨⟨rfl, rfl⟩, trivial⟩, trivial⟩)⟩
          · have he := ok_f he hb
            refine seq_model mixed tys_ok (t_spec_l5Search__ss n_ ih) (S := Int × (List ((List (Int × Int)) × Int)) × (List (Int × Int × Int × (List (Int × Int)) × Int))) (I := (fun (i_23, i_03, i_13) => (envOf [(1, .c (.imm (.int .i64) a1)), (2, .c (.ptr 10007000 0)), (4, .c (.ptr 10007001 0))], [(0, .dead), (1, .dead), (10007000, .rc [.own 10007002 false, .own 10007003 false, .int .i64 i_23]), (10007001, .rc [.nil, .nil, .int .i64 (0:Int)]), (10007002, .sl 34 (.pair (.sl (.pair (.int .i64) (.int .i64))) (.int .i64)) i_03 .shallow), (10007003, .sl 36 (.pair (.int .i64) (.pair (.int .i64) (.pair (.int .i64) (.pair (.sl (.pair (.int .i64) (.int .i64))) (.int .i64))))) i_13 .shallow)]))) (B := fun s => Ok (spec_l5Search__ss_j3 a1 s) (fun r => k (.tup [.agg [.own 902 false, .own 903 false, .int .i64 r.2.1], .c (.int .i64 r.1), .c (.own 901 false)]) [(0, .dead), (1, .dead), (900, .rc [.own 902 false, .own 903 false, .int .i64 r.2.1]), (901, .sl 4 .bool r.2.2.1 .shallow), (902, .sl 34 (.pair (.sl (.pair (.int .i64) (.int .i64))) (.int .i64)) r.2.2.2.1 .shallow), (903, .sl 36 (.pair (.int .i64) (.pair (.int .i64) (.pair (.int .i64) (.pair (.sl (.pair (.int .i64) (.int .i64))) (.int .i64))))) r.2.2.2.2 .shallow)])) ?_ ?_
            · rintro ⟨i_23, i_03, i_13⟩ he
              refine And.intro (fun hb => ?_) (fun hb => ?_)
              · have he := ok_t he hb
                have he := ok_some he
                exact ⟨rfl, _, _, (leads_ren [(900, 10007001), (901, 107), (902, 10007002), (903, 10007003)] (l := [(4, .c (.ptr 900 0)), (5, .c (.int .i64 (0:Int))), (6, .c (.own 901 false))]) (st' := [(0, .dead), (1, .dead), (900, .rc [.own 902 false, .own 903 false, .int .i64 i_23]), (901, .sl 4 .bool ([] : List Bool) .shallow), (902, .sl 34 (.pair (.sl (.pair (.int .i64) (.int .i64))) (.int .i64)) i_03 .shallow), (903, .sl 36 (.pair (.int .i64) (.pair (.int .i64) (.pair (.int .i64) (.pair (.sl (.pair (.int .i64) (.int .i64))) (.int .i64))))) i_13 .shallow)]) rfl rfl ⟨trivial, trivial, ⟨⟨⟨rfl, rfl⟩, trivial⟩, ⟨⟨rfl, rfl⟩, trivial⟩, rfl, trivial⟩, ⟨rfl, rfl⟩, ⟨rfl, rfl⟩, ⟨rfl, rfl⟩, trivial⟩ ⟨⟨⟨rfl, rfl⟩, rfl⟩, rfl, ⟨⟨rfl, rfl⟩, trivial⟩, trivial⟩), he⟩
              · have he := ok_f he hb
                obtain ⟨r9_, hr, he⟩ := ok_bind he
                refine ⟨r9_, hr, ?_⟩
                have he := ok_some he
                exact ⟨rfl, _, _, (leads_ren [(900, 10007001), (901, 111), (902, 111901), (903, 111902)] (l := [(4, .c (.ptr 900 0)), (5, .c (.int .i64 (2:Int))), (6, .c (.own 901 false))]) (st' := [(0, .dead), (1, .dead), (900, .rc [.own 902 false, .own 903 false, .int .i64 r9_.1]), (901, .sl 4 .bool ([] : List Bool) .shallow), (902, .sl 34 (.pair (.sl (.pair (.int .i64) (.int .i64))) (.int .i64)) r9_.2.1 .shallow), (903, .sl 36 (.pair (.int .i64) (.pair (.int .i64) (.pair (.int .i64) (.pair (.sl (.pair (.int .i64) (.int .i64))) (.int .i64))))) r9_.2.2 .shallow)]) rfl rfl ⟨trivial, trivial, ⟨⟨⟨rfl, rfl⟩, trivial⟩, ⟨⟨rfl, rfl⟩, trivial⟩, rfl, trivial⟩, ⟨rfl, rfl⟩, ⟨rfl, rfl⟩, ⟨rfl, rfl⟩, trivial⟩ ⟨⟨⟨rfl, rfl⟩, rfl⟩, rfl, ⟨⟨rfl, rfl⟩, trivial⟩, trivial⟩), he⟩
            · skip
              have he := ok_rq he
              refine And.intro he.1 ?_
              have he := he.2
              refine loop_model mixed tys_ok (t_spec_l5Search__ss n_ ih) (S := Int × Int × (List ((List (Int × Int)) × Int)) × (List (Int × Int × Int × (List (Int × Int)) × Int))) (I := (fun (i6, i_21, i_01, i_11) => (envOf [(1, .c (.imm (.int .i64) a1)), (2, .c (.ptr 10004000 0)), (4, .c (.ptr 10004001 0)), (77, .c (.own 10004002 false)), (78, .c (.int .i64 ([r5_, (0 - r5_)].length:Int))), (79, .c (.int .i64 i6))], [(0, .dead), (1, .dead), (10004000, .rc [.own 10004003 false, .own 10004004 false, .int .i64 i_21]), (10004001, .rc [.nil, .nil, .int .i64 (0:Int)]), (10004002, .sl 3 (.int .i64) [r5_, (0 - r5_)] .shallow), (10004003, .sl 34 (.pair (.sl (.pair (.int .i64) (.int .i64))) (.int .i64)) i_01 .shallow), (10004004, .sl 36 (.pair (.int .i64) (.pair (.int .i64) (.pair (.int .i64) (.pair (.sl (.pair (.int .i64) (.int .i64))) (.int .i64))))) i_11 .shallow)]))) (f := spec_l5Search__ss_l2 a1 r5_ (spec_l5Search__ss n_)) (K := (fun r => k (.tup [.agg [.own 902 false, .own 903 false, .int .i64 r.2.1], .c (.int .i64 r.1), .c (.own 901 false)]) [(0, .dead), (1, .dead), (900, .rc [.own 902 false, .own 903 false, .int .i64 r.2.1]), (901, .sl 4 .bool r.2.2.1 .shallow), (902, .sl 34 (.pair (.sl (.pair (.int .i64) (.int .i64))) (.int .i64)) r.2.2.2.1 .shallow), (903, .sl 36 (.pair (.int .i64) (.pair (.int .i64) (.pair (.int .i64) (.pair (.sl (.pair (.int .i64) (.int .i64))) (.int .i64))))) r.2.2.2.2 .shallow)])) he (leads_ren [(10004000, 10001000), (10004001, 10001001), (10004002, 77), (10004003, 0), (10004004, 1)] (l := [(1, .c (.imm (.int .i64) a1)), (2, .c (.ptr 10004000 0)), (4, .c (.ptr 10004001 0)), (77, .c (.own 10004002 false)), (78, .c (.int .i64 ([r5_, (0 - r5_)].length:Int))), (79, .c (.int .i64 (0:Int)))]) (st' := [(0, .dead), (1, .dead), (10004000, .rc [.own 10004003 false, .own 10004004 false, .int .i64 (a0_2 - (1:Int))]), (10004001, .rc [.nil, .nil, .int .i64 (0:Int)]), (10004002, .sl 3 (.int .i64) [r5_, (0 - r5_)] .shallow), (10004003, .sl 34 (.pair (.sl (.pair (.int .i64) (.int .i64))) (.int .i64)) o0 .shallow), (10004004, .sl 36 (.pair (.int .i64) (.pair (.int .i64) (.pair (.int .i64) (.pair (.sl (.pair (.int .i64) (.int .i64))) (.int .i64))))) o1 .shallow)]) rfl rfl ⟨trivial, trivial, ⟨⟨⟨rfl, rfl⟩, trivial⟩, ⟨⟨rfl, rfl⟩, trivial⟩, rfl, trivial⟩, ⟨rfl, rfl, rfl, trivial⟩, ⟨rfl, rfl⟩, ⟨rfl, rfl⟩, ⟨rfl, rfl⟩, trivial⟩ ⟨.inl rfl, ⟨⟨rfl, rfl⟩, rfl⟩, ⟨⟨rfl, rfl⟩, rfl⟩, ⟨⟨rfl, rfl⟩, trivial⟩, rfl, rfl, trivial⟩) ?_
              rintro ⟨i6, i_21, i_01, i_11⟩ J1 he
              refine And.intro (fun hb => ?_) (fun hb => ?_)
              · have he := ok_t he hb
                have he := ok_rq he
                refine And.intro he.1 ?_
                have he := he.2
                refine seq_model mixed tys_ok (t_spec_l5Search__ss n_ ih) (S := Int × Int × (List Bool) × (List ((List (Int × Int)) × Int)) × (List (Int × Int × Int × (List (Int × Int)) × Int))) (I := (fun (i9, i_22, i10, i_02, i_12) => (envOf [(1, .c (.imm (.int .i64) a1)), (2, .c (.ptr 10006000 0)), (4, .c (.ptr 10006001 0)), (14, .c (.int .i64 i9)), (15, .c (.own 10006002 false)), (77, .c (.own 10006003 false)), (78, .c (.int .i64 ([r5_, (0 - r5_)].length:Int))), (79, .c (.int .i64 i6))], [(0, .dead), (1, .dead), (10006000, .rc [.own 10006004 false, .own 10006005 false, .int .i64 i_22]), (10006001, .rc [.nil, .nil, .int .i64 (0:Int)]), (10006002, .sl 4 .bool i10 .shallow), (10006003, .sl 3 (.int .i64) [r5_, (0 - r5_)] .shallow), (10006004, .sl 34 (.pair (.sl (.pair (.int .i64) (.int .i64))) (.int .i64)) i_02 .shallow), (10006005, .sl 36 (.pair (.int .i64) (.pair (.int .i64) (.pair (.int .i64) (.pair (.sl (.pair (.int .i64) (.int .i64))) (.int .i64))))) i_12 .shallow)]))) (B := fun s => Ok (spec_l5Search__ss_j4 i6 s) (LK J1 (fun r => k (.tup [.agg [.own 902 false, .own 903 false, .int .i64 r.2.1], .c (.int .i64 r.1), .c (.own 901 false)]) [(0, .dead), (1, .dead), (900, .rc [.own 902 false, .own 903 false, .int .i64 r.2.1]), (901, .sl 4 .bool r.2.2.1 .shallow), (902, .sl 34 (.pair (.sl (.pair (.int .i64) (.int .i64))) (.int .i64)) r.2.2.2.1 .shallow), (903, .sl 36 (.pair (.int .i64) (.pair (.int .i64) (.pair (.int .i64) (.pair (.sl (.pair (.int .i64) (.int .i64))) (.int .i64))))) r.2.2.2.2 .shallow)]))) ?_ ?_
                · rintro ⟨i9, i_22, i10, i_02, i_12⟩ he
                  refine And.intro (fun hb => ?_) (fun hb => ?_)
                  · have he := ok_t he hb
                    have he := ok_some he
                    exact ⟨rfl, _, _, (leads_ren [(900, 10006001), (901, 10006002), (902, 10006004), (903, 10006005)] (l := [(4, .c (.ptr 900 0)), (5, .c (.int .i64 i9)), (6, .c (.own 901 false))]) (st' := [(0, .dead), (1, .dead), (900, .rc [.own 902 false, .own 903 false, .int .i64 i_22]), (901, .sl 4 .bool i10 .shallow), (902, .sl 34 (.pair (.sl (.pair (.int .i64) (.int .i64))) (.int .i64)) i_02 .shallow), (903, .sl 36 (.pair (.int .i64) (.pair (.int .i64) (.pair (.int .i64) (.pair (.sl (.pair (.int .i64) (.int .i64))) (.int .i64))))) i_12 .shallow)]) rfl rfl ⟨trivial, trivial, ⟨⟨⟨rfl, rfl⟩, trivial⟩, ⟨⟨rfl, rfl⟩, trivial⟩, rfl, trivial⟩, ⟨rfl, rfl⟩, ⟨rfl, rfl⟩, ⟨rfl, rfl⟩, trivial⟩ ⟨⟨⟨rfl, rfl⟩, rfl⟩, rfl, ⟨⟨rfl, rfl⟩, trivial⟩, trivial⟩), he⟩
                  · have he := ok_f he hb
                    have he := ok_rq he
                    refine And.intro he.1 ?_
                    have he := he.2
                    have he := ok_some he
                    exact ⟨((i6 + (1:Int)), i_22, i_02, i_12), he, (leads_ren [(10004000, 10006000), (10004001, 10006001), (10004002, 10006003), (10004003, 10006004), (10004004, 10006005)] (l := [(1, .c (.imm (.int .i64) a1)), (2, .c (.ptr 10004000 0)), (4, .c (.ptr 10004001 0)), (77, .c (.own 10004002 false)), (78, .c (.int .i64 ([r5_, (0 - r5_)].length:Int))), (79, .c (.int .i64 (i6 + (1:Int))))]) (st' := [(0, .dead), (1, .dead), (10004000, .rc [.own 10004003 false, .own 10004004 false, .int .i64 i_22]), (10004001, .rc [.nil, .nil, .int .i64 (0:Int)]), (10004002, .sl 3 (.int .i64) [r5_, (0 - r5_)] .shallow), (10004003, .sl 34 (.pair (.sl (.pair (.int .i64) (.int .i64))) (.int .i64)) i_02 .shallow), (10004004, .sl 36 (.pair (.int .i64) (.pair (.int .i64) (.pair (.int .i64) (.pair (.sl (.pair (.int .i64) (.int .i64))) (.int .i64))))) i_12 .shallow)]) rfl rfl ⟨trivial, trivial, ⟨⟨⟨rfl, rfl⟩, trivial⟩, ⟨⟨rfl, rfl⟩, trivial⟩, rfl, trivial⟩, ⟨rfl, rfl, rfl, trivial⟩, ⟨rfl, rfl⟩, ⟨rfl, rfl⟩, ⟨rfl, rfl⟩, trivial⟩ ⟨.inl rfl, ⟨⟨rfl, rfl⟩, rfl⟩, ⟨⟨rfl, rfl⟩, rfl⟩, ⟨⟨rfl, rfl⟩, trivial⟩, rfl, rfl, trivial⟩)⟩
                · skip
                  refine And.intro (by kernel_rfl) ?_
                  have he := ok_rq he
                  have hq1 := he.1
                  have he := he.2
                  have he := ok_rq he
                  have hq2 := he.1
                  have he := he.2
                  obtain ⟨r8_, hq3, he⟩ := ok_bind he
                  refine And.intro ?_ (And.intro ?_ (And.intro ?_ (trivial)))
                  · skip
                    refine And.intro ?_ (And.intro ?_ (trivial))
                    · skip
                      refine And.intro ?_ (And.intro ?_ (trivial))
                      · skip
                        refine And.intro hq1 ?_
                        refine And.intro ?_ trivial
                        refine And.intro ?_ trivial
                        refine And.intro hq2 ?_
                        refine And.intro ?_ trivial
                        refine ⟨r8_, hq3, ?_⟩
                        refine And.intro ?_ trivial
                        exact ⟨(r8_.1, r8_.2.1, r8_.2.2.1, r8_.2.2.2.1, r8_.2.2.2.2), he, (leads_ren [(10006000, 10004000), (10006001, 10004001), (10006002, 93901), (10006003, 10004002), (10006004, 93902), (10006005, 93903)] (l := [(1, .c (.imm (.int .i64) a1)), (2, .c (.ptr 10006000 0)), (4, .c (.ptr 10006001 0)), (14, .c (.int .i64 r8_.1)), (15, .c (.own 10006002 false)), (77, .c (.own 10006003 false)), (78, .c (.int .i64 ([r5_, (0 - r5_)].length:Int))), (79, .c (.int .i64 i6))]) (st' := [(0, .dead), (1, .dead), (10006000, .rc [.own 10006004 false, .own 10006005 false, .int .i64 r8_.2.1]), (10006001, .rc [.nil, .nil, .int .i64 (0:Int)]), (10006002, .sl 4 .bool r8_.2.2.1 .shallow), (10006003, .sl 3 (.int .i64) [r5_, (0 - r5_)] .shallow), (10006004, .sl 34 (.pair (.sl (.pair (.int .i64) (.int .i64))) (.int .i64)) r8_.2.2.2.1 .shallow), (10006005, .sl 36 (.pair (.int .i64) (.pair (.int .i64) (.pair (.int .i64) (.pair (.sl (.pair (.int .i64) (.int .i64))) (.int .i64))))) r8_.2.2.2.2 .shallow)]) rfl rfl ⟨trivial, trivial, ⟨⟨⟨rfl, rfl⟩, trivial⟩, ⟨⟨rfl, rfl⟩, trivial⟩, rfl, trivial⟩, ⟨rfl, rfl, rfl, trivial⟩, ⟨rfl, rfl⟩, ⟨rfl, rfl⟩, ⟨rfl, rfl⟩, ⟨rfl, rfl⟩, trivial⟩ ⟨.inl rfl, ⟨⟨rfl, rfl⟩, rfl⟩, ⟨⟨rfl, rfl⟩, rfl⟩, rfl, ⟨⟨rfl, rfl⟩, trivial⟩, ⟨⟨rfl, rfl⟩, trivial⟩, rfl, rfl, trivial⟩)⟩
                      · skip
                        refine And.intro ?_ trivial
                        refine And.intro hq1 ?_
                        refine And.intro ?_ trivial
                        refine And.intro hq2 ?_
                        refine And.intro ?_ trivial
                        refine ⟨r8_, hq3, ?_⟩
                        refine And.intro ?_ trivial
                        exact ⟨(r8_.1, r8_.2.1, r8_.2.2.1, r8_.2.2.2.1, r8_.2.2.2.2), he, (leads_ren [(10006000, 10004000), (10006001, 10004001), (10006002, 93901), (10006003, 10004002), (10006004, 93902), (10006005, 93903)] (l := [(1, .c (.imm (.int .i64) a1)), (2, .c (.ptr 10006000 0)), (4, .c (.ptr 10006001 0)), (14, .c (.int .i64 r8_.1)), (15, .c (.own 10006002 false)), (77, .c (.own 10006003 false)), (78, .c (.int .i64 ([r5_, (0 - r5_)].length:Int))), (79, .c (.int .i64 i6))]) (st' := [(0, .dead), (1, .dead), (10006000, .rc [.own 10006004 false, .own 10006005 false, .int .i64 r8_.2.1]), (10006001, .rc [.nil, .nil, .int .i64 (0:Int)]), (10006002, .sl 4 .bool r8_.2.2.1 .shallow), (10006003, .sl 3 (.int .i64) [r5_, (0 - r5_)] .shallow), (10006004, .sl 34 (.pair (.sl (.pair (.int .i64) (.int .i64))) (.int .i64)) r8_.2.2.2.1 .shallow), (10006005, .sl 36 (.pair (.int .i64) (.pair (.int .i64) (.pair (.int .i64) (.pair (.sl (.pair (.int .i64) (.int .i64))) (.int .i64))))) r8_.2.2.2.2 .shallow)]) rfl rfl ⟨trivial, trivial, ⟨⟨⟨rfl, rfl⟩, trivial⟩, ⟨⟨rfl, rfl⟩, trivial⟩, rfl, trivial⟩, ⟨rfl, rfl, rfl, trivial⟩, ⟨rfl, rfl⟩, ⟨rfl, rfl⟩, ⟨rfl, rfl⟩, ⟨rfl, rfl⟩, trivial⟩ ⟨.inl rfl, ⟨⟨rfl, rfl⟩, rfl⟩, ⟨⟨rfl, rfl⟩, rfl⟩, rfl, ⟨⟨rfl, rfl⟩, trivial⟩, ⟨⟨rfl, rfl⟩, trivial⟩, rfl, rfl, trivial⟩)⟩
                    · skip
                      refine And.intro ?_ trivial
                      refine And.intro ?_ trivial
                      refine And.intro hq1 ?_
                      refine And.intro ?_ trivial
                      refine And.intro hq2 ?_
                      refine And.intro ?_ trivial
                      refine ⟨r8_, hq3, ?_⟩
                      refine And.intro ?_ trivial
                      exact ⟨(r8_.1, r8_.2.1, r8_.2.2.1, r8_.2.2.2.1, r8_.2.2.2.2), he, (leads_ren [(10006000, 10004000), (10006001, 10004001), (10006002, 93901), (10006003, 10004002), (10006004, 93902), (10006005, 93903)] (l := [(1, .c (.imm (.int .i64) a1)), (2, .c (.ptr 10006000 0)), (4, .c (.ptr 10006001 0)), (14, .c (.int .i64 r8_.1)), (15, .c (.own 10006002 false)), (77, .c (.own 10006003 false)), (78, .c (.int .i64 ([r5_, (0 - r5_)].length:Int))), (79, .c (.int .i64 i6))]) (st' := [(0, .dead), (1, .dead), (10006000, .rc [.own 10006004 false, .own 10006005 false, .int .i64 r8_.2.1]), (10006001, .rc [.nil, .nil, .int .i64 (0:Int)]), (10006002, .sl 4 .bool r8_.2.2.1 .shallow), (10006003, .sl 3 (.int .i64) [r5_, (0 - r5_)] .shallow), (10006004, .sl 34 (.pair (.sl (.pair (.int .i64) (.int .i64))) (.int .i64)) r8_.2.2.2.1 .shallow), (10006005, .sl 36 (.pair (.int .i64) (.pair (.int .i64) (.pair (.int .i64) (.pair (.sl (.pair (.int .i64) (.int .i64))) (.int .i64))))) r8_.2.2.2.2 .shallow)]) rfl rfl ⟨trivial, trivial, ⟨⟨⟨rfl, rfl⟩, trivial⟩, ⟨⟨rfl, rfl⟩, trivial⟩, rfl, trivial⟩, ⟨rfl, rfl, rfl, trivial⟩, ⟨rfl, rfl⟩, ⟨rfl, rfl⟩, ⟨rfl, rfl⟩, ⟨rfl, rfl⟩, trivial⟩ ⟨.inl rfl, ⟨⟨rfl, rfl⟩, rfl⟩, ⟨⟨rfl, rfl⟩, rfl⟩, rfl, ⟨⟨rfl, rfl⟩, trivial⟩, ⟨⟨rfl, rfl⟩, trivial⟩, rfl, rfl, trivial⟩)⟩
                  · skip
                    refine And.intro ?_ (And.intro ?_ (And.intro ?_ (trivial)))
                    · skip
                      refine And.intro ?_ (And.intro ?_ (trivial))
                      · skip
                        refine And.intro hq1 ?_
                        refine And.intro ?_ trivial
                        refine And.intro ?_ trivial
                        refine And.intro hq2 ?_
                        refine And.intro ?_ trivial
                        refine ⟨r8_, hq3, ?_⟩
                        refine And.intro ?_ trivial
                        exact ⟨(r8_.1, r8_.2.1, r8_.2.2.1, r8_.2.2.2.1, r8_.2.2.2.2), he, (leads_ren [(10006000, 10004000), (10006001, 10004001), (10006002, 93901), (10006003, 10004002), (10006004, 93902), (10006005, 93903)] (l := [(1, .c (.imm (.int .i64) a1)), (2, .c (.ptr 10006000 0)), (4, .c (.ptr 10006001 0)), (14, .c (.int .i64 r8_.1)), (15, .c (.own 10006002 false)), (77, .c (.own 10006003 false)), (78, .c (.int .i64 ([r5_, (0 - r5_)].length:Int))), (79, .c (.int .i64 i6))]) (st' := [(0, .dead), (1, .dead), (10006000, .rc [.own 10006004 false, .own 10006005 false, .int .i64 r8_.2.1]), (10006001, .rc [.nil, .nil, .int .i64 (0:Int)]), (10006002, .sl 4 .bool r8_.2.2.1 .shallow), (10006003, .sl 3 (.int .i64) [r5_, (0 - r5_)] .shallow), (10006004, .sl 34 (.pair (.sl (.pair (.int .i64) (.int .i64))) (.int .i64)) r8_.2.2.2.1 .shallow), (10006005, .sl 36 (.pair (.int .i64) (.pair (.int .i64) (.pair (.int .i64) (.pair (.sl (.pair (.int .i64) (.int .i64))) (.int .i64))))) r8_.2.2.2.2 .shallow)]) rfl rfl ⟨trivial, trivial, ⟨⟨⟨rfl, rfl⟩, trivial⟩, ⟨⟨rfl, rfl⟩, trivial⟩, rfl, trivial⟩, ⟨rfl, rfl, rfl, trivial⟩, ⟨rfl, rfl⟩, ⟨rfl, rfl⟩, ⟨rfl, rfl⟩, ⟨rfl, rfl⟩, trivial⟩ ⟨.inl rfl, ⟨⟨rfl, rfl⟩, rfl⟩, ⟨⟨rfl, rfl⟩, rfl⟩, rfl, ⟨⟨rfl, rfl⟩, trivial⟩, ⟨⟨rfl, rfl⟩, trivial⟩, rfl, rfl, trivial⟩)⟩
                      · skip
                        refine And.intro ?_ trivial
                        refine And.intro hq1 ?_
                        refine And.intro ?_ trivial
                        refine And.intro hq2 ?_
                        refine And.intro ?_ trivial
                        refine ⟨r8_, hq3, ?_⟩
                        refine And.intro ?_ trivial
                        exact ⟨(r8_.1, r8_.2.1, r8_.2.2.1, r8_.2.2.2.1, r8_.2.2.2.2), he, (leads_ren [(10006000, 10004000), (10006001, 10004001), (10006002, 93901), (10006003, 10004002), (10006004, 93902), (10006005, 93903)] (l := [(1, .c (.imm (.int .i64) a1)), (2, .c (.ptr 10006000 0)), (4, .c (.ptr 10006001 0)), (14, .c (.int .i64 r8_.1)), (15, .c (.own 10006002 false)), (77, .c (.own 10006003 false)), (78, .c (.int .i64 ([r5_, (0 - r5_)].length:Int))), (79, .c (.int .i64 i6))]) (st' := [(0, .dead), (1, .dead), (10006000, .rc [.own 10006004 false, .own 10006005 false, .int .i64 r8_.2.1]), (10006001, .rc [.nil, .nil, .int .i64 (0:Int)]), (10006002, .sl 4 .bool r8_.2.2.1 .shallow), (10006003, .sl 3 (.int .i64) [r5_, (0 - r5_)] .shallow), (10006004, .sl 34 (.pair (.sl (.pair (.int .i64) (.int .i64))) (.int .i64)) r8_.2.2.2.1 .shallow), (10006005, .sl 36 (.pair (.int .i64) (.pair (.int .i64) (.pair (.int .i64) (.pair (.sl (.pair (.int .i64) (.int .i64))) (.int .i64))))) r8_.2.2.2.2 .shallow)]) rfl rfl ⟨trivial, trivial, ⟨⟨⟨rfl, rfl⟩, trivial⟩, ⟨⟨rfl, rfl⟩, trivial⟩, rfl, trivial⟩, ⟨rfl, rfl, rfl, trivial⟩, ⟨rfl, rfl⟩, ⟨rfl, rfl⟩, ⟨rfl, rfl⟩, ⟨rfl, rfl⟩, trivial⟩ ⟨.inl rfl, ⟨⟨rfl, rfl⟩, rfl⟩, ⟨⟨rfl, rfl⟩, rfl⟩, rfl, ⟨⟨rfl, rfl⟩, trivial⟩, ⟨⟨rfl, rfl⟩, trivial⟩, rfl, rfl, trivial⟩)⟩
                    · skip
                      refine And.intro hq1 ?_
                      refine And.intro ?_ (And.intro ?_ (trivial))
                      · skip
                        refine And.intro ?_ trivial
                        refine And.intro ?_ trivial
                        refine And.intro hq2 ?_
                        refine And.intro ?_ trivial
                        refine ⟨r8_, hq3, ?_⟩
                        refine And.intro ?_ trivial
                        exact ⟨(r8_.1, r8_.2.1, r8_.2.2.1, r8_.2.2.2.1, r8_.2.2.2.2), he, (leads_ren [(10006000, 10004000), (10006001, 10004001), (10006002, 93901), (10006003, 10004002), (10006004, 93902), (10006005, 93903)] (l := [(1, .c (.imm (.int .i64) a1)), (2, .c (.ptr 10006000 0)), (4, .c (.ptr 10006001 0)), (14, .c (.int .i64 r8_.1)), (15, .c (.own 10006002 false)), (77, .c (.own 10006003 false)), (78, .c (.int .i64 ([r5_, (0 - r5_)].length:Int))), (79, .c (.int .i64 i6))]) (st' := [(0, .dead), (1, .dead), (10006000, .rc [.own 10006004 false, .own 10006005 false, .int .i64 r8_.2.1]), (10006001, .rc [.nil, .nil, .int .i64 (0:Int)]), (10006002, .sl 4 .bool r8_.2.2.1 .shallow), (10006003, .sl 3 (.int .i64) [r5_, (0 - r5_)] .shallow), (10006004, .sl 34 (.pair (.sl (.pair (.int .i64) (.int .i64))) (.int .i64)) r8_.2.2.2.1 .shallow), (10006005, .sl 36 (.pair (.int .i64) (.pair (.int .i64) (.pair (.int .i64) (.pair (.sl (.pair (.int .i64) (.int .i64))) (.int .i64))))) r8_.2.2.2.2 .shallow)]) rfl rfl ⟨trivial, trivial, ⟨⟨⟨rfl, rfl⟩, trivial⟩, ⟨⟨rfl, rfl⟩, trivial⟩, rfl, trivial⟩, ⟨rfl, rfl, rfl, trivial⟩, ⟨rfl, rfl⟩, ⟨rfl, rfl⟩, ⟨rfl, rfl⟩, ⟨rfl, rfl⟩, trivial⟩ ⟨.inl rfl, ⟨⟨rfl, rfl⟩, rfl⟩, ⟨⟨rfl, rfl⟩, rfl⟩, rfl, ⟨⟨rfl, rfl⟩, trivial⟩, ⟨⟨rfl, rfl⟩, trivial⟩, rfl, rfl, trivial⟩)⟩
                      · skip
                        refine And.intro ?_ (And.intro ?_ (trivial))
                        · skip
                          refine And.intro ?_ trivial
                          refine And.intro hq2 ?_
                          refine And.intro ?_ trivial
                          refine ⟨r8_, hq3, ?_⟩
                          refine And.intro ?_ trivial
                          exact ⟨(r8_.1, r8_.2.1, r8_.2.2.1, r8_.2.2.2.1, r8_.2.2.2.2), he, (leads_ren [(10006000, 10004000), (10006001, 10004001), (10006002, 93901), (10006003, 10004002), (10006004, 93902), (10006005, 93903)] (l := [(1, .c (.imm (.int .i64) a1)), (2, .c (.ptr 10006000 0)), (4, .c (.ptr 10006001 0)), (14, .c (.int .i64 r8_.1)), (15, .c (.own 10006002 false)), (77, .c (.own 10006003 false)), (78, .c (.int .i64 ([r5_, (0 - r5_)].length:Int))), (79, .c (.int .i64 i6))]) (st' := [(0, .dead), (1, .dead), (10006000, .rc [.own 10006004 false, .own 10006005 false, .int .i64 r8_.2.1]), (10006001, .rc [.nil, .nil, .int .i64 (0:Int)]), (10006002, .sl 4 .bool r8_.2.2.1 .shallow), (10006003, .sl 3 (.int .i64) [r5_, (0 - r5_)] .shallow), (10006004, .sl 34 (.pair (.sl (.pair (.int .i64) (.int .i64))) (.int .i64)) r8_.2.2.2.1 .shallow), (10006005, .sl 36 (.pair (.int .i64) (.pair (.int .i64) (.pair (.int .i64) (.pair (.sl (.pair (.int .i64) (.int .i64))) (.int .i64))))) r8_.2.2.2.2 .shallow)]) rfl rfl ⟨trivial, trivial, ⟨⟨⟨rfl, rfl⟩, trivial⟩, ⟨⟨rfl, rfl⟩, trivial⟩, rfl, trivial⟩, ⟨rfl, rfl, rfl, trivial⟩, ⟨rfl, rfl⟩, ⟨rfl, rfl⟩, ⟨rfl, rfl⟩, ⟨rfl, rfl⟩, trivial⟩ ⟨.inl rfl, ⟨⟨rfl, rfl⟩, rfl⟩, ⟨⟨rfl, rfl⟩, rfl⟩, rfl, ⟨⟨rfl, rfl⟩, trivial⟩, ⟨⟨rfl, rfl⟩, trivial⟩, rfl, rfl, trivial⟩)⟩
                        · skip
                          refine And.intro hq2 ?_
                          refine And.intro ?_ trivial
                          refine And.intro ?_ trivial
                          refine ⟨r8_, hq3, ?_⟩
                          refine And.intro ?_ trivial
                          exact ⟨(r8_.1, r8_.2.1, r8_.2.2.1, r8_.2.2.2.1, r8_.2.2.2.2), he, (leads_ren [(10006000, 10004000), (10006001, 10004001), (10006002, 93901), (10006003, 10004002), (10006004, 93902), (10006005, 93903)] (l := [(1, .c (.imm (.int .i64) a1)), (2, .c (.ptr 10006000 0)), (4, .c (.ptr 10006001 0)), (14, .c (.int .i64 r8_.1)), (15, .c (.own 10006002 false)), (77, .c (.own 10006003 false)), (78, .c (.int .i64 ([r5_, (0 - r5_)].length:Int))), (79, .c (.int .i64 i6))]) (st' := [(0, .dead), (1, .dead), (10006000, .rc [.own 10006004 false, .own 10006005 false, .int .i64 r8_.2.1]), (10006001, .rc [.nil, .nil, .int .i64 (0:Int)]), (10006002, .sl 4 .bool r8_.2.2.1 .shallow), (10006003, .sl 3 (.int .i64) [r5_, (0 - r5_)] .shallow), (10006004, .sl 34 (.pair (.sl (.pair (.int .i64) (.int .i64))) (.int .i64)) r8_.2.2.2.1 .shallow), (10006005, .sl 36 (.pair (.int .i64) (.pair (.int .i64) (.pair (.int .i64) (.pair (.sl (.pair (.int .i64) (.int .i64))) (.int .i64))))) r8_.2.2.2.2 .shallow)]) rfl rfl ⟨trivial, trivial, ⟨⟨⟨rfl, rfl⟩, trivial⟩, ⟨⟨rfl, rfl⟩, trivial⟩, rfl, trivial⟩, ⟨rfl, rfl, rfl, trivial⟩, ⟨rfl, rfl⟩, ⟨rfl, rfl⟩, ⟨rfl, rfl⟩, ⟨rfl, rfl⟩, trivial⟩ ⟨.inl rfl, ⟨⟨rfl, rfl⟩, rfl⟩, ⟨⟨rfl, rfl⟩, rfl⟩, rfl, ⟨⟨rfl, rfl⟩, trivial⟩, ⟨⟨rfl, rfl⟩, trivial⟩, rfl, rfl, trivial⟩)⟩
                    · skip
                      refine And.intro ?_ (And.intro ?_ (trivial))
                      · skip
                        refine And.intro ?_ trivial
                        refine And.intro hq1 ?_
                        refine And.intro ?_ trivial
                        refine And.intro hq2 ?_
                        refine And.intro ?_ trivial
                        refine ⟨r8_, hq3, ?_⟩
                        refine And.intro ?_ trivial
                        exact ⟨(r8_.1, r8_.2.1, r8_.2.2.1, r8_.2.2.2.1, r8_.2.2.2.2), he, (leads_ren [(10006000, 10004000), (10006001, 10004001), (10006002, 93901), (10006003, 10004002), (10006004, 93902), (10006005, 93903)] (l := [(1, .c (.imm (.int .i64) a1)), (2, .c (.ptr 10006000 0)), (4, .c (.ptr 10006001 0)), (14, .c (.int .i64 r8_.1)), (15, .c (.own 10006002 false)), (77, .c (.own 10006003 false)), (78, .c (.int .i64 ([r5_, (0 - r5_)].length:Int))), (79, .c (.int .i64 i6))]) (st' := [(0, .dead), (1, .dead), (10006000, .rc [.own 10006004 false, .own 10006005 false, .int .i64 r8_.2.1]), (10006001, .rc [.nil, .nil, .int .i64 (0:Int)]), (10006002, .sl 4 .bool r8_.2.2.1 .shallow), (10006003, .sl 3 (.int .i64) [r5_, (0 - r5_)] .shallow), (10006004, .sl 34 (.pair (.sl (.pair (.int .i64) (.int .i64))) (.int .i64)) r8_.2.2.2.1 .shallow), (10006005, .sl 36 (.pair (.int .i64) (.pair (.int .i64) (.pair (.int .i64) (.pair (.sl (.pair (.int .i64) (.int .i64))) (.int .i64))))) r8_.2.2.2.2 .shallow)]) rfl rfl ⟨trivial, trivial, ⟨⟨⟨rfl, rfl⟩, trivial⟩, ⟨⟨rfl, rfl⟩, trivial⟩, rfl, trivial⟩, ⟨rfl, rfl, rfl, trivial⟩, ⟨rfl, rfl⟩, ⟨rfl, rfl⟩, ⟨rfl, rfl⟩, ⟨rfl, rfl⟩, trivial⟩ ⟨.inl rfl, ⟨⟨rfl, rfl⟩, rfl⟩, ⟨⟨rfl, rfl⟩, rfl⟩, rfl, ⟨⟨rfl, rfl⟩, trivial⟩, ⟨⟨rfl, rfl⟩, trivial⟩, rfl, rfl, trivial⟩)⟩
                      · skip
                        refine And.intro hq1 ?_
                        refine And.intro ?_ (And.intro ?_ (trivial))
                        · skip
                          refine And.intro ?_ trivial
                          refine And.intro hq2 ?_
                          refine And.intro ?_ trivial
                          refine ⟨r8_, hq3, ?_⟩
                          refine And.intro ?_ trivial
                          exact ⟨(r8_.1, r8_.2.1, r8_.2.2.1, r8_.2.2.2.1, r8_.2.2.2.2), he, (leads_ren [(10006000, 10004000), (10006001, 10004001), (10006002, 93901), (10006003, 10004002), (10006004, 93902), (10006005, 93903)] (l := [(1, .c (.imm (.int .i64) a1)), (2, .c (.ptr 10006000 0)), (4, .c (.ptr 10006001 0)), (14, .c (.int .i64 r8_.1)), (15, .c (.own 10006002 false)), (77, .c (.own 10006003 false)), (78, .c (.int .i64 ([r5_, (0 - r5_)].length:Int))), (79, .c (.int .i64 i6))]) (st' := [(0, .dead), (1, .dead), (10006000, .rc [.own 10006004 false, .own 10006005 false, .int .i64 r8_.2.1]), (10006001, .rc [.nil, .nil, .int .i64 (0:Int)]), (10006002, .sl 4 .bool r8_.2.2.1 .shallow), (10006003, .sl 3 (.int .i64) [r5_, (0 - r5_)] .shallow), (10006004, .sl 34 (.pair (.sl (.pair (.int .i64) (.int .i64))) (.int .i64)) r8_.2.2.2.1 .shallow), (10006005, .sl 36 (.pair (.int .i64) (.pair (.int .i64) (.pair (.int .i64) (.pair (.sl (.pair (.int .i64) (.int .i64))) (.int .i64))))) r8_.2.2.2.2 .shallow)]) rfl rfl ⟨trivial, trivial, ⟨⟨⟨rfl, rfl⟩, trivial⟩, ⟨⟨rfl, rfl⟩, trivial⟩, rfl, trivial⟩, ⟨rfl, rfl, rfl, trivial⟩, ⟨rfl, rfl⟩, ⟨rfl, rfl⟩, ⟨rfl, rfl⟩, ⟨rfl, rfl⟩, trivial⟩ ⟨.inl rfl, ⟨⟨rfl, rfl⟩, rfl⟩, ⟨⟨rfl, rfl⟩, rfl⟩, rfl, ⟨⟨rfl, rfl⟩, trivial⟩, ⟨⟨rfl, rfl⟩, trivial⟩, rfl, rfl, trivial⟩)⟩
                        · skip
                          refine And.intro hq2 ?_
                          refine And.intro ?_ trivial
                          refine And.intro ?_ trivial
                          refine ⟨r8_, hq3, ?_⟩
                          refine And.intro ?_ trivial
                          exact ⟨(r8_.1, r8_.2.1, r8_.2.2.1, r8_.2.2.2.1, r8_.2.2.2.2), he, (leads_ren [(10006000, 10004000), (10006001, 10004001), (10006002, 93901), (10006003, 10004002), (10006004, 93902), (10006005, 93903)] (l := [(1, .c (.imm (.int .i64) a1)), (2, .c (.ptr 10006000 0)), (4, .c (.ptr 10006001 0)), (14, .c (.int .i64 r8_.1)), (15, .c (.own 10006002 false)), (77, .c (.own 10006003 false)), (78, .c (.int .i64 ([r5_, (0 - r5_)].length:Int))), (79, .c (.int .i64 i6))]) (st' := [(0, .dead), (1, .dead), (10006000, .rc [.own 10006004 false, .own 10006005 false, .int .i64 r8_.2.1]), (10006001, .rc [.nil, .nil, .int .i64 (0:Int)]), (10006002, .sl 4 .bool r8_.2.2.1 .shallow), (10006003, .sl 3 (.int .i64) [r5_, (0 - r5_)] .shallow), (10006004, .sl 34 (.pair (.sl (.pair (.int .i64) (.int .i64))) (.int .i64)) r8_.2.2.2.1 .shallow), (10006005, .sl 36 (.pair (.int .i64) (.pair (.int .i64) (.pair (.int .i64) (.pair (.sl (.pair (.int .i64) (.int .i64))) (.int .i64))))) r8_.2.2.2.2 .shallow)]) rfl rfl ⟨trivial, trivial, ⟨⟨⟨rfl, rfl⟩, trivial⟩, ⟨⟨rfl, rfl⟩, trivial⟩, rfl, trivial⟩, ⟨rfl, rfl, rfl, trivial⟩, ⟨rfl, rfl⟩, ⟨rfl, rfl⟩, ⟨rfl, rfl⟩, ⟨rfl, rfl⟩, trivial⟩ ⟨.inl rfl, ⟨⟨rfl, rfl⟩, rfl⟩, ⟨⟨rfl, rfl⟩, rfl⟩, rfl, ⟨⟨rfl, rfl⟩, trivial⟩, ⟨⟨rfl, rfl⟩, trivial⟩, rfl, rfl, trivial⟩)⟩
                  · skip
                    refine And.intro ?_ (And.intro ?_ (trivial))
                    · skip
                      refine And.intro ?_ trivial
                      refine And.intro ?_ trivial
                      refine And.intro hq1 ?_
                      refine And.intro ?_ trivial
                      refine And.intro hq2 ?_
                      refine And.intro ?_ trivial
                      refine ⟨r8_, hq3, ?_⟩
                      refine And.intro ?_ trivial
                      exact ⟨(r8_.1, r8_.2.1, r8_.2.2.1, r8_.2.2.2.1, r8_.2.2.2.2), he, (leads_ren [(10006000, 10004000), (10006001, 10004001), (10006002, 93901), (10006003, 10004002), (10006004, 93902), (10006005, 93903)] (l := [(1, .c (.imm (.int .i64) a1)), (2, .c (.ptr 10006000 0)), (4, .c (.ptr 10006001 0)), (14, .c (.int .i64 r8_.1)), (15, .c (.own 10006002 false)), (77, .c (.own 10006003 false)), (78, .c (.int .i64 ([r5_, (0 - r5_)].length:Int))), (79, .c (.int .i64 i6))]) (st' := [(0, .dead), (1, .dead), (10006000, .rc [.own 10006004 false, .own 10006005 false, .int .i64 r8_.2.1]), (10006001, .rc [.nil, .nil, .int .i64 (0:Int)]), (10006002, .sl 4 .bool r8_.2.2.1 .shallow), (10006003, .sl 3 (.int .i64) [r5_, (0 - r5_)] .shallow), (10006004, .sl 34 (.pair (.sl (.pair (.int .i64) (.int .i64))) (.int .i64)) r8_.2.2.2.1 .shallow), (10006005, .sl 36 (.pair (.int .i64) (.pair (.int .i64) (.pair (.int .i64) (.pair (.sl (.pair (.int .i64) (.int .i64))) (.int .i64))))) r8_.2.2.2.2 .shallow)]) rfl rfl ⟨trivial, trivial, ⟨⟨⟨rfl, rfl⟩, trivial⟩, ⟨⟨rfl, rfl⟩, trivial⟩, rfl, trivial⟩, ⟨rfl, rfl, rfl, trivial⟩, ⟨rfl, rfl⟩, ⟨rfl, rfl⟩, ⟨rfl, rfl⟩, ⟨rfl, rfl⟩, trivial⟩ ⟨.inl rfl, ⟨⟨rfl, rfl⟩, rfl⟩, ⟨⟨rfl, rfl⟩, rfl⟩, rfl, ⟨⟨rfl, rfl⟩, trivial⟩, ⟨⟨rfl, rfl⟩, trivial⟩, rfl, rfl, trivial⟩)⟩
                    · skip
                      refine And.intro ?_ (And.intro ?_ (trivial))
                      · skip
                        refine And.intro ?_ trivial
                        refine And.intro hq1 ?_
                        refine And.intro ?_ trivial
                        refine And.intro hq2 ?_
                        refine And.intro ?_ trivial
                        refine ⟨r8_, hq3, ?_⟩
                        refine And.intro ?_ trivial
                        exact ⟨(r8_.1, r8_.2.1, r8_.2.2.1, r8_.2.2.2.1, r8_.2.2.2.2), he, (leads_ren [(10006000, 10004000), (10006001, 10004001), (10006002, 93901), (10006003, 10004002), (10006004, 93902), (10006005, 93903)] (l := [(1, .c (.imm (.int .i64) a1)), (2, .c (.ptr 10006000 0)), (4, .c (.ptr 10006001 0)), (14, .c (.int .i64 r8_.1)), (15, .c (.own 10006002 false)), (77, .c (.own 10006003 false)), (78, .c (.int .i64 ([r5_, (0 - r5_)].length:Int))), (79, .c (.int .i64 i6))]) (st' := [(0, .dead), (1, .dead), (10006000, .rc [.own 10006004 false, .own 10006005 false, .int .i64 r8_.2.1]), (10006001, .rc [.nil, .nil, .int .i64 (0:Int)]), (10006002, .sl 4 .bool r8_.2.2.1 .shallow), (10006003, .sl 3 (.int .i64) [r5_, (0 - r5_)] .shallow), (10006004, .sl 34 (.pair (.sl (.pair (.int .i64) (.int .i64))) (.int .i64)) r8_.2.2.2.1 .shallow), (10006005, .sl 36 (.pair (.int .i64) (.pair (.int .i64) (.pair (.int .i64) (.pair (.sl (.pair (.int .i64) (.int .i64))) (.int .i64))))) r8_.2.2.2.2 .shallow)]) rfl rfl ⟨trivial, trivial, ⟨⟨⟨rfl, rfl⟩, trivial⟩, ⟨⟨rfl, rfl⟩, trivial⟩, rfl, trivial⟩, ⟨rfl, rfl, rfl, trivial⟩, ⟨rfl, rfl⟩, ⟨rfl, rfl⟩, ⟨rfl, rfl⟩, ⟨rfl, rfl⟩, trivial⟩ ⟨.inl rfl, ⟨⟨rfl, rfl⟩, rfl⟩, ⟨⟨rfl, rfl⟩, rfl⟩, rfl, ⟨⟨rfl, rfl⟩, trivial⟩, ⟨⟨rfl, rfl⟩, trivial⟩, rfl, rfl, trivial⟩)⟩
                      · skip
                        refine And.intro hq1 ?_
                        refine And.intro ?_ (And.intro ?_ (trivial))
                        · skip
                          refine And.intro ?_ trivial
                          refine And.intro hq2 ?_
                          refine And.intro ?_ trivial
                          refine ⟨r8_, hq3, ?_⟩
                          refine And.intro ?_ trivial
                          exact ⟨(r8_.1, r8_.2.1, r8_.2.2.1, r8_.2.2.2.1, r8_.2.2.2.2), he, (leads_ren [(10006000, 10004000), (10006001, 10004001), (10006002, 93901), (10006003, 10004002), (10006004, 93902), (10006005, 93903)] (l := [(1, .c (.imm (.int .i64) a1)), (2, .c (.ptr 10006000 0)), (4, .c (.ptr 10006001 0)), (14, .c (.int .i64 r8_.1)), (15, .c (.own 10006002 false)), (77, .c (.own 10006003 false)), (78, .c (.int .i64 ([r5_, (0 - r5_)].length:Int))), (79, .c (.int .i64 i6))]) (st' := [(0, .dead), (1, .dead), (10006000, .rc [.own 10006004 false, .own 10006005 false, .int .i64 r8_.2.1]), (10006001, .rc [.nil, .nil, .int .i64 (0:Int)]), (10006002, .sl 4 .bool r8_.2.2.1 .shallow), (10006003, .sl 3 (.int .i64) [r5_, (0 - r5_)] .shallow), (10006004, .sl 34 (.pair (.sl (.pair (.int .i64) (.int .i64))) (.int .i64)) r8_.2.2.2.1 .shallow), (10006005, .sl 36 (.pair (.int .i64) (.pair (.int .i64) (.pair (.int .i64) (.pair (.sl (.pair (.int .i64) (.int .i64))) (.int .i64))))) r8_.2.2.2.2 .shallow)]) rfl rfl ⟨trivial, trivial, ⟨⟨⟨rfl, rfl⟩, trivial⟩, ⟨⟨rfl, rfl⟩, trivial⟩, rfl, trivial⟩, ⟨rfl, rfl, rfl, trivial⟩, ⟨rfl, rfl⟩, ⟨rfl, rfl⟩, ⟨rfl, rfl⟩, ⟨rfl, rfl⟩, trivial⟩ ⟨.inl rfl, ⟨⟨rfl, rfl⟩, rfl⟩, ⟨⟨rfl, rfl⟩, rfl⟩, rfl, ⟨⟨rfl, rfl⟩, trivial⟩, ⟨⟨rfl, rfl⟩, trivial⟩, rfl, rfl, trivial⟩)⟩
                        · skip
                          refine And.intro hq2 ?_
                          refine And.intro ?_ trivial
                          refine And.intro ?_ trivial
                          refine ⟨r8_, hq3, ?_⟩
                          refine And.intro ?_ trivial
                          exact ⟨(r8_.1, r8_.2.1, r8_.2.2.1, r8_.2.2.2.1, r8_.2.2.2.2), he, (leads_ren [(10006000, 10004000), (10006001, 10004001), (10006002, 93901), (10006003, 10004002), (10006004, 93902), (10006005, 93903)] (l := [(1, .c (.imm (.int .i64) a1)), (2, .c (.ptr 10006000 0)), (4, .c (.ptr 10006001 0)), (14, .c (.int .i64 r8_.1)), (15, .c (.own 10006002 false)), (77, .c (.own 10006003 false)), (78, .c (.int .i64 ([r5_, (0 - r5_)].length:Int))), (79, .c (.int .i64 i6))]) (st' := [(0, .dead), (1, .dead), (10006000, .rc [.own 10006004 false, .own 10006005 false, .int .i64 r8_.2.1]), (10006001, .rc [.nil, .nil, .int .i64 (0:Int)]), (10006002, .sl 4 .bool r8_.2.2.1 .shallow), (10006003, .sl 3 (.int .i64) [r5_, (0 - r5_)] .shallow), (10006004, .sl 34 (.pair (.sl (.pair (.int .i64) (.int .i64))) (.int .i64)) r8_.2.2.2.1 .shallow), (10006005, .sl 36 (.pair (.int .i64) (.pair (.int .i64) (.pair (.int .i64) (.pair (.sl (.pair (.int .i64) (.int .i64))) (.int .i64))))) r8_.2.2.2.2 .shallow)]) rfl rfl ⟨trivial, trivial, ⟨⟨⟨rfl, rfl⟩, trivial⟩, ⟨⟨rfl, rfl⟩, trivial⟩, rfl, trivial⟩, ⟨rfl, rfl, rfl, trivial⟩, ⟨rfl, rfl⟩, ⟨rfl, rfl⟩, ⟨rfl, rfl⟩, ⟨rfl, rfl⟩, trivial⟩ ⟨.inl rfl, ⟨⟨rfl, rfl⟩, rfl⟩, ⟨⟨rfl, rfl⟩, rfl⟩, rfl, ⟨⟨rfl, rfl⟩, trivial⟩, ⟨⟨rfl, rfl⟩, trivial⟩, rfl, rfl, trivial⟩)⟩
              · have he := ok_f he hb
                exact ⟨(i_21, i_01, i_11), ok_up he, (leads_ren [(10007000, 10004000), (10007001, 10004001), (10007002, 10004003), (10007003, 10004004)] (l := [(1, .c (.imm (.int .i64) a1)), (2, .c (.ptr 10007000 0)), (4, .c (.ptr 10007001 0))]) (st' := [(0, .dead), (1, .dead), (10007000, .rc [.own 10007002 false, .own 10007003 false, .int .i64 i_21]), (10007001, .rc [.nil, .nil, .int .i64 (0:Int)]), (10007002, .sl 34 (.pair (.sl (.pair (.int .i64) (.int .i64))) (.int .i64)) i_01 .shallow), (10007003, .sl 36 (.pair (.int .i64) (.pair (.int .i64) (.pair (.int .i64) (.pair (.sl (.pair (.int .i64) (.int .i64))) (.int .i64))))) i_11 .shallow)]) rfl rfl ⟨trivial, trivial, ⟨⟨⟨rfl, rfl⟩, trivial⟩, ⟨⟨rfl, rfl⟩, trivial⟩, rfl, trivial⟩, ⟨rfl, rfl, rfl, trivial⟩, ⟨rfl, rfl⟩, ⟨rfl, rfl⟩, trivial⟩ ⟨.inl rfl, ⟨⟨rfl, rfl⟩, rfl⟩, ⟨⟨rfl, rfl⟩, rfl⟩, trivial⟩)⟩
      · skip
        refine loop_model mixed tys_ok (t_spec_l5Search__ss n_ ih) (S := Int × (List Int)) (I := (fun (i, i1) => (envOf [(1, .c (.imm (.int .i64) a1)), (2, .c (.ptr 10000000 0)), (4, .c (.ptr 10000001 0)), (7, .c (.own 10000002 false)), (8, .c (.int .i64 i))], [(0, .sl 34 (.pair (.sl (.pair (.int .i64) (.int .i64))) (.int .i64)) o0 .shallow), (1, .sl 36 (.pair (.int .i64) (.pair (.int .i64) (.pair (.int .i64) (.pair (.sl (.pair (.int .i64) (.int .i64))) (.int .i64))))) o1 .shallow), (10000000, .rc [.own 0 false, .own 1 false, .int .i64 (a0_2 - (1:Int))]), (10000001, .rc [.nil, .nil, .int .i64 (0:Int)]), (10000002, .sl 3 (.int .i64) i1 .shallow)]))) (f := spec_l5Search__ss_l3 a0_2 a1 o0 o1 (spec_l5Search__ss n_)) (K := (fun r => k (.tup [.agg [.own 902 false, .own 903 false, .int .i64 r.2.1], .c (.int .i64 r.1), .c (.own 901 false)]) [(0, .dead), (1, .dead), (900, .rc [.own 902 false, .own 903 false, .int .i64 r.2.1]), (901, .sl 4 .bool r.2.2.1 .shallow), (902, .sl 34 (.pair (.sl (.pair (.int .i64) (.int .i64))) (.int .i64)) r.2.2.2.1 .shallow), (903, .sl 36 (.pair (.int .i64) (.pair (.int .i64) (.pair (.int .i64) (.pair (.sl (.pair (.int .i64) (.int .i64))) (.int .i64))))) r.2.2.2.2 .shallow)])) he (leads_ren [(10000000, 2), (10000001, 4), (10000002, 31)] (l := [(1, .c (.imm (.int .i64) a1)), (2, .c (.ptr 10000000 0)), (4, .c (.ptr 10000001 0)), (7, .c (.own 10000002 false)), (8, .c (.int .i64 (0:Int)))]) (st' := [(0, .sl 34 (.pair (.sl (.pair (.int .i64) (.int .i64))) (.int .i64)) o0 .shallow), (1, .sl 36 (.pair (.int .i64) (.pair (.int .i64) (.pair (.int .i64) (.pair (.sl (.pair (.int .i64) (.int .i64))) (.int .i64))))) o1 .shallow), (10000000, .rc [.own 0 false, .own 1 false, .int .i64 (a0_2 - (1:Int))]), (10000001, .rc [.nil, .nil, .int .i64 (0:Int)]), (10000002, .sl 3 (.int .i64) (List.replicate (12:Int).toNat 0) .shallow)]) rfl rfl ⟨⟨rfl, rfl⟩, ⟨rfl, rfl⟩, ⟨⟨⟨rfl, rfl⟩, trivial⟩, ⟨⟨rfl, rfl⟩, trivial⟩, rfl, trivial⟩, ⟨rfl, rfl, rfl, trivial⟩, ⟨rfl, rfl⟩, trivial⟩ ⟨.inl rfl, ⟨⟨rfl, rfl⟩, rfl⟩, ⟨⟨rfl, rfl⟩, rfl⟩, ⟨⟨rfl, rfl⟩, trivial⟩, rfl, trivial⟩) ?_
        rintro ⟨i, i1⟩ J1 he
        refine And.intro (fun hb => ?_) (fun hb => ?_)
        · have he := ok_t he hb
          have he := ok_rq he
          refine And.intro he.1 ?_
          have he := he.2
          obtain ⟨r2_, hr, he⟩ := ok_bind he
          refine ⟨r2_, hr, ?_⟩
          have he := ok_rq he
          refine And.intro he.1 ?_
          have he := he.2
          have he := ok_some he
          exact ⟨((i + (1:Int)), r2_), he, (leads_ren [] (l := [(1, .c (.imm (.int .i64) a1)), (2, .c (.ptr 10000000 0)), (4, .c (.ptr 10000001 0)), (7, .c (.own 10000002 false)), (8, .c (.int .i64 (i + (1:Int))))]) (st' := [(0, .sl 34 (.pair (.sl (.pair (.int .i64) (.int .i64))) (.int .i64)) o0 .shallow), (1, .sl 36 (.pair (.int .i64) (.pair (.int .i64) (.pair (.int .i64) (.pair (.sl (.pair (.int .i64) (.int .i64))) (.int .i64))))) o1 .shallow), (10000000, .rc [.own 0 false, .own 1 false, .int .i64 (a0_2 - (1:Int))]), (10000001, .rc [.nil, .nil, .int .i64 (0:Int)]), (10000002, .sl 3 (.int .i64) r2_ .shallow)]) rfl rfl ⟨⟨rfl, rfl⟩, ⟨rfl, rfl⟩, ⟨⟨⟨rfl, rfl⟩, trivial⟩, ⟨⟨rfl, rfl⟩, trivial⟩, rfl, trivial⟩, ⟨rfl, rfl, rfl, trivial⟩, ⟨rfl, rfl⟩, trivial⟩ ⟨.inl rfl, ⟨⟨rfl, rfl⟩, rfl⟩, ⟨⟨rfl, rfl⟩, rfl⟩, ⟨⟨rfl, rfl⟩, trivial⟩, rfl, trivial⟩)⟩
        · have he := ok_f he hb
          exact ⟨i1, ok_up he, (leads_ren [(10001000, 10000000), (10001001, 10000001), (10001002, 10000002)] (l := [(1, .c (.imm (.int .i64) a1)), (2, .c (.ptr 10001000 0)), (4, .c (.ptr 10001001 0)), (7, .c (.own 10001002 false))]) (st' := [(0, .sl 34 (.pair (.sl (.pair (.int .i64) (.int .i64))) (.int .i64)) o0 .shallow), (1, .sl 36 (.pair (.int .i64) (.pair (.int .i64) (.pair (.int .i64) (.pair (.sl (.pair (.int .i64) (.int .i64))) (.int .i64))))) o1 .shallow), (10001000, .rc [.own 0 false, .own 1 false, .int .i64 (a0_2 - (1:Int))]), (10001001, .rc [.nil, .nil, .int .i64 (0:Int)]), (10001002, .sl 3 (.int .i64) i1 .shallow)]) rfl rfl ⟨⟨rfl, rfl⟩, ⟨rfl, rfl⟩, ⟨⟨⟨rfl, rfl⟩, trivial⟩, ⟨⟨rfl, rfl⟩, trivial⟩, rfl, trivial⟩, ⟨rfl, rfl, rfl, trivial⟩, ⟨rfl, rfl⟩, trivial⟩ ⟨.inl rfl, ⟨⟨rfl, rfl⟩, rfl⟩, ⟨⟨rfl, rfl⟩, rfl⟩, ⟨⟨rfl, rfl⟩, trivial⟩, trivial⟩)⟩
  · have he := ok_t he hb
    have he := ok_some he
    exact ⟨rfl, _, _, (leads_ren [(900, 4), (901, 26), (902, 0), (903, 1)] (l := [(4, .c (.ptr 900 0)), (5, .c (.int .i64 (0:Int))), (6, .c (.own 901 false))]) (st' := [(0, .dead), (1, .dead), (900, .rc [.own 902 false, .own 903 false, .int .i64 a0_2]), (901, .sl 4 .bool ([] : List Bool) .shallow), (902, .sl 34 (.pair (.sl (.pair (.int .i64) (.int .i64))) (.int .i64)) o0 .shallow), (903, .sl 36 (.pair (.int .i64) (.pair (.int .i64) (.pair (.int .i64) (.pair (.sl (.pair (.int .i64) (.int .i64))) (.int .i64))))) o1 .shallow)]) rfl rfl ⟨trivial, trivial, ⟨⟨⟨rfl, rfl⟩, trivial⟩, ⟨⟨rfl, rfl⟩, trivial⟩, rfl, trivial⟩, ⟨rfl, rfl⟩, ⟨rfl, rfl⟩, ⟨rfl, rfl⟩, trivial⟩ ⟨⟨⟨rfl, rfl⟩, rfl⟩, rfl, ⟨⟨rfl, rfl⟩, trivial⟩, trivial⟩), he⟩

theorem k_spec_l5Search__ss : ∀ n_, Entry Try.prog 31 (c_spec_l5Search__ss n_)
  | 0 => by
    refine entry_by (C := { y := tys, n := 112, h := 2, tab := [], cut := [], hand := [], good := [], deep := [], sched := [] }) mixed tys_ok (tabOk_of (fun p h => by cases h)) (fn := Try.f31) (c := bd Try.f31) (by kernel_rfl) (by kernel_rfl) (by kernel_rfl) (by kernel_rfl) ?_
    intro args st k he
    unfold c_spec_l5Search__ss at he
    split at he
    · obtain ⟨x, hx, _⟩ := he
      cases hx
    · exact he.elim
  | n_ + 1 => k_spec_l5Search__ss_step n_ (k_spec_l5Search__ss n_)

noncomputable def c_spec_l5Search__s : Con := fun args st => match args, st with
  | [.agg [.own 0 false, .nil, .int .i64 a0_2], .c (.imm (.int .i64) a1)], [(0, .sl 34 (.pair (.sl (.pair (.int .i64) (.int .i64))) (.int .i64)) o0 .shallow)] => .opt (Int × Int × (List Bool) × (List ((List (Int × Int)) × Int)) × (List (Int × Int × Int × (List (Int × Int)) × Int))) (spec_l5Search__s a0_2 a1 o0) (fun r => .ret (.tup [.agg [.own 902 false, .own 903 false, .int .i64 r.2.1], .c (.int .i64 r.1), .c (.own 901 false)]) [(0, .dead), (900, .rc [.own 902 false, .own 903 false, .int .i64 r.2.1]), (901, .sl 4 .bool r.2.2.1 .shallow), (902, .sl 34 (.pair (.sl (.pair (.int .i64) (.int .i64))) (.int .i64)) r.2.2.2.1 .shallow), (903, .sl 36 (.pair (.int .i64) (.pair (.int .i64) (.pair (.int .i64) (.pair (.sl (.pair (.int .i64) (.int .i64))) (.int .i64))))) r.2.2.2.2 .shallow)])
  | _, _ => .fail

noncomputable def C_spec_l5Search__s : Cfg := { y := tys, n := 112, h := 1, tab := [(31, (c_spec_l5Search__ss 64)), (49, c_spec_l3Assign), (50, c_spec_l3Propagate), (51, c_spec_l5Learn__ss), (52, c_spec_l5Free)], cut := [9, 18, 25, 28], hand := [(31, [0]), (49, [0]), (50, [1]), (51, [0])], good := [], deep := [], sched := [(24, (.first 2 (.first 4 (.alt 0 (.alt 1 (.alt 3 (.alt 5 (.alt 6 (.alt 7 (.first 8 (.first 9 (.first 10 (.first 11 (.alt 12 (.first 13 (.first 14 .done)) .stop))))) .stop) .stop) .stop) (.alt 5 (.alt 3 (.alt 6 (.alt 7 (.first 8 (.first 9 (.first 10 (.first 11 (.alt 12 (.first 13 (.first 14 .done)) .stop))))) .stop) .stop) .stop) .stop)) (.alt 5 (.alt 1 (.alt 3 (.alt 6 (.alt 7 (.first 8 (.first 9 (.first 10 (.first 11 (.alt 12 (.first 13 (.first 14 .done)) .stop))))) .stop) .stop) .stop) .stop) .stop)) (.alt 1 (.alt 0 (.alt 3 (.alt 5 (.alt 6 (.alt 7 (.first 8 (.first 9 (.first 10 (.first 11 (.alt 12 (.first 13 (.first 14 .done)) .stop))))) .stop) .stop) .stop) (.alt 5 (.alt 3 (.alt 6 (.alt 7 (.first 8 (.first 9 (.first 10 (.first 11 (.alt 12 (.first 13 (.first 14 .done)) .stop))))) .stop) .stop) .stop) .stop)) (.alt 3 (.alt 0 (.alt 5 (.alt 6 (.alt 7 (.first 8 (.first 9 (.first 10 (.first 11 (.alt 12 (.first 13 (.first 14 .done)) .stop))))) .stop) .stop) .stop) (.alt 5 (.alt 0 (.alt 6 (.alt 7 (.first 8 (.first 9 (.first 10 (.first 11 (.alt 12 (.first 13 (.first 14 .done)) .stop))))) .stop) .stop) (.alt 6 (.alt 0 (.alt 7 (.first 8 (.first 9 (.first 10 (.first 11 (.alt 12 (.first 13 (.first 14 .done)) .stop))))) .stop) .stop) .stop)) .stop)) (.alt 5 (.alt 0 (.alt 3 (.alt 6 (.alt 7 (.first 8 (.first 9 (.first 10 (.first 11 (.alt 12 (.first 13 (.first 14 .done)) .stop))))) .stop) .stop) .stop) (.alt 3 (.alt 0 (.alt 6 (.alt 7 (.first 8 (.first 9 (.first 10 (.first 11 (.alt 12 (.first 13 (.first 14 .done)) .stop))))) .stop) .stop) (.alt 6 (.alt 0 (.alt 7 (.first 8 (.first 9 (.first 10 (.first 11 (.alt 12 (.first 13 (.first 14 .done)) .stop))))) .stop) .stop) .stop)) .stop)) .stop))) (.alt 5 (.alt 0 (.alt 1 (.alt 3 (.alt 6 (.alt 7 (.first 8 (.first 9 (.first 10 (.first 11 (.alt 12 (.first 13 (.first 14 .done)) .stop))))) .stop) .stop) .stop) .stop) (.alt 1 (.alt 0 (.alt 3 (.alt 6 (.alt 7 (.first 8 (.first 9 (.first 10 (.first 11 (.alt 12 (.first 13 (.first 14 .done)) .stop))))) .stop) .stop) .stop) (.alt 3 (.alt 0 (.alt 6 (.alt 7 (.first 8 (.first 9 (.first 10 (.first 11 (.alt 12 (.first 13 (.first 14 .done)) .stop))))) .stop) .stop) (.alt 6 (.alt 0 (.alt 7 (.first 8 (.first 9 (.first 10 (.first 11 (.alt 12 (.first 13 (.first 14 .done)) .stop))))) .stop) .stop) .stop)) .stop)) .stop)) .stop))))))], nils := [31, 51] }

theorem t_spec_l5Search__s : TabOk Try.prog C_spec_l5Search__s := by
  refine tabOk_of ?_
  simp only [C_spec_l5Search__s, List.forall_mem_cons]
  exact ⟨(k_spec_l5Search__ss 64), k_spec_l3Assign, k_spec_l3Propagate, k_spec_l5Learn__ss, k_spec_l5Free, fun p h => by cases h⟩

theorem k_spec_l5Search__s : Entry Try.prog 31 c_spec_l5Search__s := by
  refine entry_by (C := C_spec_l5Search__s) mixed tys_ok t_spec_l5Search__s (fn := Try.f31) (c := bd Try.f31) (by kernel_rfl) (by kernel_rfl) (by kernel_rfl) (by kernel_rfl) ?_
  intro args st k he
  unfold c_spec_l5Search__s at he
  split at he
  rotate_left
  · exact he.elim
  rename_i a0_2 a1 o0
  have he : Ok (spec_l5Search__s a0_2 a1 o0) (fun r => k (.tup [.agg [.own 902 false, .own 903 false, .int .i64 r.2.1], .c (.int .i64 r.1), .c (.own 901 false)]) [(0, .dead), (900, .rc [.own 902 false, .own 903 false, .int .i64 r.2.1]), (901, .sl 4 .bool r.2.2.1 .shallow), (902, .sl 34 (.pair (.sl (.pair (.int .i64) (.int .i64))) (.int .i64)) r.2.2.2.1 .shallow), (903, .sl 36 (.pair (.int .i64) (.pair (.int .i64) (.pair (.int .i64) (.pair (.sl (.pair (.int .i64) (.int .i64))) (.int .i64))))) r.2.2.2.2 .shallow)]) := he
  refine ⟨rfl, rfl, ?_⟩
  refine And.intro (fun hb => ?_) (fun hb => ?_)
  · have he := ok_f he hb
    refine And.intro (fun hb => ?_) (fun hb => ?_)
    · have he := ok_t he hb
      have he := ok_some he
      exact ⟨rfl, _, _, (leads_ren [(900, 4), (901, 26), (902, 0)] (l := [(4, .c (.ptr 900 0)), (5, .c (.int .i64 (0:Int))), (6, .c (.own 901 false))]) (st' := [(0, .dead), (900, .rc [.own 902 false, .own 903 false, .int .i64 a0_2]), (901, .sl 4 .bool ([] : List Bool) .shallow), (902, .sl 34 (.pair (.sl (.pair (.int .i64) (.int .i64))) (.int .i64)) o0 .shallow), (903, .sl 36 (.pair (.int .i64) (.pair (.int .i64) (.pair (.int .i64) (.pair (.sl (.pair (.int .i64) (.int .i64))) (.int .i64))))) ([] : List (Int × Int × Int × (List (Int × Int)) × Int)) .shallow)]) rfl rfl ⟨trivial, ⟨⟨⟨rfl, rfl⟩, trivial⟩, ⟨rfl, trivial⟩, rfl, trivial⟩, ⟨rfl, rfl⟩, ⟨rfl, rfl⟩, trivial, trivial⟩ ⟨⟨⟨rfl, rfl⟩, rfl⟩, rfl, ⟨⟨rfl, rfl⟩, trivial⟩, trivial⟩), he⟩
    · have he := ok_f he hb
      have he := ok_rq he
      refine And.intro he.1 ?_
      have he := he.2
      have he := ok_rq he
      refine And.intro he.1 ?_
      have he := he.2
      refine seq_model mixed tys_ok t_spec_l5Search__s (S := (List Int)) (I := (fun i2 => (envOf [(1, .c (.imm (.int .i64) a1)), (2, .c (.ptr 10001000 0)), (4, .c (.ptr 10001001 0)), (7, .c (.own 10001002 false))], [(0, .sl 34 (.pair (.sl (.pair (.int .i64) (.int .i64))) (.int .i64)) o0 .shallow), (10001000, .rc [.own 0 false, .own 10001003 false, .int .i64 (a0_2 - (1:Int))]), (10001001, .rc [.nil, .nil, .int .i64 (0:Int)]), (10001002, .sl 3 (.int .i64) i2 .shallow), (10001003, .sl 36 (.pair (.int .i64) (.pair (.int .i64) (.pair (.int .i64) (.pair (.sl (.pair (.int .i64) (.int .i64))) (.int .i64))))) ([] : List (Int × Int × Int × (List (Int × Int)) × Int)) .shallow)]))) (B := fun s => Ok (spec_l5Search__s_j1 a0_2 a1 o0 s) (fun r => k (.tup [.agg [.own 902 false, .own 903 false, .int .i64 r.2.1], .c (.int .i64 r.1), .c (.own 901 false)]) [(0, .dead), (900, .rc [.own 902 false, .own 903 false, .int .i64 r.2.1]), (901, .sl 4 .bool r.2.2.1 .shallow), (902, .sl 34 (.pair (.sl (.pair (.int .i64) (.int .i64))) (.int .i64)) r.2.2.2.1 .shallow), (903, .sl 36 (.pair (.int .i64) (.pair (.int .i64) (.pair (.int .i64) (.pair (.sl (.pair (.int .i64) (.int .i64))) (.int .i64))))) r.2.2.2.2 .shallow)])) ?_ ?_
      · rintro i2 he
        obtain ⟨r3_, hr, he⟩ := ok_bind he
        refine ⟨r3_, hr, ?_⟩
        refine And.intro (fun hb => ?_) (fun hb => ?_)
        · have he := ok_t he hb
          obtain ⟨r4_, hr, he⟩ := ok_bind he
          refine ⟨r4_, hr, ?_⟩
          have he := ok_some he
          exact ⟨rfl, _, _, (leads_ren [(900, 10001001), (901, 52), (902, 52901), (903, 52902)] (l := [(4, .c (.ptr 900 0)), (5, .c (.int .i64 (2:Int))), (6, .c (.own 901 false))]) (st' := [(0, .dead), (900, .rc [.own 902 false, .own 903 false, .int .i64 r4_.1]), (901, .sl 4 .bool ([] : List Bool) .shallow), (902, .sl 34 (.pair (.sl (.pair (.int .i64) (.int .i64))) (.int .i64)) r4_.2.1 .shallow), (903, .sl 36 (.pair (.int .i64) (.pair (.int .i64) (.pair (.int .i64) (.pair (.sl (.pair (.int .i64) (.int .i64))) (.int .i64))))) r4_.2.2 .shallow)]) rfl rfl ⟨trivial, ⟨⟨⟨rfl, rfl⟩, trivial⟩, ⟨⟨rfl, rfl⟩, trivial⟩, rfl, trivial⟩, ⟨rfl, rfl⟩, ⟨rfl, rfl⟩, ⟨rfl, rfl⟩, trivial⟩ ⟨⟨⟨rfl, rfl⟩, rfl⟩, rfl, ⟨⟨rfl, rfl⟩, trivial⟩, trivial⟩), he⟩
        · have he := ok_f he hb
          obtain ⟨r5_, hr, he⟩ := ok_bind he
          refine ⟨r5_, hr, ?_⟩
          refine And.intro (fun hb => ?_) (fun hb => ?_)
          · have he := ok_t he hb
            refine seq_model mixed tys_ok t_spec_l5Search__s (S := (List Bool)) (I := (fun i5 => (envOf [(2, .c (.ptr 10003000 0)), (4, .c (.ptr 10003001 0)), (10, .c (.own 10003002 false))], [(0, .sl 34 (.pair (.sl (.pair (.int .i64) (.int .i64))) (.int .i64)) o0 .shallow), (10003000, .rc [.own 0 false, .own 10003003 false, .int .i64 (a0_2 - (1:Int))]), (10003001, .rc [.nil, .nil, .int .i64 (0:Int)]), (10003002, .sl 4 .bool i5 .shallow), (10003003, .sl 36 (.pair (.int .i64) (.pair (.int .i64) (.pair (.int .i64) (.pair (.sl (.pair (.int .i64) (.int .i64))) (.int .i64))))) ([] : List (Int × Int × Int × (List (Int × Int)) × Int)) .shallow)]))) (B := fun s => Ok (spec_l5Search__s_j2 a0_2 o0 s) (fun r => k (.tup [.agg [.own 902 false, .own 903 false, .int .i64 r.2.1], .c (.int .i64 r.1), .c (.own 901 false)]) [(0, .dead), (900, .rc [.own 902 false, .own 903 false, .int .i64 r.2.1]), (901, .sl 4 .bool r.2.2.1 .shallow), (902, .sl 34 (.pair (.sl (.pair (.int .i64) (.int .i64))) (.int .i64)) r.2.2.2.1 .shallow), (903, .sl 36 (.pair (.int .i64) (.pair (.int .i64) (.pair (.int .i64) (.pair (.sl (.pair (.int .i64) (.int .i64))) (.int .i64))))) r.2.2.2.2 .shallow)])) ?_ ?_
            · rintro i5 he
              have he := ok_some he
              exact ⟨rfl, _, _, (leads_ren [(900, 10003001), (901, 10003002), (902, 0), (903, 10003003)] (l := [(4, .c (.ptr 900 0)), (5, .c (.int .i64 (1:Int))), (6, .c (.own 901 false))]) (st' := [(0, .dead), (900, .rc [.own 902 false, .own 903 false, .int .i64 (a0_2 - (1:Int))]), (901, .sl 4 .bool i5 .shallow), (902, .sl 34 (.pair (.sl (.pair (.int .i64) (.int .i64))) (.int .i64)) o0 .shallow), (903, .sl 36 (.pair (.int .i64) (.pair (.int .i64) (.pair (.int .i64) (.pair (.sl (.pair (.int .i64) (.int .i64))) (.int .i64))))) ([] : List (Int × Int × Int × (List (Int × Int)) × Int)) .shallow)]) rfl rfl ⟨trivial, ⟨⟨⟨rfl, rfl⟩, trivial⟩, ⟨⟨rfl, rfl⟩, trivial⟩, rfl, trivial⟩, ⟨rfl, rfl⟩, ⟨rfl, rfl⟩, ⟨rfl, rfl⟩, trivial⟩ ⟨⟨⟨rfl, rfl⟩, rfl⟩, rfl, ⟨⟨rfl, rfl⟩, trivial⟩, trivial⟩), he⟩
            · skip
              refine loop_model mixed tys_ok t_spec_l5Search__s (S := Int × (List Bool)) (I := (fun (i3, i4) => (envOf [(2, .c (.ptr 10002000 0)), (4, .c (.ptr 10002001 0)), (7, .c (.own 10002002 false)), (10, .c (.own 10002003 false)), (11, .c (.int .i64 i3))], [(0, .sl 34 (.pair (.sl (.pair (.int .i64) (.int .i64))) (.int .i64)) o0 .shallow), (10002000, .rc [.own 0 false, .own 10002004 false, .int .i64 (a0_2 - (1:Int))]), (10002001, .rc [.nil, .nil, .int .i64 (0:Int)]), (10002002, .sl 3 (.int .i64) r3_.2 .shallow), (10002003, .sl 4 .bool i4 .shallow), (10002004, .sl 36 (.pair (.int .i64) (.pair (.int .i64) (.pair (.int .i64) (.pair (.sl (.pair (.int .i64) (.int .i64))) (.int .i64))))) ([] : List (Int × Int × Int × (List (Int × Int)) × Int)) .shallow)]))) (f := spec_l5Search__s_l1 a0_2 o0 r3_) (K := (fun r => k (.tup [.agg [.own 902 false, .own 903 false, .int .i64 r.2.1], .c (.int .i64 r.1), .c (.own 901 false)]) [(0, .dead), (900, .rc [.own 902 false, .own 903 false, .int .i64 r.2.1]), (901, .sl 4 .bool r.2.2.1 .shallow), (902, .sl 34 (.pair (.sl (.pair (.int .i64) (.int .i64))) (.int .i64)) r.2.2.2.1 .shallow), (903, .sl 36 (.pair (.int .i64) (.pair (.int .i64) (.pair (.int .i64) (.pair (.sl (.pair (.int .i64) (.int .i64))) (.int .i64))))) r.2.2.2.2 .shallow)])) he (leads_ren [(10002000, 10001000), (10002001, 10001001), (10002002, 10001002), (10002003, 57), (10002004, 10001003)] (l := [(2, .c (.ptr 10002000 0)), (4, .c (.ptr 10002001 0)), (7, .c (.own 10002002 false)), (10, .c (.own 10002003 false)), (11, .c (.int .i64 (0:Int)))]) (st' := [(0, .sl 34 (.pair (.sl (.pair (.int .i64) (.int .i64))) (.int .i64)) o0 .shallow), (10002000, .rc [.own 0 false, .own 10002004 false, .int .i64 (a0_2 - (1:Int))]), (10002001, .rc [.nil, .nil, .int .i64 (0:Int)]), (10002002, .sl 3 (.int .i64) r3_.2 .shallow), (10002003, .sl 4 .bool ([] : List Bool) .shallow), (10002004, .sl 36 (.pair (.int .i64) (.pair (.int .i64) (.pair (.int .i64) (.pair (.sl (.pair (.int .i64) (.int .i64))) (.int .i64))))) ([] : List (Int × Int × Int × (List (Int × Int)) × Int)) .shallow)]) rfl rfl ⟨⟨rfl, rfl⟩, ⟨⟨⟨rfl, rfl⟩, trivial⟩, ⟨⟨rfl, rfl⟩, trivial⟩, rfl, trivial⟩, ⟨rfl, rfl, rfl, trivial⟩, ⟨rfl, rfl⟩, ⟨rfl, rfl⟩, ⟨rfl, rfl⟩, trivial⟩ ⟨⟨⟨rfl, rfl⟩, rfl⟩, ⟨⟨rfl, rfl⟩, rfl⟩, ⟨⟨rfl, rfl⟩, trivial⟩, ⟨⟨rfl, rfl⟩, trivial⟩, rfl, trivial⟩) ?_
              rintro ⟨i3, i4⟩ J1 he
              refine And.intro (fun hb => ?_) (fun hb => ?_)
              · have he := ok_t he hb
                have he := ok_rq he
                refine And.intro he.1 ?_
                have he := he.2
                have he := ok_rq he
                refine And.intro he.1 ?_
                have he := he.2
                have he := ok_rq he
                refine And.intro he.1 ?_
                have he := he.2
                have he := ok_some he
                exact ⟨((i3 + (1:Int)), (i4 ++ [(decide ((0:Int) < (r3_.2.getD i3.toNat 0)))])), he, (leads_ren [(10002003, 71)] (l := [(2, .c (.ptr 10002000 0)), (4, .c (.ptr 10002001 0)), (7, .c (.own 10002002 false)), (10, .c (.own 10002003 false)), (11, .c (.int .i64 (i3 + (1:Int))))]) (st' := [(0, .sl 34 (.pair (.sl (.pair (.int .i64) (.int .i64))) (.int .i64)) o0 .shallow), (10002000, .rc [.own 0 false, .own 10002004 false, .int .i64 (a0_2 - (1:Int))]), (10002001, .rc [.nil, .nil, .int .i64 (0:Int)]), (10002002, .sl 3 (.int .i64) r3_.2 .shallow), (10002003, .sl 4 .bool (i4 ++ [(decide ((0:Int) < (r3_.2.getD i3.toNat 0)))]) .shallow), (10002004, .sl 36 (.pair (.int .i64) (.pair (.int .i64) (.pair (.int .i64) (.pair (.sl (.pair (.int .i64) (.int .i64))) (.int .i64))))) ([] : List (Int × Int × Int × (List (Int × Int)) × Int)) .shallow)]) rfl rfl ⟨⟨rfl, rfl⟩, ⟨⟨⟨rfl, rfl⟩, trivial⟩, ⟨⟨rfl, rfl⟩, trivial⟩, rfl, trivial⟩, ⟨rfl, rfl, rfl, trivial⟩, ⟨rfl, rfl⟩, ⟨rfl, rfl⟩, ⟨rfl, rfl⟩, trivial⟩ ⟨⟨⟨rfl, rfl⟩, rfl⟩, ⟨⟨rfl, rfl⟩, rfl⟩, ⟨⟨rfl, rfl⟩, trivial⟩, ⟨⟨rfl, rfl⟩, trivial⟩, rfl, trivial⟩)⟩
              · have he := ok_f he hb
                exact ⟨i4, ok_up he, (leads_ren [(10003000, 10002000), (10003001, 10002001), (10003002, 10002003), (10003003, 10002004)] (l := [(2, .c (.ptr 10003000 0)), (4, .c (.ptr 10003001 0)), (10, .c (.own 10003002 false))]) (st' := [(0, .sl 34 (.pair (.sl (.pair (.int .i64) (.int .i64))) (.int .i64)) o0 .shallow), (10003000, .rc [.own 0 false, .own 10003003 false, .int .i64 (a0_2 - (1:Int))]), (10003001, .rc [.nil, .nil, .int .i64 (0:Int)]), (10003002, .sl 4 .bool i4 .shallow), (10003003, .sl 36 (.pair (.int .i64) (.pair (.int .i64) (.pair (.int .i64) (.pair (.sl (.pair (.int .i64) (.int .i64))) (.int .i64))))) ([] : List (Int × Int × Int × (List (Int × Int)) × Int)) .shallow)]) rfl rfl ⟨⟨rfl, rfl⟩, ⟨⟨⟨rfl, rfl⟩, trivial⟩, ⟨⟨rfl, rfl⟩, trivial⟩, rfl, trivial⟩, ⟨rfl, rfl, rfl, trivial⟩, ⟨rfl, rfl⟩, ⟨rfl, rfl⟩, trivial⟩ ⟨⟨⟨rfl, rfl⟩, rfl⟩, ⟨⟨rfl, rfl⟩, rfl⟩, ⟨⟨rfl, rfl⟩, trivial⟩, trivial⟩)⟩
          · have he := ok_f he hb
            refine seq_model mixed tys_ok t_spec_l5Search__s (S := Int × (List ((List (Int × Int)) × Int)) × (List (Int × Int × Int × (List (Int × Int)) × Int))) (I := (fun (i_23, i_03, i_13) => (envOf [(1, .c (.imm (.int .i64) a1)), (2, .c (.ptr 10007000 0)), (4, .c (.ptr 10007001 0))], [(0, .dead), (10007000, .rc [.own 10007002 false, .own 10007003 false, .int .i64 i_23]), (10007001, .rc [.nil, .nil, .int .i64 (0:Int)]), (10007002, .sl 34 (.pair (.sl (.pair (.int .i64) (.int .i64))) (.int .i64)) i_03 .shallow), (10007003, .sl 36 (.pair (.int .i64) (.pair (.int .i64) (.pair (.int .i64) (.pair (.sl (.pair (.int .i64) (.int .i64))) (.int .i64))))) i_13 .shallow)]))) (B := fun s => Ok (spec_l5Search__s_j3 a1 s) (fun r => k (.tup [.agg [.own 902 false, .own 903 false, .int .i64 r.2.1], .c (.int .i64 r.1), .c (.own 901 false)]) [(0, .dead), (900, .rc [.own 902 false, .own 903 false, .int .i64 r.2.1]), (901, .sl 4 .bool r.2.2.1 .shallow), (902, .sl 34 (.pair (.sl (.pair (.int .i64) (.int .i64))) (.int .i64)) r.2.2.2.1 .shallow), (903, .sl 36 (.pair (.int .i64) (.pair (.int .i64) (.pair (.int .i64) (.pair (.sl (.pair (.int .i64) (.int .i64))) (.int .i64))))) r.2.2.2.2 .shallow)])) ?_ ?_
            · rintro ⟨i_23, i_03, i_13⟩ he
              refine And.intro (fun hb => ?_) (fun hb => ?_)
              · have he := ok_t he hb
                have he := ok_some he
                exact ⟨rfl, _, _, (leads_ren [(900, 10007001), (901, 107), (902, 10007002), (903, 10007003)] (l := [(4, .c (.ptr 900 0)), (5, .c (.int .i64 (0:Int))), (6, .c (.own 901 false))]) (st' := [(0, .dead), (900, .rc [.own 902 false, .own 903 false, .int .i64 i_23]), (901, .sl 4 .bool ([] : List Bool) .shallow), (902, .sl 34 (.pair (.sl (.pair (.int .i64) (.int .i64))) (.int .i64)) i_03 .shallow), (903, .sl 36 (.pair (.int .i64) (.pair (.int .i64) (.pair (.int .i64) (.pair (.sl (.pair (.int .i64) (.int .i64))) (.int .i64))))) i_13 .shallow)]) rfl rfl ⟨trivial, ⟨⟨⟨rfl, rfl⟩, trivial⟩, ⟨⟨rfl, rfl⟩, trivial⟩, rfl, trivial⟩, ⟨rfl, rfl⟩, ⟨rfl, rfl⟩, ⟨rfl, rfl⟩, trivial⟩ ⟨⟨⟨rfl, rfl⟩, rfl⟩, rfl, ⟨⟨rfl, rfl⟩, trivial⟩, trivial⟩), he⟩
              · have he := ok_f he hb
                obtain ⟨r9_, hr, he⟩ := ok_bind he
                refine ⟨r9_, hr, ?_⟩
                have he := ok_some he
                exact ⟨rfl, _, _, (leads_ren [(900, 10007001), (901, 111), (902, 111901), (903, 111902)] (l := [(4, .c (.ptr 900 0)), (5, .c (.int .i64 (2:Int))), (6, .c (.own 901 false))]) (st' := [(0, .dead), (900, .rc [.own 902 false, .own 903 false, .int .i64 r9_.1]), (901, .sl 4 .bool ([] : List Bool) .shallow), (902, .sl 34 (.pair (.sl (.pair (.int .i64) (.int .i64))) (.int .i64)) r9_.2.1 .shallow), (903, .sl 36 (.pair (.int .i64) (.pair (.int .i64) (.pair (.int .i64) (.pair (.sl (.pair (.int .i64) (.int .i64))) (.int .i64))))) r9_.2.2 .shallow)]) rfl rfl ⟨trivial, ⟨⟨⟨rfl, rfl⟩, trivial⟩, ⟨⟨rfl, rfl⟩, trivial⟩, rfl, trivial⟩, ⟨rfl, rfl⟩, ⟨rfl, rfl⟩, ⟨rfl, rfl⟩, trivial⟩ ⟨⟨⟨rfl, rfl⟩, rfl⟩, rfl, ⟨⟨rfl, rfl⟩, trivial⟩, trivial⟩), he⟩
            · skip
              have he := ok_rq he
              refine And.intro he.1 ?_
              have he := he.2
              refine loop_model mixed tys_ok t_spec_l5Search__s (S := Int × Int × (List ((List (Int × Int)) × Int)) × (List (Int × Int × Int × (List (Int × Int)) × Int))) (I := (fun (i6, i_21, i_01, i_11) => (envOf [(1, .c (.imm (.int .i64) a1)), (2, .c (.ptr 10004000 0)), (4, .c (.ptr 10004001 0)), (77, .c (.own 10004002 false)), (78, .c (.int .i64 ([r5_, (0 - r5_)].length:Int))), (79, .c (.int .i64 i6))], [(0, .dead), (10004000, .rc [.own 10004003 false, .own 10004004 false, .int .i64 i_21]), (10004001, .rc [.nil, .nil, .int .i64 (0:Int)]), (10004002, .sl 3 (.int .i64) [r5_, (0 - r5_)] .shallow), (10004003, .sl 34 (.pair (.sl (.pair (.int .i64) (.int .i64))) (.int .i64)) i_01 .shallow), (10004004, .sl 36 (.pair (.int .i64) (.pair (.int .i64) (.pair (.int .i64) (.pair (.sl (.pair (.int .i64) (.int .i64))) (.int .i64))))) i_11 .shallow)]))) (f := spec_l5Search__s_l2 a1 r5_) (K := (fun r => k (.tup [.agg [.own 902 false, .own 903 false, .int .i64 r.2.1], .c (.int .i64 r.1), .c (.own 901 false)]) [(0, .dead), (900, .rc [.own 902 false, .own 903 false, .int .i64 r.2.1]), (901, .sl 4 .bool r.2.2.1 .shallow), (902, .sl 34 (.pair (.sl (.pair (.int .i64) (.int .i64))) (.int .i64)) r.2.2.2.1 .shallow), (903, .sl 36 (.pair (.int .i64) (.pair (.int .i64) (.pair (.int .i64) (.pair (.sl (.pair (.int .i64) (.int .i64))) (.int .i64))))) r.2.2.2.2 .shallow)])) he (leads_ren [(10004000, 10001000), (10004001, 10001001), (10004002, 77), (10004003, 0), (10004004, 10001003)] (l := [(1, .c (.imm (.int .i64) a1)), (2, .c (.ptr 10004000 0)), (4, .c (.ptr 10004001 0)), (77, .c (.own 10004002 false)), (78, .c (.int .i64 ([r5_, (0 - r5_)].length:Int))), (79, .c (.int .i64 (0:Int)))]) (st' := [(0, .dead), (10004000, .rc [.own 10004003 false, .own 10004004 false, .int .i64 (a0_2 - (1:Int))]), (10004001, .rc [.nil, .nil, .int .i64 (0:Int)]), (10004002, .sl 3 (.int .i64) [r5_, (0 - r5_)] .shallow), (10004003, .sl 34 (.pair (.sl (.pair (.int .i64) (.int .i64))) (.int .i64)) o0 .shallow), (10004004, .sl 36 (.pair (.int .i64) (.pair (.int .i64) (.pair (.int .i64) (.pair (.sl (.pair (.int .i64) (.int .i64))) (.int .i64))))) ([] : List (Int × Int × Int × (List (Int × Int)) × Int)) .shallow)]) rfl rfl ⟨trivial, ⟨⟨⟨rfl, rfl⟩, trivial⟩, ⟨⟨rfl, rfl⟩, trivial⟩, rfl, trivial⟩, ⟨rfl, rfl, rfl, trivial⟩, ⟨rfl, rfl⟩, ⟨rfl, rfl⟩, ⟨rfl, rfl⟩, trivial⟩ ⟨.inl rfl, ⟨⟨rfl, rfl⟩, rfl⟩, ⟨⟨rfl, rfl⟩, rfl⟩, ⟨⟨rfl, rfl⟩, trivial⟩, rfl, rfl, trivial⟩) ?_
              rintro ⟨i6, i_21, i_01, i_11⟩ J1 he
              refine And.intro (fun hb => ?_) (fun hb => ?_)
              · have he := ok_t he hb
                have he := ok_rq he
                refine And.intro he.1 ?_
                have he := he.2
                refine seq_model mixed tys_ok t_spec_l5Search__s (S := Int × Int × (List Bool) × (List ((List (Int × Int)) × Int)) × (List (Int × Int × Int × (List (Int × Int)) × Int))) (I := (fun (i9, i_22, i10, i_02, i_12) => (envOf [(1, .c (.imm (.int .i64) a1)), (2, .c (.ptr 10006000 0)), (4, .c (.ptr 10006001 0)), (14, .c (.int .i64 i9)), (15, .c (.own 10006002 false)), (77, .c (.own 10006003 false)), (78, .c (.int .i64 ([r5_, (0 - r5_)].length:Int))), (79, .c (.int .i64 i6))], [(0, .dead), (10006000, .rc [.own 10006004 false, .own 10006005 false, .int .i64 i_22]), (10006001, .rc [.nil, .nil, .int .i64 (0:Int)]), (10006002, .sl 4 .bool i10 .shallow), (10006003, .sl 3 (.int .i64) [r5_, (0 - r5_)] .shallow), (10006004, .sl 34 (.pair (.sl (.pair (.int .i64) (.int .i64))) (.int .i64)) i_02 .shallow), (10006005, .sl 36 (.pair (.int .i64) (.pair (.int .i64) (.pair (.int .i64) (.pair (.sl (.pair (.int .i64) (.int .i64))) (.int .i64))))) i_12 .shallow)]))) (B := fun s => Ok (spec_l5Search__s_j4 i6 s) (LK J1 (fun r => k (.tup [.agg [.own 902 false, .own 903 false, .int .i64 r.2.1], .c (.int .i64 r.1), .c (.own 901 false)]) [(0, .dead), (900, .rc [.own 902 false, .own 903 false, .int .i64 r.2.1]), (901, .sl 4 .bool r.2.2.1 .shallow), (902, .sl 34 (.pair (.sl (.pair (.int .i64) (.int .i64))) (.int .i64)) r.2.2.2.1 .shallow), (903, .sl 36 (.pair (.int .i64) (.pair (.int .i64) (.pair (.int .i64) (.pair (.sl (.pair (.int .i64) (.int .i64))) (.int .i64))))) r.2.2.2.2 .shallow)]))) ?_ ?_
                · rintro ⟨i9, i_22, i10, i_02, i_12⟩ he
                  refine And.intro (fun hb => ?_) (fun hb => ?_)
                  · have he := ok_t he hb
                    have he := ok_some he
                    exact ⟨rfl, _, _, (leads_ren [(900, 10006001), (901, 10006002), (902, 10006004), (903, 10006005)] (l := [(4, .c (.ptr 900 0)), (5, .c (.int .i64 i9)), (6, .c (.own 901 false))]) (st' := [(0, .dead), (900, .rc [.own 902 false, .own 903 false, .int .i64 i_22]), (901, .sl 4 .bool i10 .shallow), (902, .sl 34 (.pair (.sl (.pair (.int .i64) (.int .i64))) (.int .i64)) i_02 .shallow), (903, .sl 36 (.pair (.int .i64) (.pair (.int .i64) (.pair (.int .i64) (.pair (.sl (.pair (.int .i64) (.int .i64))) (.int .i64))))) i_12 .shallow)]) rfl rfl ⟨trivial, ⟨⟨⟨rfl, rfl⟩, trivial⟩, ⟨⟨rfl, rfl⟩, trivial⟩, rfl, trivial⟩, ⟨rfl, rfl⟩, ⟨rfl, rfl⟩, ⟨rfl, rfl⟩, trivial⟩ ⟨⟨⟨rfl, rfl⟩, rfl⟩, rfl, ⟨⟨rfl, rfl⟩, trivial⟩, trivial⟩), he⟩
                  · have he := ok_f he hb
                    have he := ok_rq he
                    refine And.intro he.1 ?_
                    have he := he.2
                    have he := ok_some he
                    exact ⟨((i6 + (1:Int)), i_22, i_02, i_12), he, (leads_ren [(10004000, 10006000), (10004001, 10006001), (10004002, 10006003), (10004003, 10006004), (10004004, 10006005)] (l := [(1, .c (.imm (.int .i64) a1)), (2, .c (.ptr 10004000 0)), (4, .c (.ptr 10004001 0)), (77, .c (.own 10004002 false)), (78, .c (.int .i64 ([r5_, (0 - r5_)].length:Int))), (79, .c (.int .i64 (i6 + (1:Int))))]) (st' := [(0, .dead), (10004000, .rc [.own 10004003 false, .own 10004004 false, .int .i64 i_22]), (10004001, .rc [.nil, .nil, .int .i64 (0:Int)]), (10004002, .sl 3 (.int .i64) [r5_, (0 - r5_)] .shallow), (10004003, .sl 34 (.pair (.sl (.pair (.int .i64) (.int .i64))) (.int .i64)) i_02 .shallow), (10004004, .sl 36 (.pair (.int .i64) (.pair (.int .i64) (.pair (.int .i64) (.pair (.sl (.pair (.int .i64) (.int .i64))) (.int .i64))))) i_12 .shallow)]) rfl rfl ⟨trivial, ⟨⟨⟨rfl, rfl⟩, trivial⟩, ⟨⟨rfl, rfl⟩, trivial⟩, rfl, trivial⟩, ⟨rfl, rfl, rfl, trivial⟩, ⟨rfl, rfl⟩, ⟨rfl, rfl⟩, ⟨rfl, rfl⟩, trivial⟩ ⟨.inl rfl, ⟨⟨rfl, rfl⟩, rfl⟩, ⟨⟨rfl, rfl⟩, rfl⟩, ⟨⟨rfl, rfl⟩, trivial⟩, rfl, rfl, trivial⟩)⟩
                · skip
                  refine And.intro (by kernel_rfl) ?_
                  have he := ok_rq he
                  have hq1 := he.1
                  have he := he.2
                  have he := ok_rq he
                  have hq2 := he.1
                  have he := he.2
                  obtain ⟨r8_, hq3, he⟩ := ok_bind he
                  refine And.intro ?_ (And.intro ?_ (And.intro ?_ (trivial)))
                  · skip
                    refine And.intro ?_ (And.intro ?_ (trivial))
                    · skip
                      refine And.intro ?_ (And.intro ?_ (trivial))
                      · skip
                        refine And.intro hq1 ?_
                        refine And.intro ?_ trivial
                        refine And.intro ?_ trivial
                        refine And.intro hq2 ?_
                        refine And.intro ?_ trivial
                        refine ⟨r8_, hq3, ?_⟩
                        refine And.intro ?_ trivial
                        exact ⟨(r8_.1, r8_.2.1, r8_.2.2.1, r8_.2.2.2.1, r8_.2.2.2.2), he, (leads_ren [(10006000, 10004000), (10006001, 10004001), (10006002, 93901), (10006003, 10004002), (10006004, 93902), (10006005, 93903)] (l := [(1, .c (.imm (.int .i64) a1)), (2, .c (.ptr 10006000 0)), (4, .c (.ptr 10006001 0)), (14, .c (.int .i64 r8_.1)), (15, .c (.own 10006002 false)), (77, .c (.own 10006003 false)), (78, .c (.int .i64 ([r5_, (0 - r5_)].length:Int))), (79, .c (.int .i64 i6))]) (st' := [(0, .dead), (10006000, .rc [.own 10006004 false, .own 10006005 false, .int .i64 r8_.2.1]), (10006001, .rc [.nil, .nil, .int .i64 (0:Int)]), (10006002, .sl 4 .bool r8_.2.2.1 .shallow), (10006003, .sl 3 (.int .i64) [r5_, (0 - r5_)] .shallow), (10006004, .sl 34 (.pair (.sl (.pair (.int .i64) (.int .i64))) (.int .i64)) r8_.2.2.2.1 .shallow), (10006005, .sl 36 (.pair (.int .i64) (.pair (.int .i64) (.pair (.int .i64) (.pair (.sl (.pair (.int .i64) (.int .i64))) (.int .i64))))) r8_.2.2.2.2 .shallow)]) rfl rfl ⟨trivial, ⟨⟨⟨rfl, rfl⟩, trivial⟩, ⟨⟨rfl, rfl⟩, trivial⟩, rfl, trivial⟩, ⟨rfl, rfl, rfl, trivial⟩, ⟨rfl, rfl⟩, ⟨rfl, rfl⟩, ⟨rfl, rfl⟩, ⟨rfl, rfl⟩, trivial⟩ ⟨.inl rfl, ⟨⟨rfl, rfl⟩, rfl⟩, ⟨⟨rfl, rfl⟩, rfl⟩, rfl, ⟨⟨rfl, rfl⟩, trivial⟩, ⟨⟨rfl, rfl⟩, trivial⟩, rfl, rfl, trivial⟩)⟩
                      · skip
                        refine And.intro ?_ trivial
                        refine And.intro hq1 ?_
                        refine And.intro ?_ trivial
                        refine And.intro hq2 ?_
                        refine And.intro ?_ trivial
                        refine ⟨r8_, hq3, ?_⟩
                        refine And.intro ?_ trivial
                        exact ⟨(r8_.1, r8_.2.1, r8_.2.2.1, r8_.2.2.2.1, r8_.2.2.2.2), he, (leads_ren [(10006000, 10004000), (10006001, 10004001), (10006002, 93901), (10006003, 10004002), (10006004, 93902), (10006005, 93903)] (l := [(1, .c (.imm (.int .i64) a1)), (2, .c (.ptr 10006000 0)), (4, .c (.ptr 10006001 0)), (14, .c (.int .i64 r8_.1)), (15, .c (.own 10006002 false)), (77, .c (.own 10006003 false)), (78, .c (.int .i64 ([r5_, (0 - r5_)].length:Int))), (79, .c (.int .i64 i6))]) (st' := [(0, .dead), (10006000, .rc [.own 10006004 false, .own 10006005 false, .int .i64 r8_.2.1]), (10006001, .rc [.nil, .nil, .int .i64 (0:Int)]), (10006002, .sl 4 .bool r8_.2.2.1 .shallow), (10006003, .sl 3 (.int .i64) [r5_, (0 - r5_)] .shallow), (10006004, .sl 34 (.pair (.sl (.pair (.int .i64) (.int .i64))) (.int .i64)) r8_.2.2.2.1 .shallow), (10006005, .sl 36 (.pair (.int .i64) (.pair (.int .i64) (.pair (.int .i64) (.pair (.sl (.pair (.int .i64) (.int .i64))) (.int .i64))))) r8_.2.2.2.2 .shallow)]) rfl rfl ⟨trivial, ⟨⟨⟨rfl, rfl⟩, trivial⟩, ⟨⟨rfl, rfl⟩, trivial⟩, rfl, trivial⟩, ⟨rfl, rfl, rfl, trivial⟩, ⟨rfl, rfl⟩, ⟨rfl, rfl⟩, ⟨rfl, rfl⟩, ⟨rfl, rfl⟩, trivial⟩ ⟨.inl rfl, ⟨⟨rfl, rfl⟩, rfl⟩, ⟨⟨rfl, rfl⟩, rfl⟩, rfl, ⟨⟨rfl, rfl⟩, trivial⟩, ⟨⟨rfl, rfl⟩, trivial⟩, rfl, rfl, trivial⟩)⟩
                    · skip
                      refine And.intro ?_ trivial
                      refine And.intro ?_ trivial
                      refine And.intro hq1 ?_
                      refine And.intro ?_ trivial
                      refine And.intro hq2 ?_
                      refine And.intro ?_ trivial
                      refine ⟨r8_, hq3, ?_⟩
                      refine And.intro ?_ trivial
                      exact ⟨(r8_.1, r8_.2.1, r8_.2.2.1, r8_.2.2.2.1, r8_.2.2.2.2), he, (leads_ren [(10006000, 10004000), (10006001, 10004001), (10006002, 93901), (10006003, 10004002), (10006004, 93902), (10006005, 93903)] (l := [(1, .c (.imm (.int .i64) a1)), (2, .c (.ptr 10006000 0)), (4, .c (.ptr 10006001 0)), (14, .c (.int .i64 r8_.1)), (15, .c (.own 10006002 false)), (77, .c (.own 10006003 false)), (78, .c (.int .i64 ([r5_, (0 - r5_)].length:Int))), (79, .c (.int .i64 i6))]) (st' := [(0, .dead), (10006000, .rc [.own 10006004 false, .own 10006005 false, .int .i64 r8_.2.1]), (10006001, .rc [.nil, .nil, .int .i64 (0:Int)]), (10006002, .sl 4 .bool r8_.2.2.1 .shallow), (10006003, .sl 3 (.int .i64) [r5_, (0 - r5_)] .shallow), (10006004, .sl 34 (.pair (.sl (.pair (.int .i64) (.int .i64))) (.int .i64)) r8_.2.2.2.1 .shallow), (10006005, .sl 36 (.pair (.int .i64) (.pair (.int .i64) (.pair (.int .i64) (.pair (.sl (.pair (.int .i64) (.int .i64))) (.int .i64))))) r8_.2.2.2.2 .shallow)]) rfl rfl ⟨trivial, ⟨⟨⟨rfl, rfl⟩, trivial⟩, ⟨⟨rfl, rfl⟩, trivial⟩, rfl, trivial⟩, ⟨rfl, rfl, rfl, trivial⟩, ⟨rfl, rfl⟩, ⟨rfl, rfl⟩, ⟨rfl, rfl⟩, ⟨rfl, rfl⟩, trivial⟩ ⟨.inl rfl, ⟨⟨rfl, rfl⟩, rfl⟩, ⟨⟨rfl, rfl⟩, rfl⟩, rfl, ⟨⟨rfl, rfl⟩, trivial⟩, ⟨⟨rfl, rfl⟩, trivial⟩, rfl, rfl, trivial⟩)⟩
                  · skip
                    refine And.intro ?_ (And.intro ?_ (And.intro ?_ (trivial)))
                    · skip
                      refine And.intro ?_ (And.intro ?_ (trivial))
                      · skip
                        refine And.intro hq1 ?_
                        refine And.intro ?_ trivial
                        refine And.intro ?_ trivial
                        refine And.intro hq2 ?_
                        refine And.intro ?_ trivial
                        refine ⟨r8_, hq3, ?_⟩
                        refine And.intro ?_ trivial
                        exact ⟨(r8_.1, r8_.2.1, r8_.2.2.1, r8_.2.2.2.1, r8_.2.2.2.2), he, (leads_ren [(10006000, 10004000), (10006001, 10004001), (10006002, 93901), (10006003, 10004002), (10006004, 93902), (10006005, 93903)] (l := [(1, .c (.imm (.int .i64) a1)), (2, .c (.ptr 10006000 0)), (4, .c (.ptr 10006001 0)), (14, .c (.int .i64 r8_.1)), (15, .c (.own 10006002 false)), (77, .c (.own 10006003 false)), (78, .c (.int .i64 ([r5_, (0 - r5_)].length:Int))), (79, .c (.int .i64 i6))]) (st' := [(0, .dead), (10006000, .rc [.own 10006004 false, .own 10006005 false, .int .i64 r8_.2.1]), (10006001, .rc [.nil, .nil, .int .i64 (0:Int)]), (10006002, .sl 4 .bool r8_.2.2.1 .shallow), (10006003, .sl 3 (.int .i64) [r5_, (0 - r5_)] .shallow), (10006004, .sl 34 (.pair (.sl (.pair (.int .i64) (.int .i64))) (.int .i64)) r8_.2.2.2.1 .shallow), (10006005, .sl 36 (.pair (.int .i64) (.pair (.int .i64) (.pair (.int .i64) (.pair (.sl (.pair (.int .i64) (.int .i64))) (.int .i64))))) r8_.2.2.2.2 .shallow)]) rfl rfl ⟨trivial, ⟨⟨⟨rfl, rfl⟩, trivial⟩, ⟨⟨rfl, rfl⟩, trivial⟩, rfl, trivial⟩, ⟨rfl, rfl, rfl, trivial⟩, ⟨rfl, rfl⟩, ⟨rfl, rfl⟩, ⟨rfl, rfl⟩, ⟨rfl, rfl⟩, trivial⟩ ⟨.inl rfl, ⟨⟨rfl, rfl⟩, rfl⟩, ⟨⟨rfl, rfl⟩, rfl⟩, rfl, ⟨⟨rfl, rfl⟩, trivial⟩, ⟨⟨rfl, rfl⟩, trivial⟩, rfl, rfl, trivial⟩)⟩
                      · skip
                        refine And.intro ?_ trivial
                        refine And.intro hq1 ?_
                        refine And.intro ?_ trivial
                        refine And.intro hq2 ?_
                        refine And.intro ?_ trivial
                        refine ⟨r8_, hq3, ?_⟩
                        refine And.intro ?_ trivial
                        exact ⟨(r8_.1, r8_.2.1, r8_.2.2.1, r8_.2.2.2.1, r8_.2.2.2.2), he, (leads_ren [(10006000, 10004000), (10006001, 10004001), (10006002, 93901), (10006003, 10004002), (10006004, 93902), (10006005, 93903)] (l := [(1, .c (.imm (.int .i64) a1)), (2, .c (.ptr 10006000 0)), (4, .c (.ptr 10006001 0)), (14, .c (.int .i64 r8_.1)), (15, .c (.own 10006002 false)), (77, .c (.own 10006003 false)), (78, .c (.int .i64 ([r5_, (0 - r5_)].length:Int))), (79, .c (.int .i64 i6))]) (st' := [(0, .dead), (10006000, .rc [.own 10006004 false, .own 10006005 false, .int .i64 r8_.2.1]), (10006001, .rc [.nil, .nil, .int .i64 (0:Int)]), (10006002, .sl 4 .bool r8_.2.2.1 .shallow), (10006003, .sl 3 (.int .i64) [r5_, (0 - r5_)] .shallow), (10006004, .sl 34 (.pair (.sl (.pair (.int .i64) (.int .i64))) (.int .i64)) r8_.2.2.2.1 .shallow), (10006005, .sl 36 (.pair (.int .i64) (.pair (.int .i64) (.pair (.int .i64) (.pair (.sl (.pair (.int .i64) (.int .i64))) (.int .i64))))) r8_.2.2.2.2 .shallow)]) rfl rfl ⟨trivial, ⟨⟨⟨rfl, rfl⟩, trivial⟩, ⟨⟨rfl, rfl⟩, trivial⟩, rfl, trivial⟩, ⟨rfl, rfl, rfl, trivial⟩, ⟨rfl, rfl⟩, ⟨rfl, rfl⟩, ⟨rfl, rfl⟩, ⟨rfl, rfl⟩, trivial⟩ ⟨.inl rfl, ⟨⟨rfl, rfl⟩, rfl⟩, ⟨⟨rfl, rfl⟩, rfl⟩, rfl, ⟨⟨rfl, rfl⟩, trivial⟩, ⟨⟨rfl, rfl⟩, trivial⟩, rfl, rfl, trivial⟩)⟩
                    · skip
                      refine And.intro hq1 ?_
                      refine And.intro ?_ (And.intro ?_ (trivial))
                      · skip
                        refine And.intro ?_ trivial
                        refine And.intro ?_ trivial
                        refine And.intro hq2 ?_
                        refine And.intro ?_ trivial
                        refine ⟨r8_, hq3, ?_⟩
                        refine And.intro ?_ trivial
                        exact ⟨(r8_.1, r8_.2.1, r8_.2.2.1, r8_.2.2.2.1, r8_.2.2.2.2), he, (leads_ren [(10006000, 10004000), (10006001, 10004001), (10006002, 93901), (10006003, 10004002), (10006004, 93902), (10006005, 93903)] (l := [(1, .c (.imm (.int .i64) a1)), (2, .c (.ptr 10006000 0)), (4, .c (.ptr 10006001 0)), (14, .c (.int .i64 r8_.1)), (15, .c (.own 10006002 false)), (77, .c (.own 10006003 false)), (78, .c (.int .i64 ([r5_, (0 - r5_)].length:Int))), (79, .c (.int .i64 i6))]) (st' := [(0, .dead), (10006000, .rc [.own 10006004 false, .own 10006005 false, .int .i64 r8_.2.1]), (10006001, .rc [.nil, .nil, .int .i64 (0:Int)]), (10006002, .sl 4 .bool r8_.2.2.1 .shallow), (10006003, .sl 3 (.int .i64) [r5_, (0 - r5_)] .shallow), (10006004, .sl 34 (.pair (.sl (.pair (.int .i64) (.int .i64))) (.int .i64)) r8_.2.2.2.1 .shallow), (10006005, .sl 36 (.pair (.int .i64) (.pair (.int .i64) (.pair (.int .i64) (.pair (.sl (.pair (.int .i64) (.int .i64))) (.int .i64))))) r8_.2.2.2.2 .shallow)]) rfl rfl ⟨trivial, ⟨⟨⟨rfl, rfl⟩, trivial⟩, ⟨⟨rfl, rfl⟩, trivial⟩, rfl, trivial⟩, ⟨rfl, rfl, rfl, trivial⟩, ⟨rfl, rfl⟩, ⟨rfl, rfl⟩, ⟨rfl, rfl⟩, ⟨rfl, rfl⟩, trivial⟩ ⟨.inl rfl, ⟨⟨rfl, rfl⟩, rfl⟩, ⟨⟨rfl, rfl⟩, rfl⟩, rfl, ⟨⟨rfl, rfl⟩, trivial⟩, ⟨⟨rfl, rfl⟩, trivial⟩, rfl, rfl, trivial⟩)⟩
                      · skip
                        refine And.intro ?_ (And.intro ?_ (trivial))
                        · skip
                          refine And.intro ?_ trivial
                          refine And.intro hq2 ?_
                          refine And.intro ?_ trivial
                          refine ⟨r8_, hq3, ?_⟩
                          refine And.intro ?_ trivial
                          exact ⟨(r8_.1, r8_.2.1, r8_.2.2.1, r8_.2.2.2.1, r8_.2.2.2.2), he, (leads_ren [(10006000, 10004000), (10006001, 10004001), (10006002, 93901), (10006003, 10004002), (10006004, 93902), (10006005, 93903)] (l := [(1, .c (.imm (.int .i64) a1)), (2, .c (.ptr 10006000 0)), (4, .c (.ptr 10006001 0)), (14, .c (.int .i64 r8_.1)), (15, .c (.own 10006002 false)), (77, .c (.own 10006003 false)), (78, .c (.int .i64 ([r5_, (0 - r5_)].length:Int))), (79, .c (.int .i64 i6))]) (st' := [(0, .dead), (10006000, .rc [.own 10006004 false, .own 10006005 false, .int .i64 r8_.2.1]), (10006001, .rc [.nil, .nil, .int .i64 (0:Int)]), (10006002, .sl 4 .bool r8_.2.2.1 .shallow), (10006003, .sl 3 (.int .i64) [r5_, (0 - r5_)] .shallow), (10006004, .sl 34 (.pair (.sl (.pair (.int .i64) (.int .i64))) (.int .i64)) r8_.2.2.2.1 .shallow), (10006005, .sl 36 (.pair (.int .i64) (.pair (.int .i64) (.pair (.int .i64) (.pair (.sl (.pair (.int .i64) (.int .i64))) (.int .i64))))) r8_.2.2.2.2 .shallow)]) rfl rfl ⟨trivial, ⟨⟨⟨rfl, rfl⟩, trivial⟩, ⟨⟨rfl, rfl⟩, trivial⟩, rfl, trivial⟩, ⟨rfl, rfl, rfl, trivial⟩, ⟨rfl, rfl⟩, ⟨rfl, rfl⟩, ⟨rfl, rfl⟩, ⟨rfl, rfl⟩, trivial⟩ ⟨.inl rfl, ⟨⟨rfl, rfl⟩, rfl⟩, ⟨⟨rfl, rfl⟩, rfl⟩, rfl, ⟨⟨rfl, rfl⟩, trivial⟩, ⟨⟨rfl, rfl⟩, trivial⟩, rfl, rfl, trivial⟩)⟩
                        · skip
                          refine And.intro hq2 ?_
                          refine And.intro ?_ trivial
                          refine And.intro ?_ trivial
                          refine ⟨r8_, hq3, ?_⟩
                          refine And.intro ?_ trivial
                          exact ⟨(r8_.1, r8_.2.1, r8_.2.2.1, r8_.2.2.2.1, r8_.2.2.2.2), he, (leads_ren [(10006000, 10004000), (10006001, 10004001), (10006002, 93901), (10006003, 10004002), (10006004, 93902), (10006005, 93903)] (l := [(1, .c (.imm (.int .i64) a1)), (2, .c (.ptr 10006000 0)), (4, .c (.ptr 10006001 0)), (14, .c (.int .i64 r8_.1)), (15, .c (.own 10006002 false)), (77, .c (.own 10006003 false)), (78, .c (.int .i64 ([r5_, (0 - r5_)].length:Int))), (79, .c (.int .i64 i6))]) (st' := [(0, .dead), (10006000, .rc [.own 10006004 false, .own 10006005 false, .int .i64 r8_.2.1]), (10006001, .rc [.nil, .nil, .int .i64 (0:Int)]), (10006002, .sl 4 .bool r8_.2.2.1 .shallow), (10006003, .sl 3 (.int .i64) [r5_, (0 - r5_)] .shallow), (10006004, .sl 34 (.pair (.sl (.pair (.int .i64) (.int .i64))) (.int .i64)) r8_.2.2.2.1 .shallow), (10006005, .sl 36 (.pair (.int .i64) (.pair (.int .i64) (.pair (.int .i64) (.pair (.sl (.pair (.int .i64) (.int .i64))) (.int .i64))))) r8_.2.2.2.2 .shallow)]) rfl rfl ⟨trivial, ⟨⟨⟨rfl, rfl⟩, trivial⟩, ⟨⟨rfl, rfl⟩, trivial⟩, rfl, trivial⟩, ⟨rfl, rfl, rfl, trivial⟩, ⟨rfl, rfl⟩, ⟨rfl, rfl⟩, ⟨rfl, rfl⟩, ⟨rfl, rfl⟩, trivial⟩ ⟨.inl rfl, ⟨⟨rfl, rfl⟩, rfl⟩, ⟨⟨rfl, rfl⟩, rfl⟩, rfl, ⟨⟨rfl, rfl⟩, trivial⟩, ⟨⟨rfl, rfl⟩, trivial⟩, rfl, rfl, trivial⟩)⟩
                    · skip
                      refine And.intro ?_ (And.intro ?_ (trivial))
                      · skip
                        refine And.intro ?_ trivial
                        refine And.intro hq1 ?_
                        refine And.intro ?_ trivial
                        refine And.intro hq2 ?_
                        refine And.intro ?_ trivial
                        refine ⟨r8_, hq3, ?_⟩
                        refine And.intro ?_ trivial
                        exact ⟨(r8_.1, r8_.2.1, r8_.2.2.1, r8_.2.2.2.1, r8_.2.2.2.2), he, (leads_ren [(10006000, 10004000), (10006001, 10004001), (10006002, 93901), (10006003, 10004002), (10006004, 93902), (10006005, 93903)] (l := [(1, .c (.imm (.int .i64) a1)), (2, .c (.ptr 10006000 0)), (4, .c (.ptr 10006001 0)), (14, .c (.int .i64 r8_.1)), (15, .c (.own 10006002 false)), (77, .c (.own 10006003 false)), (78, .c (.int .i64 ([r5_, (0 - r5_)].length:Int))), (79, .c (.int .i64 i6))]) (st' := [(0, .dead), (10006000, .rc [.own 10006004 false, .own 10006005 false, .int .i64 r8_.2.1]), (10006001, .rc [.nil, .nil, .int .i64 (0:Int)]), (10006002, .sl 4 .bool r8_.2.2.1 .shallow), (10006003, .sl 3 (.int .i64) [r5_, (0 - r5_)] .shallow), (10006004, .sl 34 (.pair (.sl (.pair (.int .i64) (.int .i64))) (.int .i64)) r8_.2.2.2.1 .shallow), (10006005, .sl 36 (.pair (.int .i64) (.pair (.int .i64) (.pair (.int .i64) (.pair (.sl (.pair (.int .i64) (.int .i64))) (.int .i64))))) r8_.2.2.2.2 .shallow)]) rfl rfl ⟨trivial, ⟨⟨⟨rfl, rfl⟩, trivial⟩, ⟨⟨rfl, rfl⟩, trivial⟩, rfl, trivial⟩, ⟨rfl, rfl, rfl, trivial⟩, ⟨rfl, rfl⟩, ⟨rfl, rfl⟩, ⟨rfl, rfl⟩, ⟨rfl, rfl⟩, trivial⟩ ⟨.inl rfl, ⟨⟨rfl, rfl⟩, rfl⟩, ⟨⟨rfl, rfl⟩, rfl⟩, rfl, ⟨⟨rfl, rfl⟩, trivial⟩, ⟨⟨rfl, rfl⟩, trivial⟩, rfl, rfl, trivial⟩)⟩
                      · skip
                        refine And.intro hq1 ?_
                        refine And.intro ?_ (And.intro ?_ (trivial))
                        · skip
                          refine And.intro ?_ trivial
                          refine And.intro hq2 ?_
                          refine And.intro ?_ trivial
                          refine ⟨r8_, hq3, ?_⟩
                          refine And.intro ?_ trivial
                          exact ⟨(r8_.1, r8_.2.1, r8_.2.2.1, r8_.2.2.2.1, r8_.2.2.2.2), he, (leads_ren [(10006000, 10004000), (10006001, 10004001), (10006002, 93901), (10006003, 10004002), (10006004, 93902), (10006005, 93903)] (l := [(1, .c (.imm (.int .i64) a1)), (2, .c (.ptr 10006000 0)), (4, .c (.ptr 10006001 0)), (14, .c (.int .i64 r8_.1)), (15, .c (.own 10006002 false)), (77, .c (.own 10006003 false)), (78, .c (.int .i64 ([r5_, (0 - r5_)].length:Int))), (79, .c (.int .i64 i6))]) (st' := [(0, .dead), (10006000, .rc [.own 10006004 false, .own 10006005 false, .int .i64 r8_.2.1]), (10006001, .rc [.nil, .nil, .int .i64 (0:Int)]), (10006002, .sl 4 .bool r8_.2.2.1 .shallow), (10006003, .sl 3 (.int .i64) [r5_, (0 - r5_)] .shallow), (10006004, .sl 34 (.pair (.sl (.pair (.int .i64) (.int .i64))) (.int .i64)) r8_.2.2.2.1 .shallow), (10006005, .sl 36 (.pair (.int .i64) (.pair (.int .i64) (.pair (.int .i64) (.pair (.sl (.pair (.int .i64) (.int .i64))) (.int .i64))))) r8_.2.2.2.2 .shallow)]) rfl rfl ⟨trivial, ⟨⟨⟨rfl, rfl⟩, trivial⟩, ⟨⟨rfl, rfl⟩, trivial⟩, rfl, trivial⟩, ⟨rfl, rfl, rfl, trivial⟩, ⟨rfl, rfl⟩, ⟨rfl, rfl⟩, ⟨rfl, rfl⟩, ⟨rfl, rfl⟩, trivial⟩ ⟨.inl rfl, ⟨⟨rfl, rfl⟩, rfl⟩, ⟨⟨rfl, rfl⟩, rfl⟩, rfl, ⟨⟨rfl, rfl⟩, trivial⟩, ⟨⟨rfl, rfl⟩, trivial⟩, rfl, rfl, trivial⟩)⟩
                        · skip
                          refine And.intro hq2 ?_
                          refine And.intro ?_ trivial
                          refine And.intro ?_ trivial
                          refine ⟨r8_, hq3, ?_⟩
                          refine And.intro ?_ trivial
                          exact ⟨(r8_.1, r8_.2.1, r8_.2.2.1, r8_.2.2.2.1, r8_.2.2.2.2), he, (leads_ren [(10006000, 10004000), (10006001, 10004001), (10006002, 93901), (10006003, 10004002), (10006004, 93902), (10006005, 93903)] (l := [(1, .c (.imm (.int .i64) a1)), (2, .c (.ptr 10006000 0)), (4, .c (.ptr 10006001 0)), (14, .c (.int .i64 r8_.1)), (15, .c (.own 10006002 false)), (77, .c (.own 10006003 false)), (78, .c (.int .i64 ([r5_, (0 - r5_)].length:Int))), (79, .c (.int .i64 i6))]) (st' := [(0, .dead), (10006000, .rc [.own 10006004 false, .own 10006005 false, .int .i64 r8_.2.1]), (10006001, .rc [.nil, .nil, .int .i64 (0:Int)]), (10006002, .sl 4 .bool r8_.2.2.1 .shallow), (10006003, .sl 3 (.int .i64) [r5_, (0 - r5_)] .shallow), (10006004, .sl 34 (.pair (.sl (.pair (.int .i64) (.int .i64))) (.int .i64)) r8_.2.2.2.1 .shallow), (10006005, .sl 36 (.pair (.int .i64) (.pair (.int .i64) (.pair (.int .i64) (.pair (.sl (.pair (.int .i64) (.int .i64))) (.int .i64))))) r8_.2.2.2.2 .shallow)]) rfl rfl ⟨trivial, ⟨⟨⟨rfl, rfl⟩, trivial⟩, ⟨⟨rfl, rfl⟩, trivial⟩, rfl, trivial⟩, ⟨rfl, rfl, rfl, trivial⟩, ⟨rfl, rfl⟩, ⟨rfl, rfl⟩, ⟨rfl, rfl⟩, ⟨rfl, rfl⟩, trivial⟩ ⟨.inl rfl, ⟨⟨rfl, rfl⟩, rfl⟩, ⟨⟨rfl, rfl⟩, rfl⟩, rfl, ⟨⟨rfl, rfl⟩, trivial⟩, ⟨⟨rfl, rfl⟩, trivial⟩, rfl, rfl, trivial⟩)⟩
                  · skip
                    refine And.intro ?_ (And.intro ?_ (trivial))
                    · skip
                      refine And.intro ?_ trivial
                      refine And.intro ?_ trivial
                      refine And.intro hq1 ?_
                      refine And.intro ?_ trivial
                      refine And.intro hq2 ?_
                      refine And.intro ?_ trivial
                      refine ⟨r8_, hq3, ?_⟩
                      refine And.intro ?_ trivial
                      exact ⟨(r8_.1, r8_.2.1, r8_.2.2.1, r8_.2.2.2.1, r8_.2.2.2.2), he, (leads_ren [(10006000, 10004000), (10006001, 10004001), (10006002, 93901), (10006003, 10004002), (10006004, 93902), (10006005, 93903)] (l := [(1, .c (.imm (.int .i64) a1)), (2, .c (.ptr 10006000 0)), (4, .c (.ptr 10006001 0)), (14, .c (.int .i64 r8_.1)), (15, .c (.own 10006002 false)), (77, .c (.own 10006003 false)), (78, .c (.int .i64 ([r5_, (0 - r5_)].length:Int))), (79, .c (.int .i64 i6))]) (st' := [(0, .dead), (10006000, .rc [.own 10006004 false, .own 10006005 false, .int .i64 r8_.2.1]), (10006001, .rc [.nil, .nil, .int .i64 (0:Int)]), (10006002, .sl 4 .bool r8_.2.2.1 .shallow), (10006003, .sl 3 (.int .i64) [r5_, (0 - r5_)] .shallow), (10006004, .sl 34 (.pair (.sl (.pair (.int .i64) (.int .i64))) (.int .i64)) r8_.2.2.2.1 .shallow), (10006005, .sl 36 (.pair (.int .i64) (.pair (.int .i64) (.pair (.int .i64) (.pair (.sl (.pair (.int .i64) (.int .i64))) (.int .i64))))) r8_.2.2.2.2 .shallow)]) rfl rfl ⟨trivial, ⟨⟨⟨rfl, rfl⟩, trivial⟩, ⟨⟨rfl, rfl⟩, trivial⟩, rfl, trivial⟩, ⟨rfl, rfl, rfl, trivial⟩, ⟨rfl, rfl⟩, ⟨rfl, rfl⟩, ⟨rfl, rfl⟩, ⟨rfl, rfl⟩, trivial⟩ ⟨.inl rfl, ⟨⟨rfl, rfl⟩, rfl⟩, ⟨⟨rfl, rfl⟩, rfl⟩, rfl, ⟨⟨rfl, rfl⟩, trivial⟩, ⟨⟨rfl, rfl⟩, trivial⟩, rfl, rfl, trivial⟩)⟩
                    · skip
                      refine And.intro ?_ (And.intro ?_ (trivial))
                      · skip
                        refine And.intro ?_ trivial
                        refine And.intro hq1 ?_
                        refine And.intro ?_ trivial
                        refine And.intro hq2 ?_
                        refine And.intro ?_ trivial
                        refine ⟨r8_, hq3, ?_⟩
                        refine And.intro ?_ trivial
                        exact ⟨(r8_.1, r8_.2.1, r8_.2.2.1, r8_.2.2.2.1, r8_.2.2.2.2), he, (leads_ren [(10006000, 10004000), (10006001, 10004001), (10006002, 93901), (10006003, 10004002), (10006004, 93902), (10006005, 93903)] (l := [(1, .c (.imm (.int .i64) a1)), (2, .c (.ptr 10006000 0)), (4, .c (.ptr 10006001 0)), (14, .c (.int .i64 r8_.1)), (15, .c (.own 10006002 false)), (77, .c (.own 10006003 false)), (78, .c (.int .i64 ([r5_, (0 - r5_)].length:Int))), (79, .c (.int .i64 i6))]) (st' := [(0, .dead), (10006000, .rc [.own 10006004 false, .own 10006005 false, .int .i64 r8_.2.1]), (10006001, .rc [.nil, .nil, .int .i64 (0:Int)]), (10006002, .sl 4 .bool r8_.2.2.1 .shallow), (10006003, .sl 3 (.int .i64) [r5_, (0 - r5_)] .shallow), (10006004, .sl 34 (.pair (.sl (.pair (.int .i64) (.int .i64))) (.int .i64)) r8_.2.2.2.1 .shallow), (10006005, .sl 36 (.pair (.int .i64) (.pair (.int .i64) (.pair (.int .i64) (.pair (.sl (.pair (.int .i64) (.int .i64))) (.int .i64))))) r8_.2.2.2.2 .shallow)]) rfl rfl ⟨trivial, ⟨⟨⟨rfl, rfl⟩, trivial⟩, ⟨⟨rfl, rfl⟩, trivial⟩, rfl, trivial⟩, ⟨rfl, rfl, rfl, trivial⟩, ⟨rfl, rfl⟩, ⟨rfl, rfl⟩, ⟨rfl, rfl⟩, ⟨rfl, rfl⟩, trivial⟩ ⟨.inl rfl, ⟨⟨rfl, rfl⟩, rfl⟩, ⟨⟨rfl, rfl⟩, rfl⟩, rfl, ⟨⟨rfl, rfl⟩, trivial⟩, ⟨⟨rfl, rfl⟩, trivial⟩, rfl, rfl, trivial⟩)⟩
                      · skip
                        refine And.intro hq1 ?_
                        refine And.intro ?_ (And.intro ?_ (trivial))
                        · skip
                          refine And.intro ?_ trivial
                          refine And.intro hq2 ?_
                          refine And.intro ?_ trivial
                          refine ⟨r8_, hq3, ?_⟩
                          refine And.intro ?_ trivial
                          exact ⟨(r8_.1, r8_.2.1, r8_.2.2.1, r8_.2.2.2.1, r8_.2.2.2.2), he, (leads_ren [(10006000, 10004000), (10006001, 10004001), (10006002, 93901), (10006003, 10004002), (10006004, 93902), (10006005, 93903)] (l := [(1, .c (.imm (.int .i64) a1)), (2, .c (.ptr 10006000 0)), (4, .c (.ptr 10006001 0)), (14, .c (.int .i64 r8_.1)), (15, .c (.own 10006002 false)), (77, .c (.own 10006003 false)), (78, .c (.int .i64 ([r5_, (0 - r5_)].length:Int))), (79, .c (.int .i64 i6))]) (st' := [(0, .dead), (10006000, .rc [.own 10006004 false, .own 10006005 false, .int .i64 r8_.2.1]), (10006001, .rc [.nil, .nil, .int .i64 (0:Int)]), (10006002, .sl 4 .bool r8_.2.2.1 .shallow), (10006003, .sl 3 (.int .i64) [r5_, (0 - r5_)] .shallow), (10006004, .sl 34 (.pair (.sl (.pair (.int .i64) (.int .i64))) (.int .i64)) r8_.2.2.2.1 .shallow), (10006005, .sl 36 (.pair (.int .i64) (.pair (.int .i64) (.pair (.int .i64) (.pair (.sl (.pair (.int .i64) (.int .i64))) (.int .i64))))) r8_.2.2.2.2 .shallow)]) rfl rfl ⟨trivial, ⟨⟨⟨rfl, rfl⟩, trivial⟩, ⟨⟨rfl, rfl⟩, trivial⟩, rfl, trivial⟩, ⟨rfl, rfl, rfl, trivial⟩, ⟨rfl, rfl⟩, ⟨rfl, rfl⟩, ⟨rfl, rfl⟩, ⟨rfl, rfl⟩, trivial⟩ ⟨.inl rfl, ⟨⟨rfl, rfl⟩, rfl⟩, ⟨⟨rfl, rfl⟩, rfl⟩, rfl, ⟨⟨rfl, rfl⟩, trivial⟩, ⟨⟨rfl, rfl⟩, trivial⟩, rfl, rfl, trivial⟩)⟩
                        · skip
                          refine And.intro hq2 ?_
                          refine And.intro ?_ trivial
                          refine And.intro ?_ trivial
                          refine ⟨r8_, hq3, ?_⟩
                          refine And.intro ?_ trivial
                          exact ⟨(r8_.1, r8_.2.1, r8_.2.2.1, r8_.2.2.2.1, r8_.2.2.2.2), he, (leads_ren [(10006000, 10004000), (10006001, 10004001), (10006002, 93901), (10006003, 10004002), (10006004, 93902), (10006005, 93903)] (l := [(1, .c (.imm (.int .i64) a1)), (2, .c (.ptr 10006000 0)), (4, .c (.ptr 10006001 0)), (14, .c (.int .i64 r8_.1)), (15, .c (.own 10006002 false)), (77, .c (.own 10006003 false)), (78, .c (.int .i64 ([r5_, (0 - r5_)].length:Int))), (79, .c (.int .i64 i6))]) (st' := [(0, .dead), (10006000, .rc [.own 10006004 false, .own 10006005 false, .int .i64 r8_.2.1]), (10006001, .rc [.nil, .nil, .int .i64 (0:Int)]), (10006002, .sl 4 .bool r8_.2.2.1 .shallow), (10006003, .sl 3 (.int .i64) [r5_, (0 - r5_)] .shallow), (10006004, .sl 34 (.pair (.sl (.pair (.int .i64) (.int .i64))) (.int .i64)) r8_.2.2.2.1 .shallow), (10006005, .sl 36 (.pair (.int .i64) (.pair (.int .i64) (.pair (.int .i64) (.pair (.sl (.pair (.int .i64) (.int .i64))) (.int .i64))))) r8_.2.2.2.2 .shallow)]) rfl rfl ⟨trivial, ⟨⟨⟨rfl, rfl⟩, trivial⟩, ⟨⟨rfl, rfl⟩, trivial⟩, rfl, trivial⟩, ⟨rfl, rfl, rfl, trivial⟩, ⟨rfl, rfl⟩, ⟨rfl, rfl⟩, ⟨rfl, rfl⟩, ⟨rfl, rfl⟩, trivial⟩ ⟨.inl rfl, ⟨⟨rfl, rfl⟩, rfl⟩, ⟨⟨rfl, rfl⟩, rfl⟩, rfl, ⟨⟨rfl, rfl⟩, trivial⟩, ⟨⟨rfl, rfl⟩, trivial⟩, rfl, rfl, trivial⟩)⟩
              · have he := ok_f he hb
                exact ⟨(i_21, i_01, i_11), ok_up he, (leads_ren [(10007000, 10004000), (10007001, 10004001), (10007002, 10004003), (10007003, 10004004)] (l := [(1, .c (.imm (.int .i64) a1)), (2, .c (.ptr 10007000 0)), (4, .c (.ptr 10007001 0))]) (st' := [(0, .dead), (10007000, .rc [.own 10007002 false, .own 10007003 false, .int .i64 i_21]), (10007001, .rc [.nil, .nil, .int .i64 (0:Int)]), (10007002, .sl 34 (.pair (.sl (.pair (.int .i64) (.int .i64))) (.int .i64)) i_01 .shallow), (10007003, .sl 36 (.pair (.int .i64) (.pair (.int .i64) (.pair (.int .i64) (.pair (.sl (.pair (.int .i64) (.int .i64))) (.int .i64))))) i_11 .shallow)]) rfl rfl ⟨trivial, ⟨⟨⟨rfl, rfl⟩, trivial⟩, ⟨⟨rfl, rfl⟩, trivial⟩, rfl, trivial⟩, ⟨rfl, rfl, rfl, trivial⟩, ⟨rfl, rfl⟩, ⟨rfl, rfl⟩, trivial⟩ ⟨.inl rfl, ⟨⟨rfl, rfl⟩, rfl⟩, ⟨⟨rfl, rfl⟩, rfl⟩, trivial⟩)⟩
      · skip
        refine loop_model mixed tys_ok t_spec_l5Search__s (S := Int × (List Int)) (I := (fun (i, i1) => (envOf [(1, .c (.imm (.int .i64) a1)), (2, .c (.ptr 10000000 0)), (4, .c (.ptr 10000001 0)), (7, .c (.own 10000002 false)), (8, .c (.int .i64 i))], [(0, .sl 34 (.pair (.sl (.pair (.int .i64) (.int .i64))) (.int .i64)) o0 .shallow), (10000000, .rc [.own 0 false, .own 10000003 false, .int .i64 (a0_2 - (1:Int))]), (10000001, .rc [.nil, .nil, .int .i64 (0:Int)]), (10000002, .sl 3 (.int .i64) i1 .shallow), (10000003, .sl 36 (.pair (.int .i64) (.pair (.int .i64) (.pair (.int .i64) (.pair (.sl (.pair (.int .i64) (.int .i64))) (.int .i64))))) ([] : List (Int × Int × Int × (List (Int × Int)) × Int)) .shallow)]))) (f := spec_l5Search__s_l3 a0_2 a1 o0) (K := (fun r => k (.tup [.agg [.own 902 false, .own 903 false, .int .i64 r.2.1], .c (.int .i64 r.1), .c (.own 901 false)]) [(0, .dead), (900, .rc [.own 902 false, .own 903 false, .int .i64 r.2.1]), (901, .sl 4 .bool r.2.2.1 .shallow), (902, .sl 34 (.pair (.sl (.pair (.int .i64) (.int .i64))) (.int .i64)) r.2.2.2.1 .shallow), (903, .sl 36 (.pair (.int .i64) (.pair (.int .i64) (.pair (.int .i64) (.pair (.sl (.pair (.int .i64) (.int .i64))) (.int .i64))))) r.2.2.2.2 .shallow)])) he (leads_ren [(10000000, 2), (10000001, 4), (10000002, 31)] (l := [(1, .c (.imm (.int .i64) a1)), (2, .c (.ptr 10000000 0)), (4, .c (.ptr 10000001 0)), (7, .c (.own 10000002 false)), (8, .c (.int .i64 (0:Int)))]) (st' := [(0, .sl 34 (.pair (.sl (.pair (.int .i64) (.int .i64))) (.int .i64)) o0 .shallow), (10000000, .rc [.own 0 false, .own 10000003 false, .int .i64 (a0_2 - (1:Int))]), (10000001, .rc [.nil, .nil, .int .i64 (0:Int)]), (10000002, .sl 3 (.int .i64) (List.replicate (12:Int).toNat 0) .shallow), (10000003, .sl 36 (.pair (.int .i64) (.pair (.int .i64) (.pair (.int .i64) (.pair (.sl (.pair (.int .i64) (.int .i64))) (.int .i64))))) ([] : List (Int × Int × Int × (List (Int × Int)) × Int)) .shallow)]) rfl rfl ⟨⟨rfl, rfl⟩, ⟨⟨⟨rfl, rfl⟩, trivial⟩, ⟨rfl, trivial⟩, rfl, trivial⟩, ⟨rfl, rfl, rfl, trivial⟩, ⟨rfl, rfl⟩, trivial, trivial⟩ ⟨.inl rfl, ⟨⟨rfl, rfl⟩, rfl⟩, ⟨⟨rfl, rfl⟩, rfl⟩, ⟨⟨rfl, rfl⟩, trivial⟩, rfl, trivial⟩) ?_
        rintro ⟨i, i1⟩ J1 he
        refine And.intro (fun hb => ?_) (fun hb => ?_)
        · have he := ok_t he hb
          have he := ok_rq he
          refine And.intro he.1 ?_
          have he := he.2
          obtain ⟨r2_, hr, he⟩ := ok_bind he
          refine ⟨r2_, hr, ?_⟩
          have he := ok_rq he
          refine And.intro he.1 ?_
          have he := he.2
          have he := ok_some he
          exact ⟨((i + (1:Int)), r2_), he, (leads_ren [] (l := [(1, .c (.imm (.int .i64) a1)), (2, .c (.ptr 10000000 0)), (4, .c (.ptr 10000001 0)), (7, .c (.own 10000002 false)), (8, .c (.int .i64 (i + (1:Int))))]) (st' := [(0, .sl 34 (.pair (.sl (.pair (.int .i64) (.int .i64))) (.int .i64)) o0 .shallow), (10000000, .rc [.own 0 false, .own 10000003 false, .int .i64 (a0_2 - (1:Int))]), (10000001, .rc [.nil, .nil, .int .i64 (0:Int)]), (10000002, .sl 3 (.int .i64) r2_ .shallow), (10000003, .sl 36 (.pair (.int .i64) (.pair (.int .i64) (.pair (.int .i64) (.pair (.sl (.pair (.int .i64) (.int .i64))) (.int .i64))))) ([] : List (Int × Int × Int × (List (Int × Int)) × Int)) .shallow)]) rfl rfl ⟨⟨rfl, rfl⟩, ⟨⟨⟨rfl, rfl⟩, trivial⟩, ⟨⟨rfl, rfl⟩, trivial⟩, rfl, trivial⟩, ⟨rfl, rfl, rfl, trivial⟩, ⟨rfl, rfl⟩, ⟨rfl, rfl⟩, trivial⟩ ⟨.inl rfl, ⟨⟨rfl, rfl⟩, rfl⟩, ⟨⟨rfl, rfl⟩, rfl⟩, ⟨⟨rfl, rfl⟩, trivial⟩, rfl, trivial⟩)⟩
        · have he := ok_f he hb
          exact ⟨i1, ok_up he, (leads_ren [(10001000, 10000000), (10001001, 10000001), (10001002, 10000002), (10001003, 10000003)] (l := [(1, .c (.imm (.int .i64) a1)), (2, .c (.ptr 10001000 0)), (4, .c (.ptr 10001001 0)), (7, .c (.own 10001002 false))]) (st' := [(0, .sl 34 (.pair (.sl (.pair (.int .i64) (.int .i64))) (.int .i64)) o0 .shallow), (10001000, .rc [.own 0 false, .own 10001003 false, .int .i64 (a0_2 - (1:Int))]), (10001001, .rc [.nil, .nil, .int .i64 (0:Int)]), (10001002, .sl 3 (.int .i64) i1 .shallow), (10001003, .sl 36 (.pair (.int .i64) (.pair (.int .i64) (.pair (.int .i64) (.pair (.sl (.pair (.int .i64) (.int .i64))) (.int .i64))))) ([] : List (Int × Int × Int × (List (Int × Int)) × Int)) .shallow)]) rfl rfl ⟨⟨rfl, rfl⟩, ⟨⟨⟨rfl, rfl⟩, trivial⟩, ⟨⟨rfl, rfl⟩, trivial⟩, rfl, trivial⟩, ⟨rfl, rfl, rfl, trivial⟩, ⟨rfl, rfl⟩, ⟨rfl, rfl⟩, trivial⟩ ⟨.inl rfl, ⟨⟨rfl, rfl⟩, rfl⟩, ⟨⟨rfl, rfl⟩, rfl⟩, ⟨⟨rfl, rfl⟩, trivial⟩, trivial⟩)⟩
  · have he := ok_t he hb
    have he := ok_some he
    exact ⟨rfl, _, _, (leads_ren [(900, 4), (901, 26), (902, 0)] (l := [(4, .c (.ptr 900 0)), (5, .c (.int .i64 (0:Int))), (6, .c (.own 901 false))]) (st' := [(0, .dead), (900, .rc [.own 902 false, .own 903 false, .int .i64 a0_2]), (901, .sl 4 .bool ([] : List Bool) .shallow), (902, .sl 34 (.pair (.sl (.pair (.int .i64) (.int .i64))) (.int .i64)) o0 .shallow), (903, .sl 36 (.pair (.int .i64) (.pair (.int .i64) (.pair (.int .i64) (.pair (.sl (.pair (.int .i64) (.int .i64))) (.int .i64))))) ([] : List (Int × Int × Int × (List (Int × Int)) × Int)) .shallow)]) rfl rfl ⟨trivial, ⟨⟨⟨rfl, rfl⟩, trivial⟩, ⟨rfl, trivial⟩, rfl, trivial⟩, ⟨rfl, rfl⟩, ⟨rfl, rfl⟩, trivial, trivial⟩ ⟨⟨⟨rfl, rfl⟩, rfl⟩, rfl, ⟨⟨rfl, rfl⟩, trivial⟩, trivial⟩), he⟩

noncomputable def c_spec_SolveProblem : Con := fun args st => match args, st with
  | [.c (.imm (.pair (.sl (.pair (.int .i64) (.int .i64))) (.int .i64)) a0), .c (.int .i64 a1)], [] => .opt (Int × (List Bool) × (List (Int × Int × Int × (List (Int × Int)) × Int))) (spec_SolveProblem a0 a1) (fun r => .ret (.tup [.c (.int .i64 r.1), .c (.own 900 false), .c (.own 901 false)]) [(900, .sl 4 .bool r.2.1 .shallow), (901, .sl 36 (.pair (.int .i64) (.pair (.int .i64) (.pair (.int .i64) (.pair (.sl (.pair (.int .i64) (.int .i64))) (.int .i64))))) r.2.2 (.deep true .no))])
  | _, _ => .fail

noncomputable def C_spec_SolveProblem : Cfg := { y := tys, n := 65, h := 0, tab := [(30, c_spec_ProblemValid), (31, c_spec_l5Search__s), (32, c_spec_l1Copy)], cut := [13], hand := [(31, [0])], good := [], deep := [25, 40, 41, 60], sched := [], nils := [31] }

theorem t_spec_SolveProblem : TabOk Try.prog C_spec_SolveProblem := by
  refine tabOk_of ?_
  simp only [C_spec_SolveProblem, List.forall_mem_cons]
  exact ⟨k_spec_ProblemValid, k_spec_l5Search__s, k_spec_l1Copy, fun p h => by cases h⟩

theorem k_spec_SolveProblem : Entry Try.prog 13 c_spec_SolveProblem := by
  refine entry_by (C := C_spec_SolveProblem) mixed tys_ok t_spec_SolveProblem (fn := Try.f13) (c := bd Try.f13) (by kernel_rfl) (by kernel_rfl) (by kernel_rfl) (by kernel_rfl) ?_
  intro args st k he
  unfold c_spec_SolveProblem at he
  split at he
  rotate_left
  · exact he.elim
  rename_i a0 a1
  have he : Ok (spec_SolveProblem a0 a1) (fun r => k (.tup [.c (.int .i64 r.1), .c (.own 900 false), .c (.own 901 false)]) [(900, .sl 4 .bool r.2.1 .shallow), (901, .sl 36 (.pair (.int .i64) (.pair (.int .i64) (.pair (.int .i64) (.pair (.sl (.pair (.int .i64) (.int .i64))) (.int .i64))))) r.2.2 (.deep true .no))]) := he
  refine ⟨rfl, rfl, ?_⟩
  obtain ⟨r1_, hr, he⟩ := ok_bind he
  refine ⟨r1_, hr, ?_⟩
  refine And.intro (fun hb => ?_) (fun hb => ?_)
  · have he := ok_f he hb
    refine And.intro (fun hb => ?_) (fun hb => ?_)
    · have he := ok_f he hb
      refine And.intro (fun hb => ?_) (fun hb => ?_)
      · have he := ok_t he hb
        have he := ok_some he
        exact ⟨rfl, _, _, (leads_ren [(900, 24), (901, 25)] (l := [(4, .c (.int .i64 (3:Int))), (5, .c (.own 900 false)), (6, .c (.own 901 false))]) (st' := [(900, .sl 4 .bool ([] : List Bool) .shallow), (901, .sl 36 (.pair (.int .i64) (.pair (.int .i64) (.pair (.int .i64) (.pair (.sl (.pair (.int .i64) (.int .i64))) (.int .i64))))) ([] : List (Int × Int × Int × (List (Int × Int)) × Int)) (.deep true .no))]) rfl rfl ⟨⟨rfl, rfl⟩, ⟨rfl, rfl⟩, trivial⟩ ⟨rfl, ⟨⟨rfl, rfl⟩, trivial⟩, ⟨⟨rfl, rfl⟩, trivial⟩, trivial⟩), he⟩
      · have he := ok_f he hb
        have he := ok_rq he
        refine And.intro he.1 ?_
        have he := he.2
        obtain ⟨r2_, hr, he⟩ := ok_bind he
        refine ⟨r2_, hr, ?_⟩
        refine And.intro (fun hb => ?_) (fun hb => ?_)
        · have he := ok_t he hb
          have he := ok_some he
          exact ⟨rfl, _, _, (leads_ren [(900, 33901), (901, 40)] (l := [(4, .c (.int .i64 r2_.1)), (5, .c (.own 900 false)), (6, .c (.own 901 false))]) (st' := [(900, .sl 4 .bool r2_.2.2.1 .shallow), (901, .sl 36 (.pair (.int .i64) (.pair (.int .i64) (.pair (.int .i64) (.pair (.sl (.pair (.int .i64) (.int .i64))) (.int .i64))))) ([] : List (Int × Int × Int × (List (Int × Int)) × Int)) (.deep true .no))]) rfl rfl ⟨⟨rfl, rfl⟩, ⟨rfl, rfl⟩, trivial⟩ ⟨rfl, ⟨⟨rfl, rfl⟩, trivial⟩, ⟨⟨rfl, rfl⟩, trivial⟩, trivial⟩), he⟩
        · have he := ok_f he hb
          refine seq_model mixed tys_ok t_spec_SolveProblem (S := (List (Int × Int × Int × (List (Int × Int)) × Int))) (I := (fun i2 => (envOf [(8, .c (.int .i64 r2_.1)), (10, .c (.own 10001000 false))], [(10001000, .sl 36 (.pair (.int .i64) (.pair (.int .i64) (.pair (.int .i64) (.pair (.sl (.pair (.int .i64) (.int .i64))) (.int .i64))))) i2 (.deep true .no))]))) (B := fun s => Ok (spec_SolveProblem_j1 r2_ s) (fun r => k (.tup [.c (.int .i64 r.1), .c (.own 900 false), .c (.own 901 false)]) [(900, .sl 4 .bool r.2.1 .shallow), (901, .sl 36 (.pair (.int .i64) (.pair (.int .i64) (.pair (.int .i64) (.pair (.sl (.pair (.int .i64) (.int .i64))) (.int .i64))))) r.2.2 (.deep true .no))])) ?_ ?_
          · rintro i2 he
            have he := ok_some he
            exact ⟨rfl, _, _, (leads_ren [(900, 63), (901, 10001000)] (l := [(4, .c (.int .i64 r2_.1)), (5, .c (.own 900 false)), (6, .c (.own 901 false))]) (st' := [(900, .sl 4 .bool ([] : List Bool) .shallow), (901, .sl 36 (.pair (.int .i64) (.pair (.int .i64) (.pair (.int .i64) (.pair (.sl (.pair (.int .i64) (.int .i64))) (.int .i64))))) i2 (.deep true .no))]) rfl rfl ⟨⟨rfl, rfl⟩, ⟨rfl, rfl⟩, trivial⟩ ⟨rfl, ⟨⟨rfl, rfl⟩, trivial⟩, ⟨⟨rfl, rfl⟩, trivial⟩, trivial⟩), he⟩
          · skip
            refine loop_model mixed tys_ok t_spec_SolveProblem (S := Int × (List (Int × Int × Int × (List (Int × Int)) × Int))) (I := (fun (i, i1) => (envOf [(7, .c (.ptr 10000000 0)), (8, .c (.int .i64 r2_.1)), (10, .c (.own 10000001 false)), (11, .c (.int .i64 i))], [(10000000, .rc [.own 10000002 false, .own 10000003 false, .int .i64 r2_.2.1]), (10000001, .sl 36 (.pair (.int .i64) (.pair (.int .i64) (.pair (.int .i64) (.pair (.sl (.pair (.int .i64) (.int .i64))) (.int .i64))))) i1 (.deep true .no)), (10000002, .sl 34 (.pair (.sl (.pair (.int .i64) (.int .i64))) (.int .i64)) r2_.2.2.2.1 .shallow), (10000003, .sl 36 (.pair (.int .i64) (.pair (.int .i64) (.pair (.int .i64) (.pair (.sl (.pair (.int .i64) (.int .i64))) (.int .i64))))) r2_.2.2.2.2 .shallow)]))) (f := spec_SolveProblem_l1 r2_) (K := (fun r => k (.tup [.c (.int .i64 r.1), .c (.own 900 false), .c (.own 901 false)]) [(900, .sl 4 .bool r.2.1 .shallow), (901, .sl 36 (.pair (.int .i64) (.pair (.int .i64) (.pair (.int .i64) (.pair (.sl (.pair (.int .i64) (.int .i64))) (.int .i64))))) r.2.2 (.deep true .no))])) he (leads_ren [(10000000, 7), (10000001, 41), (10000002, 33902), (10000003, 33903)] (l := [(7, .c (.ptr 10000000 0)), (8, .c (.int .i64 r2_.1)), (10, .c (.own 10000001 false)), (11, .c (.int .i64 (0:Int)))]) (st' := [(10000000, .rc [.own 10000002 false, .own 10000003 false, .int .i64 r2_.2.1]), (10000001, .sl 36 (.pair (.int .i64) (.pair (.int .i64) (.pair (.int .i64) (.pair (.sl (.pair (.int .i64) (.int .i64))) (.int .i64))))) ([] : List (Int × Int × Int × (List (Int × Int)) × Int)) (.deep true .no)), (10000002, .sl 34 (.pair (.sl (.pair (.int .i64) (.int .i64))) (.int .i64)) r2_.2.2.2.1 .shallow), (10000003, .sl 36 (.pair (.int .i64) (.pair (.int .i64) (.pair (.int .i64) (.pair (.sl (.pair (.int .i64) (.int .i64))) (.int .i64))))) r2_.2.2.2.2 .shallow)]) rfl rfl ⟨⟨⟨⟨rfl, rfl⟩, trivial⟩, ⟨⟨rfl, rfl⟩, trivial⟩, rfl, trivial⟩, ⟨rfl, rfl⟩, ⟨rfl, rfl⟩, ⟨rfl, rfl⟩, trivial⟩ ⟨⟨⟨rfl, rfl⟩, rfl⟩, rfl, ⟨⟨rfl, rfl⟩, trivial⟩, rfl, trivial⟩) ?_
            rintro ⟨i, i1⟩ J1 he
            refine And.intro (fun hb => ?_) (fun hb => ?_)
            · have he := ok_t he hb
              have he := ok_rq he
              refine And.intro he.1 ?_
              have he := he.2
              obtain ⟨r4_, hr, he⟩ := ok_bind he
              refine ⟨r4_, hr, ?_⟩
              have he := ok_rq he
              refine And.intro he.1 ?_
              have he := he.2
              have he := ok_rq he
              refine And.intro he.1 ?_
              have he := he.2
              have he := ok_some he
              exact ⟨((i + (1:Int)), (i1 ++ [((r2_.2.2.2.2.getD i.toNat (0, (0, (0, ([], 0))))).1, ((r2_.2.2.2.2.getD i.toNat (0, (0, (0, ([], 0))))).2.1, ((r2_.2.2.2.2.getD i.toNat (0, (0, (0, ([], 0))))).2.2.1, (r4_.2, r4_.1))))])), he, (leads_ren [(10000001, 61)] (l := [(7, .c (.ptr 10000000 0)), (8, .c (.int .i64 r2_.1)), (10, .c (.own 10000001 false)), (11, .c (.int .i64 (i + (1:Int))))]) (st' := [(10000000, .rc [.own 10000002 false, .own 10000003 false, .int .i64 r2_.2.1]), (10000001, .sl 36 (.pair (.int .i64) (.pair (.int .i64) (.pair (.int .i64) (.pair (.sl (.pair (.int .i64) (.int .i64))) (.int .i64))))) (i1 ++ [((r2_.2.2.2.2.getD i.toNat (0, (0, (0, ([], 0))))).1, ((r2_.2.2.2.2.getD i.toNat (0, (0, (0, ([], 0))))).2.1, ((r2_.2.2.2.2.getD i.toNat (0, (0, (0, ([], 0))))).2.2.1, (r4_.2, r4_.1))))]) (.deep true .no)), (10000002, .sl 34 (.pair (.sl (.pair (.int .i64) (.int .i64))) (.int .i64)) r2_.2.2.2.1 .shallow), (10000003, .sl 36 (.pair (.int .i64) (.pair (.int .i64) (.pair (.int .i64) (.pair (.sl (.pair (.int .i64) (.int .i64))) (.int .i64))))) r2_.2.2.2.2 .shallow)]) rfl rfl ⟨⟨⟨⟨rfl, rfl⟩, trivial⟩, ⟨⟨rfl, rfl⟩, trivial⟩, rfl, trivial⟩, ⟨rfl, rfl⟩, ⟨rfl, rfl⟩, ⟨rfl, rfl⟩, trivial⟩ ⟨⟨⟨rfl, rfl⟩, rfl⟩, rfl, ⟨⟨rfl, rfl⟩, trivial⟩, rfl, trivial⟩)⟩
            · have he := ok_f he hb
              exact ⟨i1, ok_up he, (leads_ren [(10001000, 10000001)] (l := [(8, .c (.int .i64 r2_.1)), (10, .c (.own 10001000 false))]) (st' := [(10001000, .sl 36 (.pair (.int .i64) (.pair (.int .i64) (.pair (.int .i64) (.pair (.sl (.pair (.int .i64) (.int .i64))) (.int .i64))))) i1 (.deep true .no))]) rfl rfl ⟨⟨rfl, rfl⟩, trivial⟩ ⟨rfl, ⟨⟨rfl, rfl⟩, trivial⟩, trivial⟩)⟩
    · have he := ok_t he hb
      have he := ok_some he
      exact ⟨rfl, _, _, (leads_ren [(900, 24), (901, 25)] (l := [(4, .c (.int .i64 (3:Int))), (5, .c (.own 900 false)), (6, .c (.own 901 false))]) (st' := [(900, .sl 4 .bool ([] : List Bool) .shallow), (901, .sl 36 (.pair (.int .i64) (.pair (.int .i64) (.pair (.int .i64) (.pair (.sl (.pair (.int .i64) (.int .i64))) (.int .i64))))) ([] : List (Int × Int × Int × (List (Int × Int)) × Int)) (.deep true .no))]) rfl rfl ⟨⟨rfl, rfl⟩, ⟨rfl, rfl⟩, trivial⟩ ⟨rfl, ⟨⟨rfl, rfl⟩, trivial⟩, ⟨⟨rfl, rfl⟩, trivial⟩, trivial⟩), he⟩
  · have he := ok_t he hb
    have he := ok_some he
    exact ⟨rfl, _, _, (leads_ren [(900, 24), (901, 25)] (l := [(4, .c (.int .i64 (3:Int))), (5, .c (.own 900 false)), (6, .c (.own 901 false))]) (st' := [(900, .sl 4 .bool ([] : List Bool) .shallow), (901, .sl 36 (.pair (.int .i64) (.pair (.int .i64) (.pair (.int .i64) (.pair (.sl (.pair (.int .i64) (.int .i64))) (.int .i64))))) ([] : List (Int × Int × Int × (List (Int × Int)) × Int)) (.deep true .no))]) rfl rfl ⟨⟨rfl, rfl⟩, ⟨rfl, rfl⟩, trivial⟩ ⟨rfl, ⟨⟨rfl, rfl⟩, trivial⟩, ⟨⟨rfl, rfl⟩, trivial⟩, trivial⟩), he⟩

noncomputable def c_spec_DrawMergeProofs : Con := fun args st => match args, st with
  | [.c (.imm (.int .u8) code)], [] => .opt ((List (List (Int × Int × Int × (List (Int × Int)) × Int))) × (List Int)) (spec_DrawMergeProofs code) (fun r => .ret (.tup [.c (.own 900 false), .c (.imm (.sl (.pair (.int .i64) (.pair (.int .i64) (.pair (.int .i64) (.pair (.sl (.pair (.int .i64) (.int .i64))) (.int .i64)))))) r.1)]) [(900, .sl 3 (.int .i64) r.2 .shallow)])
  | _, _ => .fail

noncomputable def C_spec_DrawMergeProofs : Cfg := { y := tys, n := 60, h := 0, tab := [(9, c_spec_l17Open), (10, c_spec_l11Closed), (11, c_spec_l12Draw), (12, c_spec_SplitCubes), (13, c_spec_SolveProblem), (14, c_spec_l12Under), (15, c_spec_l17Rd_pick)], cut := [11, 13], hand := [], good := [], deep := [20, 45], sched := [(12, (.first 0 (.first 1 (.first 3 (.alt 2 (.first 4 .done) .stop)))))], frz := [57] }

theorem t_spec_DrawMergeProofs : TabOk Try.prog C_spec_DrawMergeProofs := by
  refine tabOk_of ?_
  simp only [C_spec_DrawMergeProofs, List.forall_mem_cons]
  exact ⟨k_spec_l17Open, k_spec_l11Closed, k_spec_l12Draw, k_spec_SplitCubes, k_spec_SolveProblem, k_spec_l12Under, k_spec_l17Rd_pick, fun p h => by cases h⟩

theorem k_spec_DrawMergeProofs : Entry Try.prog 4 c_spec_DrawMergeProofs := by
  refine entry_by (C := C_spec_DrawMergeProofs) mixed tys_ok t_spec_DrawMergeProofs (fn := Try.f4) (c := bd Try.f4) (by kernel_rfl) (by kernel_rfl) (by kernel_rfl) (by kernel_rfl) ?_
  intro args st k he
  unfold c_spec_DrawMergeProofs at he
  split at he
  rotate_left
  · exact he.elim
  rename_i code
  have he : Ok (spec_DrawMergeProofs code) (fun r => k (.tup [.c (.own 900 false), .c (.imm (.sl (.pair (.int .i64) (.pair (.int .i64) (.pair (.int .i64) (.pair (.sl (.pair (.int .i64) (.int .i64))) (.int .i64)))))) r.1)]) [(900, .sl 3 (.int .i64) r.2 .shallow)]) := he
  refine ⟨rfl, rfl, ?_⟩
  obtain ⟨r1_, hr, he⟩ := ok_bind he
  refine ⟨r1_, hr, ?_⟩
  obtain ⟨r2_, hr, he⟩ := ok_bind he
  refine ⟨r2_, hr, ?_⟩
  obtain ⟨r3_, hr, he⟩ := ok_bind he
  refine ⟨r3_, hr, ?_⟩
  obtain ⟨r4_, hr, he⟩ := ok_bind he
  refine ⟨r4_, hr, ?_⟩
  refine seq_model mixed tys_ok t_spec_DrawMergeProofs (S := (List (List (Int × Int × Int × (List (Int × Int)) × Int)))) (I := (fun proofs1 => (envOf [(4, .c (.ptr 10001000 0)), (6, .c (.own 10001001 false)), (7, .c (.own 10001002 false))], [(10001000, .rc [.imm (.int .u8) r3_.1.1, .int .i64 r3_.1.2]), (10001001, .sl 3 (.int .i64) r3_.2 .shallow), (10001002, .sl 27 (.sl (.pair (.int .i64) (.pair (.int .i64) (.pair (.int .i64) (.pair (.sl (.pair (.int .i64) (.int .i64))) (.int .i64)))))) proofs1 (.deep true .no))]))) (B := fun s => Ok (spec_DrawMergeProofs_j1 r3_ s) (fun r => k (.tup [.c (.own 900 false), .c (.imm (.sl (.pair (.int .i64) (.pair (.int .i64) (.pair (.int .i64) (.pair (.sl (.pair (.int .i64) (.int .i64))) (.int .i64)))))) r.1)]) [(900, .sl 3 (.int .i64) r.2 .shallow)])) ?_ ?_
  · rintro proofs1 he
    refine seq_model mixed tys_ok t_spec_DrawMergeProofs (S := Unit) (I := (fun _ => (envOf [(6, .c (.own 10002000 false)), (7, .c (.own 10002001 false))], [(10002000, .sl 3 (.int .i64) r3_.2 .shallow), (10002001, .sl 27 (.sl (.pair (.int .i64) (.pair (.int .i64) (.pair (.int .i64) (.pair (.sl (.pair (.int .i64) (.int .i64))) (.int .i64)))))) proofs1 (.deep true .no))]))) (B := fun s => Ok (spec_DrawMergeProofs_j2 r3_ proofs1 s) (fun r => k (.tup [.c (.own 900 false), .c (.imm (.sl (.pair (.int .i64) (.pair (.int .i64) (.pair (.int .i64) (.pair (.sl (.pair (.int .i64) (.int .i64))) (.int .i64)))))) r.1)]) [(900, .sl 3 (.int .i64) r.2 .shallow)])) ?_ ?_
    · rintro ⟨⟩ he
      have he := ok_some he
      exact ⟨rfl, _, _, ((leads_freeze [10002001]).trans (leads_ren [(900, 10002000)] (l := [(2, .c (.own 900 false)), (3, .c (.imm (.sl (.pair (.int .i64) (.pair (.int .i64) (.pair (.int .i64) (.pair (.sl (.pair (.int .i64) (.int .i64))) (.int .i64)))))) proofs1))]) (st' := [(900, .sl 3 (.int .i64) r3_.2 .shallow)]) rfl rfl ⟨⟨rfl, rfl⟩, trivial⟩ ⟨⟨⟨rfl, rfl⟩, trivial⟩, .inr (.inr ⟨_, _, _, rfl, rfl⟩), trivial⟩)), he⟩
    · skip
      refine And.intro (fun hb => ?_) (fun hb => ?_)
      · have he := ok_t he hb
        obtain ⟨r9_, hr, he⟩ := ok_bind he
        refine ⟨r9_, hr, ?_⟩
        refine And.intro (fun hb => ?_) (fun hb => ?_)
        · have he := ok_t he hb
          refine And.intro (by kernel_rfl) ?_
          refine And.intro ?_ trivial
          have he := ok_rq he
          refine And.intro he.1 ?_
          have he := he.2
          have he := ok_some he
          exact ⟨rfl, _, _, (leads_ren [(900, 10001001)] (l := [(2, .c (.own 900 false)), (3, .c (.imm (.sl (.pair (.int .i64) (.pair (.int .i64) (.pair (.int .i64) (.pair (.sl (.pair (.int .i64) (.int .i64))) (.int .i64)))))) (proofs1.drop (1:Int).toNat)))]) (st' := [(900, .sl 3 (.int .i64) r3_.2 .shallow)]) rfl rfl ⟨⟨rfl, rfl⟩, trivial⟩ ⟨⟨⟨rfl, rfl⟩, trivial⟩, .inl rfl, trivial⟩), he⟩
        · have he := ok_f he hb
          exact ⟨(), he, (leads_ren [(10002000, 10001001), (10002001, 10001002)] (l := [(6, .c (.own 10002000 false)), (7, .c (.own 10002001 false))]) (st' := [(10002000, .sl 3 (.int .i64) r3_.2 .shallow), (10002001, .sl 27 (.sl (.pair (.int .i64) (.pair (.int .i64) (.pair (.int .i64) (.pair (.sl (.pair (.int .i64) (.int .i64))) (.int .i64)))))) proofs1 (.deep true .no))]) rfl rfl ⟨⟨rfl, rfl⟩, ⟨rfl, rfl⟩, trivial⟩ ⟨⟨⟨rfl, rfl⟩, trivial⟩, ⟨⟨rfl, rfl⟩, trivial⟩, trivial⟩)⟩
      · have he := ok_f he hb
        exact ⟨(), he, (leads_ren [(10002000, 10001001), (10002001, 10001002)] (l := [(6, .c (.own 10002000 false)), (7, .c (.own 10002001 false))]) (st' := [(10002000, .sl 3 (.int .i64) r3_.2 .shallow), (10002001, .sl 27 (.sl (.pair (.int .i64) (.pair (.int .i64) (.pair (.int .i64) (.pair (.sl (.pair (.int .i64) (.int .i64))) (.int .i64)))))) proofs1 (.deep true .no))]) rfl rfl ⟨⟨rfl, rfl⟩, ⟨rfl, rfl⟩, trivial⟩ ⟨⟨⟨rfl, rfl⟩, trivial⟩, ⟨⟨rfl, rfl⟩, trivial⟩, trivial⟩)⟩
  · skip
    refine loop_model mixed tys_ok t_spec_DrawMergeProofs (S := Int × (List (List (Int × Int × Int × (List (Int × Int)) × Int))) × (List (List Int))) (I := (fun (k_, proofs, cubes) => (envOf [(4, .c (.ptr 10000000 0)), (5, .c (.own 10000001 false)), (6, .c (.own 10000002 false)), (7, .c (.own 10000003 false)), (8, .c (.own 10000004 false)), (10, .c (.int .i64 k_))], [(10000000, .rc [.imm (.int .u8) r3_.1.1, .int .i64 r3_.1.2]), (10000001, .sl 34 (.pair (.sl (.pair (.int .i64) (.int .i64))) (.int .i64)) r2_.2 (.deep true .no)), (10000002, .sl 3 (.int .i64) r3_.2 .shallow), (10000003, .sl 27 (.sl (.pair (.int .i64) (.pair (.int .i64) (.pair (.int .i64) (.pair (.sl (.pair (.int .i64) (.int .i64))) (.int .i64)))))) proofs (.deep true .no)), (10000004, .sl 23 (.sl (.int .i64)) cubes (.deep true .no))]))) (f := spec_DrawMergeProofs_l1 r2_ r3_) (K := (fun r => k (.tup [.c (.own 900 false), .c (.imm (.sl (.pair (.int .i64) (.pair (.int .i64) (.pair (.int .i64) (.pair (.sl (.pair (.int .i64) (.int .i64))) (.int .i64)))))) r.1)]) [(900, .sl 3 (.int .i64) r.2 .shallow)])) he (leads_ren [(10000000, 16900), (10000001, 18900), (10000002, 20900), (10000003, 20), (10000004, 24900)] (l := [(4, .c (.ptr 10000000 0)), (5, .c (.own 10000001 false)), (6, .c (.own 10000002 false)), (7, .c (.own 10000003 false)), (8, .c (.own 10000004 false)), (10, .c (.int .i64 (0:Int)))]) (st' := [(10000000, .rc [.imm (.int .u8) r3_.1.1, .int .i64 r3_.1.2]), (10000001, .sl 34 (.pair (.sl (.pair (.int .i64) (.int .i64))) (.int .i64)) r2_.2 (.deep true .no)), (10000002, .sl 3 (.int .i64) r3_.2 .shallow), (10000003, .sl 27 (.sl (.pair (.int .i64) (.pair (.int .i64) (.pair (.int .i64) (.pair (.sl (.pair (.int .i64) (.int .i64))) (.int .i64)))))) ([] : List (List (Int × Int × Int × (List (Int × Int)) × Int))) (.deep true .no)), (10000004, .sl 23 (.sl (.int .i64)) r4_.2 (.deep true .no))]) rfl rfl ⟨⟨.inl rfl, rfl, trivial⟩, ⟨rfl, rfl⟩, ⟨rfl, rfl⟩, ⟨rfl, rfl⟩, ⟨rfl, rfl⟩, trivial⟩ ⟨⟨⟨rfl, rfl⟩, rfl⟩, ⟨⟨rfl, rfl⟩, trivial⟩, ⟨⟨rfl, rfl⟩, trivial⟩, ⟨⟨rfl, rfl⟩, trivial⟩, ⟨⟨rfl, rfl⟩, trivial⟩, rfl, trivial⟩) ?_
    rintro ⟨k_, proofs, cubes⟩ J1 he
    refine And.intro (fun hb => ?_) (fun hb => ?_)
    · have he := ok_t he hb
      have he := ok_rq he
      refine And.intro he.1 ?_
      have he := he.2
      obtain ⟨r7_, hr, he⟩ := ok_bind he
      refine ⟨r7_, hr, ?_⟩
      obtain ⟨r8_, hr, he⟩ := ok_bind he
      refine ⟨r8_, hr, ?_⟩
      have he := ok_rq he
      refine And.intro he.1 ?_
      have he := he.2
      have he := ok_rq he
      refine And.intro he.1 ?_
      have he := he.2
      have he := ok_some he
      exact ⟨((k_ + (1:Int)), (proofs ++ [r8_.2.2]), (cubes.set k_.toNat (cubes.getD k_.toNat []))), he, ((leads_close [10000004] rfl).trans (leads_ren [(10000003, 46)] (l := [(4, .c (.ptr 10000000 0)), (5, .c (.own 10000001 false)), (6, .c (.own 10000002 false)), (7, .c (.own 10000003 false)), (8, .c (.own 10000004 false)), (10, .c (.int .i64 (k_ + (1:Int))))]) (st' := [(10000000, .rc [.imm (.int .u8) r3_.1.1, .int .i64 r3_.1.2]), (10000001, .sl 34 (.pair (.sl (.pair (.int .i64) (.int .i64))) (.int .i64)) r2_.2 (.deep true .no)), (10000002, .sl 3 (.int .i64) r3_.2 .shallow), (10000003, .sl 27 (.sl (.pair (.int .i64) (.pair (.int .i64) (.pair (.int .i64) (.pair (.sl (.pair (.int .i64) (.int .i64))) (.int .i64)))))) (proofs ++ [r8_.2.2]) (.deep true .no)), (10000004, .sl 23 (.sl (.int .i64)) (cubes.set k_.toNat (cubes.getD k_.toNat [])) (.deep true .no))]) rfl rfl (by exact ⟨⟨.inl rfl, rfl, trivial⟩, ⟨rfl, rfl⟩, ⟨rfl, rfl⟩, ⟨rfl, rfl⟩, ⟨rfl, rfl⟩, trivial⟩) (by exact ⟨⟨⟨rfl, rfl⟩, rfl⟩, ⟨⟨rfl, rfl⟩, trivial⟩, ⟨⟨rfl, rfl⟩, trivial⟩, ⟨⟨rfl, rfl⟩, trivial⟩, ⟨⟨rfl, rfl⟩, trivial⟩, rfl, trivial⟩)))⟩
    · have he := ok_f he hb
      exact ⟨proofs, ok_up he, (leads_ren [(10001000, 10000000), (10001001, 10000002), (10001002, 10000003)] (l := [(4, .c (.ptr 10001000 0)), (6, .c (.own 10001001 false)), (7, .c (.own 10001002 false))]) (st' := [(10001000, .rc [.imm (.int .u8) r3_.1.1, .int .i64 r3_.1.2]), (10001001, .sl 3 (.int .i64) r3_.2 .shallow), (10001002, .sl 27 (.sl (.pair (.int .i64) (.pair (.int .i64) (.pair (.int .i64) (.pair (.sl (.pair (.int .i64) (.int .i64))) (.int .i64)))))) proofs (.deep true .no))]) rfl rfl ⟨⟨.inl rfl, rfl, trivial⟩, ⟨rfl, rfl⟩, ⟨rfl, rfl⟩, trivial⟩ ⟨⟨⟨rfl, rfl⟩, rfl⟩, ⟨⟨rfl, rfl⟩, trivial⟩, ⟨⟨rfl, rfl⟩, trivial⟩, trivial⟩)⟩

noncomputable def c_impl_within : Con := fun args st => match args, st with
  | [.c (.int .i64 n), .c (.int .i64 low), .c (.int .i64 high)], [] => .opt (Bool) (impl_within n low high) (fun r => .ret (.c (.bool r)) [])
  | _, _ => .fail

noncomputable def C_impl_within : Cfg := { y := tys, n := 15, h := 0, tab := [], cut := [], hand := [], good := [], deep := [], sched := [] }

theorem t_impl_within : TabOk Try.prog C_impl_within := tabOk_of (fun p h => by cases h)

theorem k_impl_within : Entry Try.prog 53 c_impl_within := by
  refine entry_by (C := C_impl_within) mixed tys_ok t_impl_within (fn := Try.f53) (c := bd Try.f53) (by kernel_rfl) (by kernel_rfl) (by kernel_rfl) (by kernel_rfl) ?_
  intro args st k he
  unfold c_impl_within at he
  split at he
  rotate_left
  · exact he.elim
  rename_i n low high
  have he : Ok (impl_within n low high) (fun r => k (.c (.bool r)) []) := he
  refine ⟨rfl, rfl, ?_⟩
  refine And.intro (fun hb => ?_) (fun hb => ?_)
  · have he := ok_t he hb
    have he := ok_some he
    exact ⟨rfl, _, _, Leads.refl _ _, he⟩
  · have he := ok_f he hb
    have he := ok_some he
    exact ⟨rfl, _, _, Leads.refl _ _, he⟩

noncomputable def c_impl_areVars : Con := fun args st => match args, st with
  | [.c (.imm (.int .i64) vars)], [] => .opt (Bool) (impl_areVars vars) (fun r => .ret (.c (.bool r)) [])
  | _, _ => .fail

noncomputable def C_impl_areVars : Cfg := { y := tys, n := 29, h := 0, tab := [(53, c_impl_within)], cut := [], hand := [], good := [], deep := [], sched := [] }

theorem t_impl_areVars : TabOk Try.prog C_impl_areVars := by
  refine tabOk_of ?_
  simp only [C_impl_areVars, List.forall_mem_cons]
  exact ⟨k_impl_within, fun p h => by cases h⟩

theorem k_impl_areVars : Entry Try.prog 33 c_impl_areVars := by
  refine entry_by (C := C_impl_areVars) mixed tys_ok t_impl_areVars (fn := Try.f33) (c := bd Try.f33) (by kernel_rfl) (by kernel_rfl) (by kernel_rfl) (by kernel_rfl) ?_
  intro args st k he
  unfold c_impl_areVars at he
  split at he
  rotate_left
  · exact he.elim
  rename_i vars
  have he : Ok (impl_areVars vars) (fun r => k (.c (.bool r)) []) := he
  refine ⟨rfl, rfl, ?_⟩
  refine loop_model mixed tys_ok t_impl_areVars (S := Int) (I := (fun i => (envOf [(0, .c (.imm (.int .i64) vars)), (5, .c (.imm (.int .i64) vars)), (6, .c (.int .i64 (vars.length:Int))), (7, .c (.int .i64 i))], []))) (f := impl_areVars_l1 vars) (K := (fun r => k (.c (.bool r)) [])) he (leads_ren [] (l := [(0, .c (.imm (.int .i64) vars)), (5, .c (.imm (.int .i64) vars)), (6, .c (.int .i64 (vars.length:Int))), (7, .c (.int .i64 (0:Int)))]) (st' := []) rfl rfl trivial ⟨.inl rfl, .inl rfl, rfl, rfl, trivial⟩) ?_
  rintro i J1 he
  refine And.intro (fun hb => ?_) (fun hb => ?_)
  · have he := ok_t he hb
    have he := ok_rq he
    refine And.intro he.1 ?_
    have he := he.2
    obtain ⟨r1_, hr, he⟩ := ok_bind he
    refine ⟨r1_, hr, ?_⟩
    refine And.intro (fun hb => ?_) (fun hb => ?_)
    · have he := ok_f he hb
      refine And.intro (fun hb => ?_) (fun hb => ?_)
      · have he := ok_t he hb
        have he := ok_rq he
        refine And.intro he.1 ?_
        have he := he.2
        have he := ok_rq he
        refine And.intro he.1 ?_
        have he := he.2
        refine And.intro (fun hb => ?_) (fun hb => ?_)
        · have he := ok_t he hb
          have he := ok_some he
          exact ⟨rfl, _, _, Leads.refl _ _, he⟩
        · have he := ok_f he hb
          have he := ok_rq he
          refine And.intro he.1 ?_
          have he := he.2
          have he := ok_some he
          exact ⟨(i + (1:Int)), he, (leads_ren [] (l := [(0, .c (.imm (.int .i64) vars)), (5, .c (.imm (.int .i64) vars)), (6, .c (.int .i64 (vars.length:Int))), (7, .c (.int .i64 (i + (1:Int))))]) (st' := []) rfl rfl trivial ⟨.inl rfl, .inl rfl, rfl, rfl, trivial⟩)⟩
      · have he := ok_f he hb
        have he := ok_rq he
        refine And.intro he.1 ?_
        have he := he.2
        have he := ok_some he
        exact ⟨(i + (1:Int)), he, (leads_ren [] (l := [(0, .c (.imm (.int .i64) vars)), (5, .c (.imm (.int .i64) vars)), (6, .c (.int .i64 (vars.length:Int))), (7, .c (.int .i64 (i + (1:Int))))]) (st' := []) rfl rfl trivial ⟨.inl rfl, .inl rfl, rfl, rfl, trivial⟩)⟩
    · have he := ok_t he hb
      have he := ok_some he
      exact ⟨rfl, _, _, Leads.refl _ _, he⟩
  · have he := ok_f he hb
    have he := ok_some he
    exact ⟨rfl, _, _, Leads.refl _ _, he⟩

noncomputable def c_slices_Clone_int : Con := fun args st => match args, st with
  | [.c (.imm (.int .i64) s_)], [] => .opt ((List Int)) (slices_Clone_int s_) (fun r => .ret (.c (.own 900 false)) [(900, .sl 3 (.int .i64) r .shallow)])
  | _, _ => .fail

noncomputable def C_slices_Clone_int : Cfg := { y := tys, n := 8, h := 0, tab := [], cut := [], hand := [], good := [], deep := [], sched := [] }

theorem t_slices_Clone_int : TabOk Try.prog C_slices_Clone_int := tabOk_of (fun p h => by cases h)

theorem k_slices_Clone_int : Entry Try.prog 36 c_slices_Clone_int := by
  refine entry_by (C := C_slices_Clone_int) mixed tys_ok t_slices_Clone_int (fn := Try.f36) (c := bd Try.f36) (by kernel_rfl) (by kernel_rfl) (by kernel_rfl) (by kernel_rfl) ?_
  intro args st k he
  unfold c_slices_Clone_int at he
  split at he
  rotate_left
  · exact he.elim
  rename_i s_
  have he : Ok (slices_Clone_int s_) (fun r => k (.c (.own 900 false)) [(900, .sl 3 (.int .i64) r .shallow)]) := he
  refine ⟨rfl, rfl, ?_⟩
  refine fun b1_ hb1_ => ?_
  have he := ok_nt he hb1_
  refine And.intro (fun hb => ?_) (fun hb => ?_)
  · have he := ok_t he hb
    have he := ok_some he
    exact ⟨rfl, _, _, (leads_ren [] (l := [(2, .c (.own 900 false))]) (st' := [(900, .sl 3 (.int .i64) ([] : List Int) .shallow)]) rfl rfl ⟨trivial, trivial⟩ ⟨⟨rfl, trivial⟩, trivial⟩), he⟩
  · have he := ok_f he hb
    have he := ok_rq he
    refine And.intro he.1 ?_
    have he := he.2
    have he := ok_some he
    exact ⟨rfl, _, _, (leads_ren [(900, 7)] (l := [(2, .c (.own 900 false))]) (st' := [(900, .sl 3 (.int .i64) (([] : List Int) ++ s_) .shallow)]) rfl rfl ⟨⟨rfl, rfl⟩, trivial⟩ ⟨⟨⟨rfl, rfl⟩, trivial⟩, trivial⟩), he⟩

noncomputable def c_impl_cubesOf : Con := fun args st => match args, st with
  | [.c (.imm (.int .i64) vars)], [] => .opt ((List (List Int))) (impl_cubesOf vars) (fun r => .ret (.c (.own 900 false)) [(900, .sl 23 (.sl (.int .i64)) r (.deep true .no))])
  | _, _ => .fail

noncomputable def C_impl_cubesOf : Cfg := { y := tys, n := 40, h := 0, tab := [(36, c_slices_Clone_int)], cut := [], hand := [], good := [], deep := [9, 34], sched := [] }

theorem t_impl_cubesOf : TabOk Try.prog C_impl_cubesOf := by
  refine tabOk_of ?_
  simp only [C_impl_cubesOf, List.forall_mem_cons]
  exact ⟨k_slices_Clone_int, fun p h => by cases h⟩

theorem k_impl_cubesOf : Entry Try.prog 18 c_impl_cubesOf := by
  refine entry_by (C := C_impl_cubesOf) mixed tys_ok t_impl_cubesOf (fn := Try.f18) (c := bd Try.f18) (by kernel_rfl) (by kernel_rfl) (by kernel_rfl) (by kernel_rfl) ?_
  intro args st k he
  unfold c_impl_cubesOf at he
  split at he
  rotate_left
  · exact he.elim
  rename_i vars
  have he : Ok (impl_cubesOf vars) (fun r => k (.c (.own 900 false)) [(900, .sl 23 (.sl (.int .i64)) r (.deep true .no))]) := he
  refine ⟨rfl, rfl, ?_⟩
  refine loop_model mixed tys_ok t_impl_cubesOf (S := Int × (List (List Int))) (I := (fun (i, out) => (envOf [(3, .c (.own 10000000 false)), (10, .c (.imm (.int .i64) vars)), (11, .c (.int .i64 (vars.length:Int))), (12, .c (.int .i64 i))], [(10000000, .sl 23 (.sl (.int .i64)) out (.deep true .no))]))) (f := impl_cubesOf_l1 vars) (K := (fun r => k (.c (.own 900 false)) [(900, .sl 23 (.sl (.int .i64)) r (.deep true .no))])) he (leads_ren [(10000000, 9)] (l := [(3, .c (.own 10000000 false)), (10, .c (.imm (.int .i64) vars)), (11, .c (.int .i64 (vars.length:Int))), (12, .c (.int .i64 (0:Int)))]) (st' := [(10000000, .sl 23 (.sl (.int .i64)) [([] : List Int)] (.deep true .no))]) rfl rfl ⟨⟨rfl, rfl⟩, trivial⟩ ⟨⟨⟨rfl, rfl⟩, trivial⟩, .inl rfl, rfl, rfl, trivial⟩) ?_
  rintro ⟨i, out⟩ J1 he
  refine And.intro (fun hb => ?_) (fun hb => ?_)
  · have he := ok_t he hb
    have he := ok_rq he
    refine And.intro he.1 ?_
    have he := he.2
    refine loop_model mixed tys_ok t_impl_cubesOf (S := Int × (List (List Int)) × (List (List Int))) (I := (fun (i3, next1, i4) => (envOf [(5, .c (.int .i64 (vars.getD i.toNat 0))), (6, .c (.own 10002000 false)), (10, .c (.imm (.int .i64) vars)), (11, .c (.int .i64 (vars.length:Int))), (12, .c (.int .i64 i)), (16, .c (.own 10002001 false)), (17, .c (.int .i64 (out.length:Int))), (18, .c (.int .i64 i3))], [(10002000, .sl 23 (.sl (.int .i64)) next1 (.deep true .no)), (10002001, .sl 23 (.sl (.int .i64)) i4 (.deep true .no))]))) (f := impl_cubesOf_l2 vars i out) (K := (LK J1 (fun r => k (.c (.own 900 false)) [(900, .sl 23 (.sl (.int .i64)) r (.deep true .no))]))) he (leads_ren [(10002001, 10000000)] (l := [(5, .c (.int .i64 (vars.getD i.toNat 0))), (6, .c (.own 10002000 false)), (10, .c (.imm (.int .i64) vars)), (11, .c (.int .i64 (vars.length:Int))), (12, .c (.int .i64 i)), (16, .c (.own 10002001 false)), (17, .c (.int .i64 (out.length:Int))), (18, .c (.int .i64 (0:Int)))]) (st' := [(10002000, .sl 23 (.sl (.int .i64)) ([] : List (List Int)) (.deep true .no)), (10002001, .sl 23 (.sl (.int .i64)) out (.deep true .no))]) rfl rfl ⟨trivial, ⟨rfl, rfl⟩, trivial⟩ ⟨rfl, ⟨rfl, trivial⟩, .inl rfl, rfl, rfl, ⟨⟨rfl, rfl⟩, trivial⟩, rfl, rfl, trivial⟩) ?_
    rintro ⟨i3, next1, i4⟩ J2 he
    refine And.intro (fun hb => ?_) (fun hb => ?_)
    · have he := ok_t he hb
      have he := ok_rq he
      refine And.intro he.1 ?_
      have he := he.2
      obtain ⟨r7_, hr, he⟩ := ok_bind he
      refine ⟨r7_, hr, ?_⟩
      have he := ok_rq he
      refine And.intro he.1 ?_
      have he := he.2
      obtain ⟨r8_, hr, he⟩ := ok_bind he
      refine ⟨r8_, hr, ?_⟩
      have he := ok_rq he
      refine And.intro he.1 ?_
      have he := he.2
      have he := ok_rq he
      refine And.intro he.1 ?_
      have he := he.2
      have he := ok_rq he
      refine And.intro he.1 ?_
      have he := he.2
      have he := ok_rq he
      refine And.intro he.1 ?_
      have he := he.2
      have he := ok_some he
      exact ⟨((i3 + (1:Int)), (next1 ++ [(r7_ ++ [(vars.getD i.toNat 0)]), (r8_ ++ [(0 - (vars.getD i.toNat 0))])]), (i4.set i3.toNat (i4.getD i3.toNat []))), he, ((leads_close [10002001] rfl).trans (leads_ren [(10002000, 35)] (l := [(5, .c (.int .i64 (vars.getD i.toNat 0))), (6, .c (.own 10002000 false)), (10, .c (.imm (.int .i64) vars)), (11, .c (.int .i64 (vars.length:Int))), (12, .c (.int .i64 i)), (16, .c (.own 10002001 false)), (17, .c (.int .i64 (out.length:Int))), (18, .c (.int .i64 (i3 + (1:Int))))]) (st' := [(10002000, .sl 23 (.sl (.int .i64)) (next1 ++ [(r7_ ++ [(vars.getD i.toNat 0)]), (r8_ ++ [(0 - (vars.getD i.toNat 0))])]) (.deep true .no)), (10002001, .sl 23 (.sl (.int .i64)) (i4.set i3.toNat (i4.getD i3.toNat [])) (.deep true .no))]) rfl rfl (by exact ⟨⟨rfl, rfl⟩, ⟨rfl, rfl⟩, trivial⟩) (by exact ⟨rfl, ⟨⟨rfl, rfl⟩, trivial⟩, .inl rfl, rfl, rfl, ⟨⟨rfl, rfl⟩, trivial⟩, rfl, rfl, trivial⟩)))⟩
    · have he := ok_f he hb
      have he := ok_rq he
      refine And.intro he.1 ?_
      have he := he.2
      have he := ok_some he
      exact ⟨((i + (1:Int)), next1), he, (leads_ren [(10000000, 10002000)] (l := [(3, .c (.own 10000000 false)), (10, .c (.imm (.int .i64) vars)), (11, .c (.int .i64 (vars.length:Int))), (12, .c (.int .i64 (i + (1:Int))))]) (st' := [(10000000, .sl 23 (.sl (.int .i64)) next1 (.deep true .no))]) rfl rfl ⟨⟨rfl, rfl⟩, trivial⟩ ⟨⟨⟨rfl, rfl⟩, trivial⟩, .inl rfl, rfl, rfl, trivial⟩)⟩
  · have he := ok_f he hb
    have he := ok_some he
    exact ⟨rfl, _, _, (leads_ren [(900, 10000000)] (l := [(2, .c (.own 900 false))]) (st' := [(900, .sl 23 (.sl (.int .i64)) out (.deep true .no))]) rfl rfl ⟨⟨rfl, rfl⟩, trivial⟩ ⟨⟨⟨rfl, rfl⟩, trivial⟩, trivial⟩), he⟩

noncomputable def c_impl_SplitCubes : Con := fun args st => match args, st with
  | [.c (.imm (.int .i64) vars)], [] => .opt (Bool × (List (List Int))) (impl_SplitCubes vars) (fun r => .ret (.tup [.c (.own 900 false), .c (.bool r.1)]) [(900, .sl 23 (.sl (.int .i64)) r.2 (.deep true .no))])
  | _, _ => .fail

noncomputable def C_impl_SplitCubes : Cfg := { y := tys, n := 14, h := 0, tab := [(18, c_impl_cubesOf), (33, c_impl_areVars)], cut := [], hand := [], good := [], deep := [], sched := [] }

theorem t_impl_SplitCubes : TabOk Try.prog C_impl_SplitCubes := by
  refine tabOk_of ?_
  simp only [C_impl_SplitCubes, List.forall_mem_cons]
  exact ⟨k_impl_cubesOf, k_impl_areVars, fun p h => by cases h⟩

theorem k_impl_SplitCubes : Entry Try.prog 16 c_impl_SplitCubes := by
  refine entry_by (C := C_impl_SplitCubes) mixed tys_ok t_impl_SplitCubes (fn := Try.f16) (c := bd Try.f16) (by kernel_rfl) (by kernel_rfl) (by kernel_rfl) (by kernel_rfl) ?_
  intro args st k he
  unfold c_impl_SplitCubes at he
  split at he
  rotate_left
  · exact he.elim
  rename_i vars
  have he : Ok (impl_SplitCubes vars) (fun r => k (.tup [.c (.own 900 false), .c (.bool r.1)]) [(900, .sl 23 (.sl (.int .i64)) r.2 (.deep true .no))]) := he
  refine ⟨rfl, rfl, ?_⟩
  obtain ⟨r1_, hr, he⟩ := ok_bind he
  refine ⟨r1_, hr, ?_⟩
  refine And.intro (fun hb => ?_) (fun hb => ?_)
  · have he := ok_f he hb
    refine And.intro (fun hb => ?_) (fun hb => ?_)
    · have he := ok_t he hb
      have he := ok_some he
      exact ⟨rfl, _, _, (leads_ren [] (l := [(2, .c (.own 900 false)), (3, .c (.bool false))]) (st' := [(900, .sl 23 (.sl (.int .i64)) ([] : List (List Int)) (.deep true .no))]) rfl rfl ⟨trivial, trivial⟩ ⟨⟨rfl, trivial⟩, .inr rfl, trivial⟩), he⟩
    · have he := ok_f he hb
      obtain ⟨r2_, hr, he⟩ := ok_bind he
      refine ⟨r2_, hr, ?_⟩
      have he := ok_some he
      exact ⟨rfl, _, _, (leads_ren [(900, 14900)] (l := [(2, .c (.own 900 false)), (3, .c (.bool true))]) (st' := [(900, .sl 23 (.sl (.int .i64)) r2_ (.deep true .no))]) rfl rfl ⟨⟨rfl, rfl⟩, trivial⟩ ⟨⟨⟨rfl, rfl⟩, trivial⟩, .inr rfl, trivial⟩), he⟩
  · have he := ok_t he hb
    have he := ok_some he
    exact ⟨rfl, _, _, (leads_ren [] (l := [(2, .c (.own 900 false)), (3, .c (.bool false))]) (st' := [(900, .sl 23 (.sl (.int .i64)) ([] : List (List Int)) (.deep true .no))]) rfl rfl ⟨trivial, trivial⟩ ⟨⟨rfl, trivial⟩, .inr rfl, trivial⟩), he⟩

noncomputable def c_impl_isLiteral : Con := fun args st => match args, st with
  | [.c (.int .i64 l)], [] => .opt (Bool) (impl_isLiteral l) (fun r => .ret (.c (.bool r)) [])
  | _, _ => .fail

noncomputable def C_impl_isLiteral : Cfg := { y := tys, n := 9, h := 0, tab := [(53, c_impl_within)], cut := [], hand := [], good := [], deep := [], sched := [] }

theorem t_impl_isLiteral : TabOk Try.prog C_impl_isLiteral := by
  refine tabOk_of ?_
  simp only [C_impl_isLiteral, List.forall_mem_cons]
  exact ⟨k_impl_within, fun p h => by cases h⟩

theorem k_impl_isLiteral : Entry Try.prog 37 c_impl_isLiteral := by
  refine entry_by (C := C_impl_isLiteral) mixed tys_ok t_impl_isLiteral (fn := Try.f37) (c := bd Try.f37) (by kernel_rfl) (by kernel_rfl) (by kernel_rfl) (by kernel_rfl) ?_
  intro args st k he
  unfold c_impl_isLiteral at he
  split at he
  rotate_left
  · exact he.elim
  rename_i l
  have he : Ok (impl_isLiteral l) (fun r => k (.c (.bool r)) []) := he
  refine ⟨rfl, rfl, ?_⟩
  refine And.intro (fun hb => ?_) (fun hb => ?_)
  · have he := ok_t he hb
    obtain ⟨r1_, hr, he⟩ := ok_bind he
    refine ⟨r1_, hr, ?_⟩
    have he := ok_some he
    exact ⟨rfl, _, _, Leads.refl _ _, he⟩
  · have he := ok_f he hb
    have he := ok_some he
    exact ⟨rfl, _, _, Leads.refl _ _, he⟩

noncomputable def c_impl_variableOf : Con := fun args st => match args, st with
  | [.c (.int .i64 l)], [] => .opt (Int) (impl_variableOf l) (fun r => .ret (.c (.int .i64 r)) [])
  | _, _ => .fail

noncomputable def C_impl_variableOf : Cfg := { y := tys, n := 7, h := 0, tab := [], cut := [], hand := [], good := [], deep := [], sched := [] }

theorem t_impl_variableOf : TabOk Try.prog C_impl_variableOf := tabOk_of (fun p h => by cases h)

theorem k_impl_variableOf : Entry Try.prog 41 c_impl_variableOf := by
  refine entry_by (C := C_impl_variableOf) mixed tys_ok t_impl_variableOf (fn := Try.f41) (c := bd Try.f41) (by kernel_rfl) (by kernel_rfl) (by kernel_rfl) (by kernel_rfl) ?_
  intro args st k he
  unfold c_impl_variableOf at he
  split at he
  rotate_left
  · exact he.elim
  rename_i l
  have he : Ok (impl_variableOf l) (fun r => k (.c (.int .i64 r)) []) := he
  refine ⟨rfl, rfl, ?_⟩
  have he := ok_rq he
  refine And.intro he.1 ?_
  have he := he.2
  have he := ok_some he
  exact ⟨rfl, _, _, Leads.refl _ _, he⟩

noncomputable def c_impl_ConstraintValid : Con := fun args st => match args, st with
  | [.agg [.imm (.pair (.int .i64) (.int .i64)) c__0, .int .i64 c__1]], [] => .opt (Bool) (impl_ConstraintValid (c__0, c__1)) (fun r => .ret (.c (.bool r)) [])
  | _, _ => .fail

noncomputable def C_impl_ConstraintValid : Cfg := { y := tys, n := 37, h := 0, tab := [(37, c_impl_isLiteral), (41, c_impl_variableOf), (53, c_impl_within)], cut := [], hand := [], good := [], deep := [], sched := [] }

theorem t_impl_ConstraintValid : TabOk Try.prog C_impl_ConstraintValid := by
  refine tabOk_of ?_
  simp only [C_impl_ConstraintValid, List.forall_mem_cons]
  exact ⟨k_impl_isLiteral, k_impl_variableOf, k_impl_within, fun p h => by cases h⟩

theorem k_impl_ConstraintValid : Entry Try.prog 34 c_impl_ConstraintValid := by
  refine entry_by (C := C_impl_ConstraintValid) mixed tys_ok t_impl_ConstraintValid (fn := Try.f34) (c := bd Try.f34) (by kernel_rfl) (by kernel_rfl) (by kernel_rfl) (by kernel_rfl) ?_
  intro args st k he
  unfold c_impl_ConstraintValid at he
  split at he
  rotate_left
  · exact he.elim
  rename_i c__0 c__1
  have he : Ok (impl_ConstraintValid (c__0, c__1)) (fun r => k (.c (.bool r)) []) := he
  refine ⟨rfl, rfl, ?_⟩
  refine loop_model mixed tys_ok t_impl_ConstraintValid (S := Int × Int) (I := (fun (before, i) => (envOf [(1, .c (.ptr 10000000 0)), (3, .c (.int .i64 before)), (7, .c (.imm (.pair (.int .i64) (.int .i64)) (c__0, c__1).1)), (8, .c (.int .i64 ((c__0, c__1).1.length:Int))), (9, .c (.int .i64 i))], [(10000000, .rc [.imm (.pair (.int .i64) (.int .i64)) (c__0, c__1).1, .int .i64 (c__0, c__1).2])]))) (f := impl_ConstraintValid_l1 (c__0, c__1)) (K := (fun r => k (.c (.bool r)) [])) he (leads_ren [(10000000, 1)] (l := [(1, .c (.ptr 10000000 0)), (3, .c (.int .i64 (0:Int))), (7, .c (.imm (.pair (.int .i64) (.int .i64)) (c__0, c__1).1)), (8, .c (.int .i64 ((c__0, c__1).1.length:Int))), (9, .c (.int .i64 (0:Int)))]) (st' := [(10000000, .rc [.imm (.pair (.int .i64) (.int .i64)) (c__0, c__1).1, .int .i64 (c__0, c__1).2])]) rfl rfl ⟨⟨.inl rfl, rfl, trivial⟩, trivial⟩ ⟨⟨⟨rfl, rfl⟩, rfl⟩, rfl, .inl rfl, rfl, rfl, trivial⟩) ?_
  rintro ⟨before, i⟩ J1 he
  refine And.intro (fun hb => ?_) (fun hb => ?_)
  · have he := ok_t he hb
    have he := ok_rq he
    refine And.intro he.1 ?_
    have he := he.2
    obtain ⟨r1_, hr, he⟩ := ok_bind he
    refine ⟨r1_, hr, ?_⟩
    refine And.intro (fun hb => ?_) (fun hb => ?_)
    · have he := ok_f he hb
      obtain ⟨r2_, hr, he⟩ := ok_bind he
      refine ⟨r2_, hr, ?_⟩
      refine And.intro (fun hb => ?_) (fun hb => ?_)
      · have he := ok_f he hb
        obtain ⟨r3_, hr, he⟩ := ok_bind he
        refine ⟨r3_, hr, ?_⟩
        refine And.intro (fun hb => ?_) (fun hb => ?_)
        · have he := ok_t he hb
          have he := ok_some he
          exact ⟨rfl, _, _, (leads_ren [] (l := [(2, .c (.bool false))]) (st' := []) rfl rfl trivial ⟨.inr rfl, trivial⟩), he⟩
        · have he := ok_f he hb
          obtain ⟨r4_, hr, he⟩ := ok_bind he
          refine ⟨r4_, hr, ?_⟩
          have he := ok_rq he
          refine And.intro he.1 ?_
          have he := he.2
          have he := ok_some he
          exact ⟨(r4_, (i + (1:Int))), he, (leads_ren [] (l := [(1, .c (.ptr 10000000 0)), (3, .c (.int .i64 r4_)), (7, .c (.imm (.pair (.int .i64) (.int .i64)) (c__0, c__1).1)), (8, .c (.int .i64 ((c__0, c__1).1.length:Int))), (9, .c (.int .i64 (i + (1:Int))))]) (st' := [(10000000, .rc [.imm (.pair (.int .i64) (.int .i64)) (c__0, c__1).1, .int .i64 (c__0, c__1).2])]) rfl rfl ⟨⟨.inl rfl, rfl, trivial⟩, trivial⟩ ⟨⟨⟨rfl, rfl⟩, rfl⟩, rfl, .inl rfl, rfl, rfl, trivial⟩)⟩
      · have he := ok_t he hb
        have he := ok_some he
        exact ⟨rfl, _, _, (leads_ren [] (l := [(2, .c (.bool false))]) (st' := []) rfl rfl trivial ⟨.inr rfl, trivial⟩), he⟩
    · have he := ok_t he hb
      have he := ok_some he
      exact ⟨rfl, _, _, (leads_ren [] (l := [(2, .c (.bool false))]) (st' := []) rfl rfl trivial ⟨.inr rfl, trivial⟩), he⟩
  · have he := ok_f he hb
    obtain ⟨r5_, hr, he⟩ := ok_bind he
    refine ⟨r5_, hr, ?_⟩
    have he := ok_some he
    exact ⟨rfl, _, _, (leads_ren [] (l := [(2, .c (.bool r5_))]) (st' := []) rfl rfl trivial ⟨.inl rfl, trivial⟩), he⟩

noncomputable def c_impl_isCube : Con := fun args st => match args, st with
  | [.c (.imm (.int .i64) cube)], [] => .opt (Bool) (impl_isCube cube) (fun r => .ret (.c (.bool r)) [])
  | _, _ => .fail

noncomputable def C_impl_isCube : Cfg := { y := tys, n := 34, h := 0, tab := [(37, c_impl_isLiteral), (41, c_impl_variableOf)], cut := [], hand := [], good := [], deep := [], sched := [] }

theorem t_impl_isCube : TabOk Try.prog C_impl_isCube := by
  refine tabOk_of ?_
  simp only [C_impl_isCube, List.forall_mem_cons]
  exact ⟨k_impl_isLiteral, k_impl_variableOf, fun p h => by cases h⟩

theorem k_impl_isCube : Entry Try.prog 35 c_impl_isCube := by
  refine entry_by (C := C_impl_isCube) mixed tys_ok t_impl_isCube (fn := Try.f35) (c := bd Try.f35) (by kernel_rfl) (by kernel_rfl) (by kernel_rfl) (by kernel_rfl) ?_
  intro args st k he
  unfold c_impl_isCube at he
  split at he
  rotate_left
  · exact he.elim
  rename_i cube
  have he : Ok (impl_isCube cube) (fun r => k (.c (.bool r)) []) := he
  refine ⟨rfl, rfl, ?_⟩
  refine loop_model mixed tys_ok t_impl_isCube (S := Int) (I := (fun i => (envOf [(0, .c (.imm (.int .i64) cube)), (5, .c (.imm (.int .i64) cube)), (6, .c (.int .i64 (cube.length:Int))), (7, .c (.int .i64 i))], []))) (f := impl_isCube_l1 cube) (K := (fun r => k (.c (.bool r)) [])) he (leads_ren [] (l := [(0, .c (.imm (.int .i64) cube)), (5, .c (.imm (.int .i64) cube)), (6, .c (.int .i64 (cube.length:Int))), (7, .c (.int .i64 (0:Int)))]) (st' := []) rfl rfl trivial ⟨.inl rfl, .inl rfl, rfl, rfl, trivial⟩) ?_
  rintro i J1 he
  refine And.intro (fun hb => ?_) (fun hb => ?_)
  · have he := ok_t he hb
    have he := ok_rq he
    refine And.intro he.1 ?_
    have he := he.2
    obtain ⟨r1_, hr, he⟩ := ok_bind he
    refine ⟨r1_, hr, ?_⟩
    refine And.intro (fun hb => ?_) (fun hb => ?_)
    · have he := ok_f he hb
      refine And.intro (fun hb => ?_) (fun hb => ?_)
      · have he := ok_t he hb
        have he := ok_rq he
        refine And.intro he.1 ?_
        have he := he.2
        have he := ok_rq he
        refine And.intro he.1 ?_
        have he := he.2
        obtain ⟨r2_, hr, he⟩ := ok_bind he
        refine ⟨r2_, hr, ?_⟩
        obtain ⟨r3_, hr, he⟩ := ok_bind he
        refine ⟨r3_, hr, ?_⟩
        refine And.intro (fun hb => ?_) (fun hb => ?_)
        · have he := ok_t he hb
          have he := ok_some he
          exact ⟨rfl, _, _, Leads.refl _ _, he⟩
        · have he := ok_f he hb
          have he := ok_rq he
          refine And.intro he.1 ?_
          have he := he.2
          have he := ok_some he
          exact ⟨(i + (1:Int)), he, (leads_ren [] (l := [(0, .c (.imm (.int .i64) cube)), (5, .c (.imm (.int .i64) cube)), (6, .c (.int .i64 (cube.length:Int))), (7, .c (.int .i64 (i + (1:Int))))]) (st' := []) rfl rfl trivial ⟨.inl rfl, .inl rfl, rfl, rfl, trivial⟩)⟩
      · have he := ok_f he hb
        have he := ok_rq he
        refine And.intro he.1 ?_
        have he := he.2
        have he := ok_some he
        exact ⟨(i + (1:Int)), he, (leads_ren [] (l := [(0, .c (.imm (.int .i64) cube)), (5, .c (.imm (.int .i64) cube)), (6, .c (.int .i64 (cube.length:Int))), (7, .c (.int .i64 (i + (1:Int))))]) (st' := []) rfl rfl trivial ⟨.inl rfl, .inl rfl, rfl, rfl, trivial⟩)⟩
    · have he := ok_t he hb
      have he := ok_some he
      exact ⟨rfl, _, _, Leads.refl _ _, he⟩
  · have he := ok_f he hb
    have he := ok_some he
    exact ⟨rfl, _, _, Leads.refl _ _, he⟩

noncomputable def c_impl_negations : Con := fun args st => match args, st with
  | [.c (.imm (.int .i64) lits)], [] => .opt ((List Int)) (impl_negations lits) (fun r => .ret (.c (.own 900 false)) [(900, .sl 3 (.int .i64) r .shallow)])
  | _, _ => .fail

noncomputable def C_impl_negations : Cfg := { y := tys, n := 19, h := 0, tab := [], cut := [], hand := [], good := [], deep := [], sched := [] }

theorem t_impl_negations : TabOk Try.prog C_impl_negations := tabOk_of (fun p h => by cases h)

theorem k_impl_negations : Entry Try.prog 20 c_impl_negations := by
  refine entry_by (C := C_impl_negations) mixed tys_ok t_impl_negations (fn := Try.f20) (c := bd Try.f20) (by kernel_rfl) (by kernel_rfl) (by kernel_rfl) (by kernel_rfl) ?_
  intro args st k he
  unfold c_impl_negations at he
  split at he
  rotate_left
  · exact he.elim
  rename_i lits
  have he : Ok (impl_negations lits) (fun r => k (.c (.own 900 false)) [(900, .sl 3 (.int .i64) r .shallow)]) := he
  refine ⟨rfl, rfl, ?_⟩
  refine loop_model mixed tys_ok t_impl_negations (S := Int × (List Int)) (I := (fun (i, out) => (envOf [(3, .c (.own 10000000 false)), (6, .c (.imm (.int .i64) lits)), (7, .c (.int .i64 (lits.length:Int))), (8, .c (.int .i64 i))], [(10000000, .sl 3 (.int .i64) out .shallow)]))) (f := impl_negations_l1 lits) (K := (fun r => k (.c (.own 900 false)) [(900, .sl 3 (.int .i64) r .shallow)])) he (leads_ren [] (l := [(3, .c (.own 10000000 false)), (6, .c (.imm (.int .i64) lits)), (7, .c (.int .i64 (lits.length:Int))), (8, .c (.int .i64 (0:Int)))]) (st' := [(10000000, .sl 3 (.int .i64) ([] : List Int) .shallow)]) rfl rfl ⟨trivial, trivial⟩ ⟨⟨rfl, trivial⟩, .inl rfl, rfl, rfl, trivial⟩) ?_
  rintro ⟨i, out⟩ J1 he
  refine And.intro (fun hb => ?_) (fun hb => ?_)
  · have he := ok_t he hb
    have he := ok_rq he
    refine And.intro he.1 ?_
    have he := he.2
    have he := ok_rq he
    refine And.intro he.1 ?_
    have he := he.2
    have he := ok_rq he
    refine And.intro he.1 ?_
    have he := he.2
    have he := ok_rq he
    refine And.intro he.1 ?_
    have he := he.2
    have he := ok_some he
    exact ⟨((i + (1:Int)), (out ++ [(0 - (lits.getD i.toNat 0))])), he, (leads_ren [(10000000, 16)] (l := [(3, .c (.own 10000000 false)), (6, .c (.imm (.int .i64) lits)), (7, .c (.int .i64 (lits.length:Int))), (8, .c (.int .i64 (i + (1:Int))))]) (st' := [(10000000, .sl 3 (.int .i64) (out ++ [(0 - (lits.getD i.toNat 0))]) .shallow)]) rfl rfl ⟨⟨rfl, rfl⟩, trivial⟩ ⟨⟨⟨rfl, rfl⟩, trivial⟩, .inl rfl, rfl, rfl, trivial⟩)⟩
  · have he := ok_f he hb
    have he := ok_some he
    exact ⟨rfl, _, _, (leads_ren [(900, 10000000)] (l := [(2, .c (.own 900 false))]) (st' := [(900, .sl 3 (.int .i64) out .shallow)]) rfl rfl ⟨⟨rfl, rfl⟩, trivial⟩ ⟨⟨⟨rfl, rfl⟩, trivial⟩, trivial⟩), he⟩

end Go.AE.Y
