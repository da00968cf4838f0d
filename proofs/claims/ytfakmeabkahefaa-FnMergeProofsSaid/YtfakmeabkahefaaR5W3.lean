/-
  Walks: each function keeps the contract that its model gives. No conditions.
-/
import Derived.Test.YtfakmeabkahefaaR5Tab
import Derived.Test.YtfakmeabkahefaaR5W2
import Derived.Test.YtfakmeabkahefaaR5S
namespace Go.AE.Y
open Go Go.AE Go.Proofs
set_option linter.unusedVariables false
set_option maxHeartbeats 2000000
set_option maxRecDepth 100000

noncomputable def c_slices_Index_int : Con := fun args st => match args, st with
  | [.c (.imm (.int .i64) s_), .c (.int .i64 v)], [] => .opt (Int) (slices_Index_int s_ v) (fun r => .ret (.c (.int .i64 r)) [])
  | _, _ => .fail

noncomputable def C_slices_Index_int : Cfg := { y := tys, n := 19, h := 0, tab := [], cut := [], hand := [], good := [], deep := [], sched := [] }

theorem t_slices_Index_int : TabOk Try.prog C_slices_Index_int := tabOk_of (fun p h => by cases h)

theorem k_slices_Index_int : Entry Try.prog 54 c_slices_Index_int := by
  refine entry_by (C := C_slices_Index_int) mixed tys_ok t_slices_Index_int (fn := Try.f54) (c := bd Try.f54) (by kernel_rfl) (by kernel_rfl) (by kernel_rfl) (by kernel_rfl) ?_
  intro args st k he
  unfold c_slices_Index_int at he
  split at he
  rotate_left
  · exact he.elim
  rename_i s_ v
  have he : Ok (slices_Index_int s_ v) (fun r => k (.c (.int .i64 r)) []) := he
  refine ⟨rfl, rfl, ?_⟩
  refine loop_model mixed tys_ok t_slices_Index_int (S := Int) (I := (fun i => (envOf [(0, .c (.imm (.int .i64) s_)), (1, .c (.int .i64 v)), (7, .c (.int .i64 (s_.length:Int))), (8, .c (.int .i64 i))], []))) (f := slices_Index_int_l1 s_ v) (K := (fun r => k (.c (.int .i64 r)) [])) he (leads_ren [] (l := [(0, .c (.imm (.int .i64) s_)), (1, .c (.int .i64 v)), (7, .c (.int .i64 (s_.length:Int))), (8, .c (.int .i64 (0:Int)))]) (st' := []) rfl rfl trivial ⟨.inl rfl, rfl, rfl, rfl, trivial⟩) ?_
  rintro i J1 he
  refine And.intro (fun hb => ?_) (fun hb => ?_)
  · have he := ok_t he hb
    have he := ok_rq he
    refine And.intro he.1 ?_
    have he := he.2
    refine And.intro (fun hb => ?_) (fun hb => ?_)
    · have he := ok_t he hb
      have he := ok_some he
      exact ⟨rfl, _, _, Leads.refl _ _, he⟩
    · have he := ok_f he hb
      have he := ok_rq he
      refine And.intro he.1 ?_
      have he := he.2
      have he := ok_some he
      exact ⟨(i + (1:Int)), he, (leads_ren [] (l := [(0, .c (.imm (.int .i64) s_)), (1, .c (.int .i64 v)), (7, .c (.int .i64 (s_.length:Int))), (8, .c (.int .i64 (i + (1:Int))))]) (st' := []) rfl rfl trivial ⟨.inl rfl, rfl, rfl, rfl, trivial⟩)⟩
  · have he := ok_f he hb
    have he := ok_some he
    exact ⟨rfl, _, _, Leads.refl _ _, he⟩

noncomputable def c_slices_Contains_int : Con := fun args st => match args, st with
  | [.c (.imm (.int .i64) s_), .c (.int .i64 v)], [] => .opt (Bool) (slices_Contains_int s_ v) (fun r => .ret (.c (.bool r)) [])
  | _, _ => .fail

noncomputable def C_slices_Contains_int : Cfg := { y := tys, n := 9, h := 0, tab := [(54, c_slices_Index_int)], cut := [], hand := [], good := [], deep := [], sched := [] }

theorem t_slices_Contains_int : TabOk Try.prog C_slices_Contains_int := by
  refine tabOk_of ?_
  simp only [C_slices_Contains_int, List.forall_mem_cons]
  exact ⟨k_slices_Index_int, fun p h => by cases h⟩

theorem k_slices_Contains_int : Entry Try.prog 38 c_slices_Contains_int := by
  refine entry_by (C := C_slices_Contains_int) mixed tys_ok t_slices_Contains_int (fn := Try.f38) (c := bd Try.f38) (by kernel_rfl) (by kernel_rfl) (by kernel_rfl) (by kernel_rfl) ?_
  intro args st k he
  unfold c_slices_Contains_int at he
  split at he
  rotate_left
  · exact he.elim
  rename_i s_ v
  have he : Ok (slices_Contains_int s_ v) (fun r => k (.c (.bool r)) []) := he
  refine ⟨rfl, rfl, ?_⟩
  obtain ⟨r1_, hr, he⟩ := ok_bind he
  refine ⟨r1_, hr, ?_⟩
  have he := ok_some he
  exact ⟨rfl, _, _, Leads.refl _ _, he⟩

noncomputable def c_impl_ClauseOf_1 : Con := fun args st => match args, st with
  | [.c (.int .i64 a), .c (.int .i64 b)], [] => .opt (Int) (impl_ClauseOf_1 a b) (fun r => .ret (.c (.int .i64 r)) [])
  | _, _ => .fail

noncomputable def C_impl_ClauseOf_1 : Cfg := { y := tys, n := 10, h := 0, tab := [(41, c_impl_variableOf)], cut := [], hand := [], good := [], deep := [], sched := [] }

theorem t_impl_ClauseOf_1 : TabOk Try.prog C_impl_ClauseOf_1 := by
  refine tabOk_of ?_
  simp only [C_impl_ClauseOf_1, List.forall_mem_cons]
  exact ⟨k_impl_variableOf, fun p h => by cases h⟩

theorem k_impl_ClauseOf_1 : Entry Try.prog 40 c_impl_ClauseOf_1 := by
  refine entry_by (C := C_impl_ClauseOf_1) mixed tys_ok t_impl_ClauseOf_1 (fn := Try.f40) (c := bd Try.f40) (by kernel_rfl) (by kernel_rfl) (by kernel_rfl) (by kernel_rfl) ?_
  intro args st k he
  unfold c_impl_ClauseOf_1 at he
  split at he
  rotate_left
  · exact he.elim
  rename_i a b
  have he : Ok (impl_ClauseOf_1 a b) (fun r => k (.c (.int .i64 r)) []) := he
  refine ⟨rfl, rfl, ?_⟩
  obtain ⟨r1_, hr, he⟩ := ok_bind he
  refine ⟨r1_, hr, ?_⟩
  obtain ⟨r2_, hr, he⟩ := ok_bind he
  refine ⟨r2_, hr, ?_⟩
  have he := ok_rq he
  refine And.intro he.1 ?_
  have he := he.2
  have he := ok_some he
  exact ⟨rfl, _, _, Leads.refl _ _, he⟩

noncomputable def c_slices_SortFunc_int__impl_ClauseOf_1 : Con := sortC0 40 impl_ClauseOf_1

theorem k_slices_SortFunc_int__impl_ClauseOf_1 : Entry Try.prog 39 c_slices_SortFunc_int__impl_ClauseOf_1 := sort_entry0 lays39 k_impl_ClauseOf_1 (fun x y => rfl)

noncomputable def c_slices_Compact_int : Con := fun args st => match args, st with
  | [.c (.own 0 false)], [(0, .sl 3 (.int .i64) s_ .shallow)] => .opt ((List Int)) (slices_Compact_int s_) (fun r => .ret (.c (.own 900 false)) [(0, .dead), (900, .sl 3 (.int .i64) r .shallow)])
  | _, _ => .fail

noncomputable def C_slices_Compact_int : Cfg := { y := tys, n := 61, h := 1, tab := [], cut := [14], hand := [], good := [], deep := [], sched := [] }

theorem t_slices_Compact_int : TabOk Try.prog C_slices_Compact_int := tabOk_of (fun p h => by cases h)

theorem k_slices_Compact_int : Entry Try.prog 42 c_slices_Compact_int := by
  refine entry_by (C := C_slices_Compact_int) mixed tys_ok t_slices_Compact_int (fn := Try.f42) (c := bd Try.f42) (by kernel_rfl) (by kernel_rfl) (by kernel_rfl) (by kernel_rfl) ?_
  intro args st k he
  unfold c_slices_Compact_int at he
  split at he
  rotate_left
  · exact he.elim
  rename_i s_
  have he : Ok (slices_Compact_int s_) (fun r => k (.c (.own 900 false)) [(0, .dead), (900, .sl 3 (.int .i64) r .shallow)]) := he
  refine ⟨rfl, rfl, ?_⟩
  refine And.intro (fun hb => ?_) (fun hb => ?_)
  · have he := ok_t he hb
    have he := ok_some he
    exact ⟨rfl, _, _, (leads_ren [(900, 0)] (l := [(2, .c (.own 900 false))]) (st' := [(0, .dead), (900, .sl 3 (.int .i64) s_ .shallow)]) rfl rfl ⟨trivial, ⟨rfl, rfl⟩, trivial⟩ ⟨⟨⟨rfl, rfl⟩, trivial⟩, trivial⟩), he⟩
  · have he := ok_f he hb
    refine loop_model mixed tys_ok t_slices_Compact_int (S := Int) (I := (fun k_ => (envOf [(0, .c (.own 0 false)), (3, .c (.int .i64 k_))], [(0, .sl 3 (.int .i64) s_ .shallow)]))) (f := slices_Compact_int_l1 s_) (K := (fun r => k (.c (.own 900 false)) [(0, .dead), (900, .sl 3 (.int .i64) r .shallow)])) he (leads_ren [] (l := [(0, .c (.own 0 false)), (3, .c (.int .i64 (1:Int)))]) (st' := [(0, .sl 3 (.int .i64) s_ .shallow)]) rfl rfl ⟨⟨rfl, rfl⟩, trivial⟩ ⟨⟨⟨rfl, rfl⟩, trivial⟩, rfl, trivial⟩) ?_
    rintro k_ J1 he
    refine And.intro (fun hb => ?_) (fun hb => ?_)
    · have he := ok_t he hb
      refine And.intro (by kernel_rfl) ?_
      have he := ok_rq he
      refine And.intro he.1 ?_
      have he := he.2
      have he := ok_rq he
      refine And.intro he.1 ?_
      have he := he.2
      have he := ok_rq he
      refine And.intro he.1 ?_
      have he := he.2
      refine And.intro (fun hb => ?_) (fun hb => ?_)
      · have he := ok_t he hb
        have he := ok_rq he
        refine And.intro he.1 ?_
        have he := he.2
        refine seq_model mixed tys_ok t_slices_Compact_int (S := Int × (List Int)) (I := (fun (k_2, s_2) => (envOf [(0, .c (.own 0 false)), (3, .c (.int .i64 k_2))], [(0, .sl 3 (.int .i64) s_2 .shallow)]))) (B := fun s => Ok (slices_Compact_int_j1 s) (LK J1 (fun r => k (.c (.own 900 false)) [(0, .dead), (900, .sl 3 (.int .i64) r .shallow)]))) ?_ ?_
        · rintro ⟨k_2, s_2⟩ he
          have he := ok_rq he
          refine And.intro he.1 ?_
          have he := he.2
          have he := ok_rq he
          refine And.intro he.1 ?_
          have he := he.2
          have he := ok_some he
          exact ⟨rfl, _, _, (leads_ren [(900, 59)] (l := [(2, .c (.own 900 false))]) (st' := [(0, .dead), (900, .sl 3 (.int .i64) ((s_2.take k_2.toNat ++ List.replicate (s_2.length - k_2.toNat) (0:Int)).take k_2.toNat) .shallow)]) rfl rfl ⟨trivial, ⟨rfl, rfl⟩, trivial⟩ ⟨⟨⟨rfl, rfl⟩, trivial⟩, trivial⟩), he⟩
        · skip
          refine loop_model mixed tys_ok t_slices_Compact_int (S := Int × Int × (List Int)) (I := (fun (k_1, k2_, s_1) => (envOf [(0, .c (.own 0 false)), (3, .c (.int .i64 k_1)), (4, .c (.view 0 k_)), (5, .c (.int .i64 k2_))], [(0, .sl 3 (.int .i64) s_1 .shallow)]))) (f := slices_Compact_int_l2 k_) (K := (LK J1 (fun r => k (.c (.own 900 false)) [(0, .dead), (900, .sl 3 (.int .i64) r .shallow)]))) he (leads_ren [] (l := [(0, .c (.own 0 false)), (3, .c (.int .i64 k_)), (4, .c (.view 0 k_)), (5, .c (.int .i64 (1:Int)))]) (st' := [(0, .sl 3 (.int .i64) s_ .shallow)]) rfl rfl ⟨⟨rfl, rfl⟩, trivial⟩ ⟨⟨⟨rfl, rfl⟩, trivial⟩, rfl, ⟨⟨rfl, rfl⟩, rfl⟩, rfl, trivial⟩) ?_
          rintro ⟨k_1, k2_, s_1⟩ J2 he
          refine And.intro (fun hb => ?_) (fun hb => ?_)
          · have he := ok_t he hb
            refine And.intro (by kernel_rfl) ?_
            have he := ok_rq he
            refine And.intro he.1 ?_
            have he := he.2
            have he := ok_rq he
            refine And.intro he.1 ?_
            have he := he.2
            have he := ok_rq he
            refine And.intro he.1 ?_
            have he := he.2
            refine And.intro (fun hb => ?_) (fun hb => ?_)
            · have he := ok_t he hb
              have he := ok_rq he
              refine And.intro he.1 ?_
              have he := he.2
              have he := ok_rq he
              refine And.intro he.1 ?_
              have he := he.2
              have he := ok_rq he
              refine And.intro he.1 ?_
              have he := he.2
              have he := ok_rq he
              refine And.intro he.1 ?_
              have he := he.2
              have he := ok_some he
              exact ⟨((k_1 + (1:Int)), (k2_ + (1:Int)), (s_1.set k_1.toNat (s_1.getD (k_ + k2_).toNat 0))), he, (leads_ren [] (l := [(0, .c (.own 0 false)), (3, .c (.int .i64 (k_1 + (1:Int)))), (4, .c (.view 0 k_)), (5, .c (.int .i64 (k2_ + (1:Int))))]) (st' := [(0, .sl 3 (.int .i64) (s_1.set k_1.toNat (s_1.getD (k_ + k2_).toNat 0)) .shallow)]) rfl rfl ⟨⟨rfl, rfl⟩, trivial⟩ ⟨⟨⟨rfl, rfl⟩, trivial⟩, rfl, ⟨⟨rfl, rfl⟩, rfl⟩, rfl, trivial⟩)⟩
            · have he := ok_f he hb
              have he := ok_rq he
              refine And.intro he.1 ?_
              have he := he.2
              have he := ok_some he
              exact ⟨(k_1, (k2_ + (1:Int)), s_1), he, (leads_ren [] (l := [(0, .c (.own 0 false)), (3, .c (.int .i64 k_1)), (4, .c (.view 0 k_)), (5, .c (.int .i64 (k2_ + (1:Int))))]) (st' := [(0, .sl 3 (.int .i64) s_1 .shallow)]) rfl rfl ⟨⟨rfl, rfl⟩, trivial⟩ ⟨⟨⟨rfl, rfl⟩, trivial⟩, rfl, ⟨⟨rfl, rfl⟩, rfl⟩, rfl, trivial⟩)⟩
          · have he := ok_f he hb
            exact ⟨(k_1, s_1), ok_up he, (leads_ren [] (l := [(0, .c (.own 0 false)), (3, .c (.int .i64 k_1))]) (st' := [(0, .sl 3 (.int .i64) s_1 .shallow)]) rfl rfl ⟨⟨rfl, rfl⟩, trivial⟩ ⟨⟨⟨rfl, rfl⟩, trivial⟩, rfl, trivial⟩)⟩
      · have he := ok_f he hb
        have he := ok_rq he
        refine And.intro he.1 ?_
        have he := he.2
        have he := ok_some he
        exact ⟨(k_ + (1:Int)), he, (leads_ren [] (l := [(0, .c (.own 0 false)), (3, .c (.int .i64 (k_ + (1:Int))))]) (st' := [(0, .sl 3 (.int .i64) s_ .shallow)]) rfl rfl ⟨⟨rfl, rfl⟩, trivial⟩ ⟨⟨⟨rfl, rfl⟩, trivial⟩, rfl, trivial⟩)⟩
    · have he := ok_f he hb
      have he := ok_some he
      exact ⟨rfl, _, _, (leads_ren [(900, 0)] (l := [(2, .c (.own 900 false))]) (st' := [(0, .dead), (900, .sl 3 (.int .i64) s_ .shallow)]) rfl rfl ⟨trivial, ⟨rfl, rfl⟩, trivial⟩ ⟨⟨⟨rfl, rfl⟩, trivial⟩, trivial⟩), he⟩

noncomputable def c_impl_ClauseOf : Con := fun args st => match args, st with
  | [.c (.imm (.int .i64) lits)], [] => .opt (Bool × Int × (List (Int × Int))) (impl_ClauseOf lits) (fun r => .ret (.tup [.agg [.own 901 false, .int .i64 r.2.1], .c (.bool r.1)]) [(900, .rc [.own 901 false, .int .i64 r.2.1]), (901, .sl 63 (.pair (.int .i64) (.int .i64)) r.2.2 .shallow)])
  | _, _ => .fail

noncomputable def C_impl_ClauseOf : Cfg := { y := tys, n := 52, h := 0, tab := [(36, c_slices_Clone_int), (37, c_impl_isLiteral), (38, c_slices_Contains_int), (39, c_slices_SortFunc_int__impl_ClauseOf_1), (42, c_slices_Compact_int)], cut := [], hand := [(39, [0]), (42, [0])], good := [], deep := [], sched := [] }

theorem t_impl_ClauseOf : TabOk Try.prog C_impl_ClauseOf := by
  refine tabOk_of ?_
  simp only [C_impl_ClauseOf, List.forall_mem_cons]
  exact ⟨k_slices_Clone_int, k_impl_isLiteral, k_slices_Contains_int, k_slices_SortFunc_int__impl_ClauseOf_1, k_slices_Compact_int, fun p h => by cases h⟩

theorem k_impl_ClauseOf : Entry Try.prog 19 c_impl_ClauseOf := by
  refine entry_by (C := C_impl_ClauseOf) mixed tys_ok t_impl_ClauseOf (fn := Try.f19) (c := bd Try.f19) (by kernel_rfl) (by kernel_rfl) (by kernel_rfl) (by kernel_rfl) ?_
  intro args st k he
  unfold c_impl_ClauseOf at he
  split at he
  rotate_left
  · exact he.elim
  rename_i lits
  have he : Ok (impl_ClauseOf lits) (fun r => k (.tup [.agg [.own 901 false, .int .i64 r.2.1], .c (.bool r.1)]) [(900, .rc [.own 901 false, .int .i64 r.2.1]), (901, .sl 63 (.pair (.int .i64) (.int .i64)) r.2.2 .shallow)]) := he
  refine ⟨rfl, rfl, ?_⟩
  refine And.intro (fun hb => ?_) (fun hb => ?_)
  · have he := ok_t he hb
    have he := ok_some he
    exact ⟨rfl, _, _, (leads_ren [(900, 2)] (l := [(2, .c (.ptr 900 0)), (3, .c (.bool false))]) (st' := [(900, .rc [.own 901 false, .int .i64 (0:Int)]), (901, .sl 63 (.pair (.int .i64) (.int .i64)) ([] : List (Int × Int)) .shallow)]) rfl rfl ⟨⟨⟨rfl, trivial⟩, rfl, trivial⟩, trivial, trivial⟩ ⟨⟨⟨rfl, rfl⟩, rfl⟩, .inr rfl, trivial⟩), he⟩
  · have he := ok_f he hb
    refine loop_model mixed tys_ok t_impl_ClauseOf (S := Int) (I := (fun i => (envOf [(0, .c (.imm (.int .i64) lits)), (2, .c (.ptr 10000000 0)), (14, .c (.imm (.int .i64) lits)), (15, .c (.int .i64 (lits.length:Int))), (16, .c (.int .i64 i))], [(10000000, .rc [.nil, .int .i64 (0:Int)])]))) (f := impl_ClauseOf_l1 lits) (K := (fun r => k (.tup [.agg [.own 901 false, .int .i64 r.2.1], .c (.bool r.1)]) [(900, .rc [.own 901 false, .int .i64 r.2.1]), (901, .sl 63 (.pair (.int .i64) (.int .i64)) r.2.2 .shallow)])) he (leads_ren [(10000000, 2)] (l := [(0, .c (.imm (.int .i64) lits)), (2, .c (.ptr 10000000 0)), (14, .c (.imm (.int .i64) lits)), (15, .c (.int .i64 (lits.length:Int))), (16, .c (.int .i64 (0:Int)))]) (st' := [(10000000, .rc [.nil, .int .i64 (0:Int)])]) rfl rfl ⟨⟨rfl, rfl, trivial⟩, trivial⟩ ⟨.inl rfl, ⟨⟨rfl, rfl⟩, rfl⟩, .inl rfl, rfl, rfl, trivial⟩) ?_
    rintro i J1 he
    refine And.intro (fun hb => ?_) (fun hb => ?_)
    · have he := ok_t he hb
      have he := ok_rq he
      refine And.intro he.1 ?_
      have he := he.2
      obtain ⟨r1_, hr, he⟩ := ok_bind he
      refine ⟨r1_, hr, ?_⟩
      refine And.intro (fun hb => ?_) (fun hb => ?_)
      · have he := ok_f he hb
        have he := ok_rq he
        refine And.intro he.1 ?_
        have he := he.2
        obtain ⟨r2_, hr, he⟩ := ok_bind he
        refine ⟨r2_, hr, ?_⟩
        refine And.intro (fun hb => ?_) (fun hb => ?_)
        · have he := ok_t he hb
          have he := ok_some he
          exact ⟨rfl, _, _, (leads_ren [(900, 10000000)] (l := [(2, .c (.ptr 900 0)), (3, .c (.bool false))]) (st' := [(900, .rc [.own 901 false, .int .i64 (0:Int)]), (901, .sl 63 (.pair (.int .i64) (.int .i64)) ([] : List (Int × Int)) .shallow)]) rfl rfl ⟨⟨⟨rfl, trivial⟩, rfl, trivial⟩, trivial, trivial⟩ ⟨⟨⟨rfl, rfl⟩, rfl⟩, .inr rfl, trivial⟩), he⟩
        · have he := ok_f he hb
          have he := ok_rq he
          refine And.intro he.1 ?_
          have he := he.2
          have he := ok_some he
          exact ⟨(i + (1:Int)), he, (leads_ren [] (l := [(0, .c (.imm (.int .i64) lits)), (2, .c (.ptr 10000000 0)), (14, .c (.imm (.int .i64) lits)), (15, .c (.int .i64 (lits.length:Int))), (16, .c (.int .i64 (i + (1:Int))))]) (st' := [(10000000, .rc [.nil, .int .i64 (0:Int)])]) rfl rfl ⟨⟨rfl, rfl, trivial⟩, trivial⟩ ⟨.inl rfl, ⟨⟨rfl, rfl⟩, rfl⟩, .inl rfl, rfl, rfl, trivial⟩)⟩
      · have he := ok_t he hb
        have he := ok_some he
        exact ⟨rfl, _, _, (leads_ren [(900, 10000000)] (l := [(2, .c (.ptr 900 0)), (3, .c (.bool false))]) (st' := [(900, .rc [.own 901 false, .int .i64 (0:Int)]), (901, .sl 63 (.pair (.int .i64) (.int .i64)) ([] : List (Int × Int)) .shallow)]) rfl rfl ⟨⟨⟨rfl, trivial⟩, rfl, trivial⟩, trivial, trivial⟩ ⟨⟨⟨rfl, rfl⟩, rfl⟩, .inr rfl, trivial⟩), he⟩
    · have he := ok_f he hb
      obtain ⟨r3_, hr, he⟩ := ok_bind he
      refine ⟨r3_, hr, ?_⟩
      obtain ⟨r4_, hr, he⟩ := ok_bind he
      refine ⟨r4_, hr, ?_⟩
      obtain ⟨r5_, hr, he⟩ := ok_bind he
      refine ⟨r5_, hr, ?_⟩
      refine loop_model mixed tys_ok t_impl_ClauseOf (S := Int × (List (Int × Int))) (I := (fun (i1, c_0) => (envOf [(2, .c (.ptr 10001000 0)), (7, .c (.ptr 10001001 0)), (37, .c (.own 10001002 false)), (38, .c (.int .i64 (r5_.length:Int))), (39, .c (.int .i64 i1))], [(10001000, .rc [.nil, .int .i64 (0:Int)]), (10001001, .rc [.own 10001003 false, .int .i64 (1:Int)]), (10001002, .sl 3 (.int .i64) r5_ .shallow), (10001003, .sl 63 (.pair (.int .i64) (.int .i64)) c_0 .shallow)]))) (f := impl_ClauseOf_l2 r5_) (K := (LK J1 (fun r => k (.tup [.agg [.own 901 false, .int .i64 r.2.1], .c (.bool r.1)]) [(900, .rc [.own 901 false, .int .i64 r.2.1]), (901, .sl 63 (.pair (.int .i64) (.int .i64)) r.2.2 .shallow)]))) he (leads_ren [(10001000, 10000000), (10001001, 7), (10001002, 38900)] (l := [(2, .c (.ptr 10001000 0)), (7, .c (.ptr 10001001 0)), (37, .c (.own 10001002 false)), (38, .c (.int .i64 (r5_.length:Int))), (39, .c (.int .i64 (0:Int)))]) (st' := [(10001000, .rc [.nil, .int .i64 (0:Int)]), (10001001, .rc [.own 10001003 false, .int .i64 (1:Int)]), (10001002, .sl 3 (.int .i64) r5_ .shallow), (10001003, .sl 63 (.pair (.int .i64) (.int .i64)) ([] : List (Int × Int)) .shallow)]) rfl rfl ⟨⟨rfl, rfl, trivial⟩, ⟨⟨rfl, trivial⟩, rfl, trivial⟩, ⟨rfl, rfl⟩, trivial, trivial⟩ ⟨⟨⟨rfl, rfl⟩, rfl⟩, ⟨⟨rfl, rfl⟩, rfl⟩, ⟨⟨rfl, rfl⟩, trivial⟩, rfl, rfl, trivial⟩) ?_
      rintro ⟨i1, c_0⟩ J2 he
      refine And.intro (fun hb => ?_) (fun hb => ?_)
      · have he := ok_t he hb
        have he := ok_rq he
        refine And.intro he.1 ?_
        have he := he.2
        have he := ok_rq he
        refine And.intro he.1 ?_
        have he := he.2
        have he := ok_rq he
        refine And.intro he.1 ?_
        have he := he.2
        have he := ok_some he
        exact ⟨((i1 + (1:Int)), (c_0 ++ [((1:Int), (r5_.getD i1.toNat 0))])), he, (leads_ren [(10001003, 48)] (l := [(2, .c (.ptr 10001000 0)), (7, .c (.ptr 10001001 0)), (37, .c (.own 10001002 false)), (38, .c (.int .i64 (r5_.length:Int))), (39, .c (.int .i64 (i1 + (1:Int))))]) (st' := [(10001000, .rc [.nil, .int .i64 (0:Int)]), (10001001, .rc [.own 10001003 false, .int .i64 (1:Int)]), (10001002, .sl 3 (.int .i64) r5_ .shallow), (10001003, .sl 63 (.pair (.int .i64) (.int .i64)) (c_0 ++ [((1:Int), (r5_.getD i1.toNat 0))]) .shallow)]) rfl rfl ⟨⟨rfl, rfl, trivial⟩, ⟨⟨⟨rfl, rfl⟩, trivial⟩, rfl, trivial⟩, ⟨rfl, rfl⟩, ⟨rfl, rfl⟩, trivial⟩ ⟨⟨⟨rfl, rfl⟩, rfl⟩, ⟨⟨rfl, rfl⟩, rfl⟩, ⟨⟨rfl, rfl⟩, trivial⟩, rfl, rfl, trivial⟩)⟩
      · have he := ok_f he hb
        have he := ok_some he
        exact ⟨rfl, _, _, (leads_ren [(900, 10001000), (901, 10001003)] (l := [(2, .c (.ptr 900 0)), (3, .c (.bool true))]) (st' := [(900, .rc [.own 901 false, .int .i64 (1:Int)]), (901, .sl 63 (.pair (.int .i64) (.int .i64)) c_0 .shallow)]) rfl rfl ⟨⟨⟨⟨rfl, rfl⟩, trivial⟩, rfl, trivial⟩, ⟨rfl, rfl⟩, trivial⟩ ⟨⟨⟨rfl, rfl⟩, rfl⟩, .inr rfl, trivial⟩), he⟩

noncomputable def c_impl_LiftStep : Con := fun args st => match args, st with
  | [.agg [.int .i64 a0_0, .int .i64 a0_1, .int .i64 a0_2, .imm (.pair (.int .i64) (.int .i64)) a0_3, .int .i64 a0_4], .c (.imm (.int .i64) a1)], [] => .opt (Bool × Int × Int × Int × Int × (List (Int × Int))) (impl_LiftStep (a0_0, (a0_1, (a0_2, (a0_3, a0_4)))) a1) (fun r => .ret (.tup [.agg [.int .i64 r.2.1, .int .i64 r.2.2.1, .int .i64 r.2.2.2.1, .own 901 false, .int .i64 r.2.2.2.2.1], .c (.bool r.1)]) [(900, .rc [.int .i64 r.2.1, .int .i64 r.2.2.1, .int .i64 r.2.2.2.1, .own 901 false, .int .i64 r.2.2.2.2.1]), (901, .sl 63 (.pair (.int .i64) (.int .i64)) r.2.2.2.2.2 .shallow)])
  | _, _ => .fail

noncomputable def C_impl_LiftStep : Cfg := { y := tys, n := 72, h := 0, tab := [(19, c_impl_ClauseOf), (20, c_impl_negations), (34, c_impl_ConstraintValid), (35, c_impl_isCube)], cut := [11], hand := [], good := [], deep := [], sched := [] }

theorem t_impl_LiftStep : TabOk Try.prog C_impl_LiftStep := by
  refine tabOk_of ?_
  simp only [C_impl_LiftStep, List.forall_mem_cons]
  exact ⟨k_impl_ClauseOf, k_impl_negations, k_impl_ConstraintValid, k_impl_isCube, fun p h => by cases h⟩

theorem k_impl_LiftStep : Entry Try.prog 17 c_impl_LiftStep := by
  refine entry_by (C := C_impl_LiftStep) mixed tys_ok t_impl_LiftStep (fn := Try.f17) (c := bd Try.f17) (by kernel_rfl) (by kernel_rfl) (by kernel_rfl) (by kernel_rfl) ?_
  intro args st k he
  unfold c_impl_LiftStep at he
  split at he
  rotate_left
  · exact he.elim
  rename_i a0_0 a0_1 a0_2 a0_3 a0_4 a1
  have he : Ok (impl_LiftStep (a0_0, (a0_1, (a0_2, (a0_3, a0_4)))) a1) (fun r => k (.tup [.agg [.int .i64 r.2.1, .int .i64 r.2.2.1, .int .i64 r.2.2.2.1, .own 901 false, .int .i64 r.2.2.2.2.1], .c (.bool r.1)]) [(900, .rc [.int .i64 r.2.1, .int .i64 r.2.2.1, .int .i64 r.2.2.2.1, .own 901 false, .int .i64 r.2.2.2.2.1]), (901, .sl 63 (.pair (.int .i64) (.int .i64)) r.2.2.2.2.2 .shallow)]) := he
  refine ⟨rfl, rfl, ?_⟩
  refine And.intro (fun hb => ?_) (fun hb => ?_)
  · have he := ok_f he hb
    refine And.intro (fun hb => ?_) (fun hb => ?_)
    · have he := ok_f he hb
      refine And.intro (fun hb => ?_) (fun hb => ?_)
      · have he := ok_f he hb
        obtain ⟨r1_, hr, he⟩ := ok_bind he
        refine ⟨r1_, hr, ?_⟩
        refine And.intro (fun hb => ?_) (fun hb => ?_)
        · have he := ok_f he hb
          refine And.intro (fun hb => ?_) (fun hb => ?_)
          · have he := ok_f he hb
            obtain ⟨r2_, hr, he⟩ := ok_bind he
            refine ⟨r2_, hr, ?_⟩
            refine And.intro (fun hb => ?_) (fun hb => ?_)
            · have he := ok_t he hb
              have he := ok_some he
              exact ⟨rfl, _, _, (leads_ren [(900, 4)] (l := [(4, .c (.ptr 900 0)), (5, .c (.bool false))]) (st' := [(900, .rc [.int .i64 (0:Int), .int .i64 (0:Int), .int .i64 (0:Int), .own 901 false, .int .i64 (0:Int)]), (901, .sl 63 (.pair (.int .i64) (.int .i64)) ([] : List (Int × Int)) .shallow)]) rfl rfl ⟨⟨rfl, rfl, rfl, ⟨rfl, trivial⟩, rfl, trivial⟩, trivial, trivial⟩ ⟨⟨⟨rfl, rfl⟩, rfl⟩, .inr rfl, trivial⟩), he⟩
            · have he := ok_f he hb
              obtain ⟨r3_, hr, he⟩ := ok_bind he
              refine ⟨r3_, hr, ?_⟩
              refine seq_model mixed tys_ok t_impl_LiftStep (S := (List Int)) (I := (fun i2 => (envOf [(4, .c (.ptr 10001000 0)), (6, .c (.own 10001001 false))], [(10001000, .rc [.int .i64 (0:Int), .int .i64 (0:Int), .int .i64 (0:Int), .nil, .int .i64 (0:Int)]), (10001001, .sl 3 (.int .i64) i2 .shallow)]))) (B := fun s => Ok (impl_LiftStep_j1 s) (fun r => k (.tup [.agg [.int .i64 r.2.1, .int .i64 r.2.2.1, .int .i64 r.2.2.2.1, .own 901 false, .int .i64 r.2.2.2.2.1], .c (.bool r.1)]) [(900, .rc [.int .i64 r.2.1, .int .i64 r.2.2.1, .int .i64 r.2.2.2.1, .own 901 false, .int .i64 r.2.2.2.2.1]), (901, .sl 63 (.pair (.int .i64) (.int .i64)) r.2.2.2.2.2 .shallow)])) ?_ ?_
              · rintro i2 he
                obtain ⟨r4_, hr, he⟩ := ok_bind he
                refine ⟨r4_, hr, ?_⟩
                refine And.intro (fun hb => ?_) (fun hb => ?_)
                · have he := ok_t he hb
                  have he := ok_some he
                  exact ⟨rfl, _, _, (leads_ren [(900, 10001000)] (l := [(4, .c (.ptr 900 0)), (5, .c (.bool false))]) (st' := [(900, .rc [.int .i64 (0:Int), .int .i64 (0:Int), .int .i64 (0:Int), .own 901 false, .int .i64 (0:Int)]), (901, .sl 63 (.pair (.int .i64) (.int .i64)) ([] : List (Int × Int)) .shallow)]) rfl rfl ⟨⟨rfl, rfl, rfl, ⟨rfl, trivial⟩, rfl, trivial⟩, trivial, trivial⟩ ⟨⟨⟨rfl, rfl⟩, rfl⟩, .inr rfl, trivial⟩), he⟩
                · have he := ok_f he hb
                  have he := ok_some he
                  exact ⟨rfl, _, _, (leads_ren [(900, 10001000), (901, 65901)] (l := [(4, .c (.ptr 900 0)), (5, .c (.bool true))]) (st' := [(900, .rc [.int .i64 (7:Int), .int .i64 (0:Int), .int .i64 (0:Int), .own 901 false, .int .i64 r4_.2.1]), (901, .sl 63 (.pair (.int .i64) (.int .i64)) r4_.2.2 .shallow)]) rfl rfl ⟨⟨rfl, rfl, rfl, ⟨⟨rfl, rfl⟩, trivial⟩, rfl, trivial⟩, ⟨rfl, rfl⟩, trivial⟩ ⟨⟨⟨rfl, rfl⟩, rfl⟩, .inr rfl, trivial⟩), he⟩
              · skip
                refine loop_model mixed tys_ok t_impl_LiftStep (S := Int × (List Int)) (I := (fun (i, i1) => (envOf [(4, .c (.ptr 10000000 0)), (6, .c (.own 10000001 false)), (46, .c (.imm (.pair (.int .i64) (.int .i64)) (a0_0, (a0_1, (a0_2, (a0_3, a0_4)))).2.2.2.1)), (47, .c (.int .i64 ((a0_0, (a0_1, (a0_2, (a0_3, a0_4)))).2.2.2.1.length:Int))), (48, .c (.int .i64 i))], [(10000000, .rc [.int .i64 (0:Int), .int .i64 (0:Int), .int .i64 (0:Int), .nil, .int .i64 (0:Int)]), (10000001, .sl 3 (.int .i64) i1 .shallow)]))) (f := impl_LiftStep_l1 (a0_0, (a0_1, (a0_2, (a0_3, a0_4))))) (K := (fun r => k (.tup [.agg [.int .i64 r.2.1, .int .i64 r.2.2.1, .int .i64 r.2.2.2.1, .own 901 false, .int .i64 r.2.2.2.2.1], .c (.bool r.1)]) [(900, .rc [.int .i64 r.2.1, .int .i64 r.2.2.1, .int .i64 r.2.2.2.1, .own 901 false, .int .i64 r.2.2.2.2.1]), (901, .sl 63 (.pair (.int .i64) (.int .i64)) r.2.2.2.2.2 .shallow)])) he (leads_ren [(10000000, 4), (10000001, 44900)] (l := [(4, .c (.ptr 10000000 0)), (6, .c (.own 10000001 false)), (46, .c (.imm (.pair (.int .i64) (.int .i64)) (a0_0, (a0_1, (a0_2, (a0_3, a0_4)))).2.2.2.1)), (47, .c (.int .i64 ((a0_0, (a0_1, (a0_2, (a0_3, a0_4)))).2.2.2.1.length:Int))), (48, .c (.int .i64 (0:Int)))]) (st' := [(10000000, .rc [.int .i64 (0:Int), .int .i64 (0:Int), .int .i64 (0:Int), .nil, .int .i64 (0:Int)]), (10000001, .sl 3 (.int .i64) r3_ .shallow)]) rfl rfl ⟨⟨rfl, rfl, rfl, rfl, rfl, trivial⟩, ⟨rfl, rfl⟩, trivial⟩ ⟨⟨⟨rfl, rfl⟩, rfl⟩, ⟨⟨rfl, rfl⟩, trivial⟩, .inl rfl, rfl, rfl, trivial⟩) ?_
                rintro ⟨i, i1⟩ J1 he
                refine And.intro (fun hb => ?_) (fun hb => ?_)
                · have he := ok_t he hb
                  have he := ok_rq he
                  refine And.intro he.1 ?_
                  have he := he.2
                  refine And.intro (fun hb => ?_) (fun hb => ?_)
                  · have he := ok_t he hb
                    have he := ok_some he
                    exact ⟨rfl, _, _, (leads_ren [(900, 10000000)] (l := [(4, .c (.ptr 900 0)), (5, .c (.bool false))]) (st' := [(900, .rc [.int .i64 (0:Int), .int .i64 (0:Int), .int .i64 (0:Int), .own 901 false, .int .i64 (0:Int)]), (901, .sl 63 (.pair (.int .i64) (.int .i64)) ([] : List (Int × Int)) .shallow)]) rfl rfl ⟨⟨rfl, rfl, rfl, ⟨rfl, trivial⟩, rfl, trivial⟩, trivial, trivial⟩ ⟨⟨⟨rfl, rfl⟩, rfl⟩, .inr rfl, trivial⟩), he⟩
                  · have he := ok_f he hb
                    have he := ok_rq he
                    refine And.intro he.1 ?_
                    have he := he.2
                    have he := ok_rq he
                    refine And.intro he.1 ?_
                    have he := he.2
                    have he := ok_some he
                    exact ⟨((i + (1:Int)), (i1 ++ [((a0_0, (a0_1, (a0_2, (a0_3, a0_4)))).2.2.2.1.getD i.toNat (0, 0)).2])), he, (leads_ren [(10000001, 60)] (l := [(4, .c (.ptr 10000000 0)), (6, .c (.own 10000001 false)), (46, .c (.imm (.pair (.int .i64) (.int .i64)) (a0_0, (a0_1, (a0_2, (a0_3, a0_4)))).2.2.2.1)), (47, .c (.int .i64 ((a0_0, (a0_1, (a0_2, (a0_3, a0_4)))).2.2.2.1.length:Int))), (48, .c (.int .i64 (i + (1:Int))))]) (st' := [(10000000, .rc [.int .i64 (0:Int), .int .i64 (0:Int), .int .i64 (0:Int), .nil, .int .i64 (0:Int)]), (10000001, .sl 3 (.int .i64) (i1 ++ [((a0_0, (a0_1, (a0_2, (a0_3, a0_4)))).2.2.2.1.getD i.toNat (0, 0)).2]) .shallow)]) rfl rfl ⟨⟨rfl, rfl, rfl, rfl, rfl, trivial⟩, ⟨rfl, rfl⟩, trivial⟩ ⟨⟨⟨rfl, rfl⟩, rfl⟩, ⟨⟨rfl, rfl⟩, trivial⟩, .inl rfl, rfl, rfl, trivial⟩)⟩
                · have he := ok_f he hb
                  exact ⟨i1, ok_up he, (leads_ren [(10001000, 10000000), (10001001, 10000001)] (l := [(4, .c (.ptr 10001000 0)), (6, .c (.own 10001001 false))]) (st' := [(10001000, .rc [.int .i64 (0:Int), .int .i64 (0:Int), .int .i64 (0:Int), .nil, .int .i64 (0:Int)]), (10001001, .sl 3 (.int .i64) i1 .shallow)]) rfl rfl ⟨⟨rfl, rfl, rfl, rfl, rfl, trivial⟩, ⟨rfl, rfl⟩, trivial⟩ ⟨⟨⟨rfl, rfl⟩, rfl⟩, ⟨⟨rfl, rfl⟩, trivial⟩, trivial⟩)⟩
          · have he := ok_t he hb
            have he := ok_some he
            exact ⟨rfl, _, _, (leads_ren [(900, 4)] (l := [(4, .c (.ptr 900 0)), (5, .c (.bool false))]) (st' := [(900, .rc [.int .i64 (0:Int), .int .i64 (0:Int), .int .i64 (0:Int), .own 901 false, .int .i64 (0:Int)]), (901, .sl 63 (.pair (.int .i64) (.int .i64)) ([] : List (Int × Int)) .shallow)]) rfl rfl ⟨⟨rfl, rfl, rfl, ⟨rfl, trivial⟩, rfl, trivial⟩, trivial, trivial⟩ ⟨⟨⟨rfl, rfl⟩, rfl⟩, .inr rfl, trivial⟩), he⟩
        · have he := ok_t he hb
          have he := ok_some he
          exact ⟨rfl, _, _, (leads_ren [(900, 4)] (l := [(4, .c (.ptr 900 0)), (5, .c (.bool false))]) (st' := [(900, .rc [.int .i64 (0:Int), .int .i64 (0:Int), .int .i64 (0:Int), .own 901 false, .int .i64 (0:Int)]), (901, .sl 63 (.pair (.int .i64) (.int .i64)) ([] : List (Int × Int)) .shallow)]) rfl rfl ⟨⟨rfl, rfl, rfl, ⟨rfl, trivial⟩, rfl, trivial⟩, trivial, trivial⟩ ⟨⟨⟨rfl, rfl⟩, rfl⟩, .inr rfl, trivial⟩), he⟩
      · have he := ok_t he hb
        have he := ok_some he
        exact ⟨rfl, _, _, (leads_ren [(900, 4)] (l := [(4, .c (.ptr 900 0)), (5, .c (.bool false))]) (st' := [(900, .rc [.int .i64 (0:Int), .int .i64 (0:Int), .int .i64 (0:Int), .own 901 false, .int .i64 (0:Int)]), (901, .sl 63 (.pair (.int .i64) (.int .i64)) ([] : List (Int × Int)) .shallow)]) rfl rfl ⟨⟨rfl, rfl, rfl, ⟨rfl, trivial⟩, rfl, trivial⟩, trivial, trivial⟩ ⟨⟨⟨rfl, rfl⟩, rfl⟩, .inr rfl, trivial⟩), he⟩
    · have he := ok_t he hb
      have he := ok_some he
      exact ⟨rfl, _, _, (leads_ren [(900, 4)] (l := [(4, .c (.ptr 900 0)), (5, .c (.bool false))]) (st' := [(900, .rc [.int .i64 (0:Int), .int .i64 (0:Int), .int .i64 (0:Int), .own 901 false, .int .i64 (0:Int)]), (901, .sl 63 (.pair (.int .i64) (.int .i64)) ([] : List (Int × Int)) .shallow)]) rfl rfl ⟨⟨rfl, rfl, rfl, ⟨rfl, trivial⟩, rfl, trivial⟩, trivial, trivial⟩ ⟨⟨⟨rfl, rfl⟩, rfl⟩, .inr rfl, trivial⟩), he⟩
  · have he := ok_t he hb
    have he := ok_some he
    exact ⟨rfl, _, _, (leads_ren [(900, 4)] (l := [(4, .c (.ptr 900 0)), (5, .c (.bool false))]) (st' := [(900, .rc [.int .i64 (0:Int), .int .i64 (0:Int), .int .i64 (0:Int), .own 901 false, .int .i64 (0:Int)]), (901, .sl 63 (.pair (.int .i64) (.int .i64)) ([] : List (Int × Int)) .shallow)]) rfl rfl ⟨⟨rfl, rfl, rfl, ⟨rfl, trivial⟩, rfl, trivial⟩, trivial, trivial⟩ ⟨⟨⟨rfl, rfl⟩, rfl⟩, .inr rfl, trivial⟩), he⟩

noncomputable def c_impl_MergeProofs : Con := fun args st => match args, st with
  | [.c (.imm (.int .i64) a0), .c (.imm (.sl (.pair (.int .i64) (.pair (.int .i64) (.pair (.int .i64) (.pair (.sl (.pair (.int .i64) (.int .i64))) (.int .i64)))))) a1)], [] => .opt (Bool × (List (Int × Int × Int × (List (Int × Int)) × Int))) (impl_MergeProofs a0 a1) (fun r => .ret (.tup [.c (.own 900 false), .c (.bool r.1)]) [(900, .sl 36 (.pair (.int .i64) (.pair (.int .i64) (.pair (.int .i64) (.pair (.sl (.pair (.int .i64) (.int .i64))) (.int .i64))))) r.2 (.deep true .no))])
  | _, _ => .fail

noncomputable def C_impl_MergeProofs : Cfg := { y := tys, n := 101, h := 0, tab := [(16, c_impl_SplitCubes), (17, c_impl_LiftStep), (18, c_impl_cubesOf), (19, c_impl_ClauseOf), (20, c_impl_negations)], cut := [18, 27], hand := [], good := [], deep := [65, 94], sched := [] }

theorem t_impl_MergeProofs : TabOk Try.prog C_impl_MergeProofs := by
  refine tabOk_of ?_
  simp only [C_impl_MergeProofs, List.forall_mem_cons]
  exact ⟨k_impl_SplitCubes, k_impl_LiftStep, k_impl_cubesOf, k_impl_ClauseOf, k_impl_negations, fun p h => by cases h⟩

theorem k_impl_MergeProofs : Entry Try.prog 5 c_impl_MergeProofs := by
  refine entry_by (C := C_impl_MergeProofs) mixed tys_ok t_impl_MergeProofs (fn := Try.f5) (c := bd Try.f5) (by kernel_rfl) (by kernel_rfl) (by kernel_rfl) (by kernel_rfl) ?_
  intro args st k he
  unfold c_impl_MergeProofs at he
  split at he
  rotate_left
  · exact he.elim
  rename_i a0 a1
  have he : Ok (impl_MergeProofs a0 a1) (fun r => k (.tup [.c (.own 900 false), .c (.bool r.1)]) [(900, .sl 36 (.pair (.int .i64) (.pair (.int .i64) (.pair (.int .i64) (.pair (.sl (.pair (.int .i64) (.int .i64))) (.int .i64))))) r.2 (.deep true .no))]) := he
  refine ⟨rfl, rfl, ?_⟩
  obtain ⟨r1_, hr, he⟩ := ok_bind he
  refine ⟨r1_, hr, ?_⟩
  refine And.intro (fun hb => ?_) (fun hb => ?_)
  · have he := ok_f he hb
    refine And.intro (fun hb => ?_) (fun hb => ?_)
    · have he := ok_t he hb
      have he := ok_some he
      exact ⟨rfl, _, _, (leads_ren [] (l := [(4, .c (.own 900 false)), (5, .c (.bool false))]) (st' := [(900, .sl 36 (.pair (.int .i64) (.pair (.int .i64) (.pair (.int .i64) (.pair (.sl (.pair (.int .i64) (.int .i64))) (.int .i64))))) ([] : List (Int × Int × Int × (List (Int × Int)) × Int)) (.deep true .no))]) rfl rfl ⟨trivial, trivial⟩ ⟨⟨rfl, trivial⟩, .inr rfl, trivial⟩), he⟩
    · have he := ok_f he hb
      refine seq_model mixed tys_ok t_impl_MergeProofs (S := (List (Int × Int × Int × (List (Int × Int)) × Int))) (I := (fun i7 => (envOf [(0, .c (.imm (.int .i64) a0)), (8, .c (.own 10003000 false))], [(10003000, .sl 36 (.pair (.int .i64) (.pair (.int .i64) (.pair (.int .i64) (.pair (.sl (.pair (.int .i64) (.int .i64))) (.int .i64))))) i7 (.deep true .no))]))) (B := fun s => Ok (impl_MergeProofs_j1 a0 s) (fun r => k (.tup [.c (.own 900 false), .c (.bool r.1)]) [(900, .sl 36 (.pair (.int .i64) (.pair (.int .i64) (.pair (.int .i64) (.pair (.sl (.pair (.int .i64) (.int .i64))) (.int .i64))))) r.2 (.deep true .no))])) ?_ ?_
      · rintro i7 he
        refine seq_model mixed tys_ok t_impl_MergeProofs (S := (List (Int × Int × Int × (List (Int × Int)) × Int))) (I := (fun i16 => (envOf [(8, .c (.own 10007000 false))], [(10007000, .sl 36 (.pair (.int .i64) (.pair (.int .i64) (.pair (.int .i64) (.pair (.sl (.pair (.int .i64) (.int .i64))) (.int .i64))))) i16 (.deep true .no))]))) (B := fun s => Ok (impl_MergeProofs_j2 s) (fun r => k (.tup [.c (.own 900 false), .c (.bool r.1)]) [(900, .sl 36 (.pair (.int .i64) (.pair (.int .i64) (.pair (.int .i64) (.pair (.sl (.pair (.int .i64) (.int .i64))) (.int .i64))))) r.2 (.deep true .no))])) ?_ ?_
        · rintro i16 he
          refine And.intro (fun hb => ?_) (fun hb => ?_)
          · have he := ok_t he hb
            have he := ok_some he
            exact ⟨rfl, _, _, (leads_ren [] (l := [(4, .c (.own 900 false)), (5, .c (.bool false))]) (st' := [(900, .sl 36 (.pair (.int .i64) (.pair (.int .i64) (.pair (.int .i64) (.pair (.sl (.pair (.int .i64) (.int .i64))) (.int .i64))))) ([] : List (Int × Int × Int × (List (Int × Int)) × Int)) (.deep true .no))]) rfl rfl ⟨trivial, trivial⟩ ⟨⟨rfl, trivial⟩, .inr rfl, trivial⟩), he⟩
          · have he := ok_f he hb
            have he := ok_some he
            exact ⟨rfl, _, _, (leads_ren [(900, 10007000)] (l := [(4, .c (.own 900 false)), (5, .c (.bool true))]) (st' := [(900, .sl 36 (.pair (.int .i64) (.pair (.int .i64) (.pair (.int .i64) (.pair (.sl (.pair (.int .i64) (.int .i64))) (.int .i64))))) i16 (.deep true .no))]) rfl rfl ⟨⟨rfl, rfl⟩, trivial⟩ ⟨⟨⟨rfl, rfl⟩, trivial⟩, .inr rfl, trivial⟩), he⟩
        · skip
          have he := ok_rq he
          refine And.intro he.1 ?_
          have he := he.2
          refine loop_model mixed tys_ok t_impl_MergeProofs (S := Int × (List (Int × Int × Int × (List (Int × Int)) × Int))) (I := (fun (i8, i12) => (envOf [(0, .c (.imm (.int .i64) a0)), (8, .c (.own 10004000 false)), (15, .c (.int .i64 i8))], [(10004000, .sl 36 (.pair (.int .i64) (.pair (.int .i64) (.pair (.int .i64) (.pair (.sl (.pair (.int .i64) (.int .i64))) (.int .i64))))) i12 (.deep true .no))]))) (f := impl_MergeProofs_l1 a0) (K := (fun r => k (.tup [.c (.own 900 false), .c (.bool r.1)]) [(900, .sl 36 (.pair (.int .i64) (.pair (.int .i64) (.pair (.int .i64) (.pair (.sl (.pair (.int .i64) (.int .i64))) (.int .i64))))) r.2 (.deep true .no))])) he (leads_ren [(10004000, 10003000)] (l := [(0, .c (.imm (.int .i64) a0)), (8, .c (.own 10004000 false)), (15, .c (.int .i64 ((a0.length:Int) - (1:Int))))]) (st' := [(10004000, .sl 36 (.pair (.int .i64) (.pair (.int .i64) (.pair (.int .i64) (.pair (.sl (.pair (.int .i64) (.int .i64))) (.int .i64))))) i7 (.deep true .no))]) rfl rfl ⟨⟨rfl, rfl⟩, trivial⟩ ⟨.inl rfl, ⟨⟨rfl, rfl⟩, trivial⟩, rfl, trivial⟩) ?_
          rintro ⟨i8, i12⟩ J1 he
          refine And.intro (fun hb => ?_) (fun hb => ?_)
          · have he := ok_t he hb
            have he := ok_rq he
            refine And.intro he.1 ?_
            have he := he.2
            obtain ⟨r11_, hr, he⟩ := ok_bind he
            refine ⟨r11_, hr, ?_⟩
            refine loop_model mixed tys_ok t_impl_MergeProofs (S := Int × (List (Int × Int × Int × (List (Int × Int)) × Int)) × (List (List Int))) (I := (fun (i13, i14, i15) => (envOf [(0, .c (.imm (.int .i64) a0)), (8, .c (.own 10006000 false)), (15, .c (.int .i64 i8)), (79, .c (.own 10006001 false)), (80, .c (.int .i64 (r11_.length:Int))), (81, .c (.int .i64 i13))], [(10006000, .sl 36 (.pair (.int .i64) (.pair (.int .i64) (.pair (.int .i64) (.pair (.sl (.pair (.int .i64) (.int .i64))) (.int .i64))))) i14 (.deep true .no)), (10006001, .sl 23 (.sl (.int .i64)) i15 (.deep true .no))]))) (f := impl_MergeProofs_l2 i8 r11_) (K := (LK J1 (fun r => k (.tup [.c (.own 900 false), .c (.bool r.1)]) [(900, .sl 36 (.pair (.int .i64) (.pair (.int .i64) (.pair (.int .i64) (.pair (.sl (.pair (.int .i64) (.int .i64))) (.int .i64))))) r.2 (.deep true .no))]))) he (leads_ren [(10006000, 10004000), (10006001, 80900)] (l := [(0, .c (.imm (.int .i64) a0)), (8, .c (.own 10006000 false)), (15, .c (.int .i64 i8)), (79, .c (.own 10006001 false)), (80, .c (.int .i64 (r11_.length:Int))), (81, .c (.int .i64 (0:Int)))]) (st' := [(10006000, .sl 36 (.pair (.int .i64) (.pair (.int .i64) (.pair (.int .i64) (.pair (.sl (.pair (.int .i64) (.int .i64))) (.int .i64))))) i12 (.deep true .no)), (10006001, .sl 23 (.sl (.int .i64)) r11_ (.deep true .no))]) rfl rfl ⟨⟨rfl, rfl⟩, ⟨rfl, rfl⟩, trivial⟩ ⟨.inl rfl, ⟨⟨rfl, rfl⟩, trivial⟩, rfl, ⟨⟨rfl, rfl⟩, trivial⟩, rfl, rfl, trivial⟩) ?_
            rintro ⟨i13, i14, i15⟩ J2 he
            refine And.intro (fun hb => ?_) (fun hb => ?_)
            · have he := ok_t he hb
              have he := ok_rq he
              refine And.intro he.1 ?_
              have he := he.2
              obtain ⟨r14_, hr, he⟩ := ok_bind he
              refine ⟨r14_, hr, ?_⟩
              obtain ⟨r15_, hr, he⟩ := ok_bind he
              refine ⟨r15_, hr, ?_⟩
              have he := ok_rq he
              refine And.intro he.1 ?_
              have he := he.2
              have he := ok_rq he
              refine And.intro he.1 ?_
              have he := he.2
              have he := ok_some he
              exact ⟨((i13 + (1:Int)), (i14 ++ [((7:Int), ((0:Int), ((0:Int), (r15_.2.2, r15_.2.1))))]), (i15.set i13.toNat (i15.getD i13.toNat []))), he, ((leads_close [10006001] rfl).trans (leads_ren [(10006000, 95)] (l := [(0, .c (.imm (.int .i64) a0)), (8, .c (.own 10006000 false)), (15, .c (.int .i64 i8)), (79, .c (.own 10006001 false)), (80, .c (.int .i64 (r11_.length:Int))), (81, .c (.int .i64 (i13 + (1:Int))))]) (st' := [(10006000, .sl 36 (.pair (.int .i64) (.pair (.int .i64) (.pair (.int .i64) (.pair (.sl (.pair (.int .i64) (.int .i64))) (.int .i64))))) (i14 ++ [((7:Int), ((0:Int), ((0:Int), (r15_.2.2, r15_.2.1))))]) (.deep true .no)), (10006001, .sl 23 (.sl (.int .i64)) (i15.set i13.toNat (i15.getD i13.toNat [])) (.deep true .no))]) rfl rfl (by exact ⟨⟨rfl, rfl⟩, ⟨rfl, rfl⟩, trivial⟩) (by exact ⟨.inl rfl, ⟨⟨rfl, rfl⟩, trivial⟩, rfl, ⟨⟨rfl, rfl⟩, trivial⟩, rfl, rfl, trivial⟩)))⟩
            · have he := ok_f he hb
              have he := ok_rq he
              refine And.intro he.1 ?_
              have he := he.2
              have he := ok_some he
              exact ⟨((i8 - (1:Int)), i14), he, (leads_ren [(10004000, 10006000)] (l := [(0, .c (.imm (.int .i64) a0)), (8, .c (.own 10004000 false)), (15, .c (.int .i64 (i8 - (1:Int))))]) (st' := [(10004000, .sl 36 (.pair (.int .i64) (.pair (.int .i64) (.pair (.int .i64) (.pair (.sl (.pair (.int .i64) (.int .i64))) (.int .i64))))) i14 (.deep true .no))]) rfl rfl ⟨⟨rfl, rfl⟩, trivial⟩ ⟨.inl rfl, ⟨⟨rfl, rfl⟩, trivial⟩, rfl, trivial⟩)⟩
          · have he := ok_f he hb
            exact ⟨i12, ok_up he, (leads_ren [(10007000, 10004000)] (l := [(8, .c (.own 10007000 false))]) (st' := [(10007000, .sl 36 (.pair (.int .i64) (.pair (.int .i64) (.pair (.int .i64) (.pair (.sl (.pair (.int .i64) (.int .i64))) (.int .i64))))) i12 (.deep true .no))]) rfl rfl ⟨⟨rfl, rfl⟩, trivial⟩ ⟨⟨⟨rfl, rfl⟩, trivial⟩, trivial⟩)⟩
      · skip
        refine loop_model mixed tys_ok t_impl_MergeProofs (S := Int × (List (Int × Int × Int × (List (Int × Int)) × Int)) × (List (List Int))) (I := (fun (i, i3, i4) => (envOf [(0, .c (.imm (.int .i64) a0)), (1, .c (.imm (.sl (.pair (.int .i64) (.pair (.int .i64) (.pair (.int .i64) (.pair (.sl (.pair (.int .i64) (.int .i64))) (.int .i64)))))) a1)), (8, .c (.own 10000000 false)), (34, .c (.own 10000001 false)), (35, .c (.int .i64 (r1_.2.length:Int))), (36, .c (.int .i64 i))], [(10000000, .sl 36 (.pair (.int .i64) (.pair (.int .i64) (.pair (.int .i64) (.pair (.sl (.pair (.int .i64) (.int .i64))) (.int .i64))))) i3 (.deep true .no)), (10000001, .sl 23 (.sl (.int .i64)) i4 (.deep true .no))]))) (f := impl_MergeProofs_l3 a0 a1 r1_) (K := (fun r => k (.tup [.c (.own 900 false), .c (.bool r.1)]) [(900, .sl 36 (.pair (.int .i64) (.pair (.int .i64) (.pair (.int .i64) (.pair (.sl (.pair (.int .i64) (.int .i64))) (.int .i64))))) r.2 (.deep true .no))])) he (leads_ren [(10000001, 23900)] (l := [(0, .c (.imm (.int .i64) a0)), (1, .c (.imm (.sl (.pair (.int .i64) (.pair (.int .i64) (.pair (.int .i64) (.pair (.sl (.pair (.int .i64) (.int .i64))) (.int .i64)))))) a1)), (8, .c (.own 10000000 false)), (34, .c (.own 10000001 false)), (35, .c (.int .i64 (r1_.2.length:Int))), (36, .c (.int .i64 (0:Int)))]) (st' := [(10000000, .sl 36 (.pair (.int .i64) (.pair (.int .i64) (.pair (.int .i64) (.pair (.sl (.pair (.int .i64) (.int .i64))) (.int .i64))))) ([] : List (Int × Int × Int × (List (Int × Int)) × Int)) (.deep true .no)), (10000001, .sl 23 (.sl (.int .i64)) r1_.2 (.deep true .no))]) rfl rfl ⟨trivial, ⟨rfl, rfl⟩, trivial⟩ ⟨.inl rfl, .inl rfl, ⟨rfl, trivial⟩, ⟨⟨rfl, rfl⟩, trivial⟩, rfl, rfl, trivial⟩) ?_
        rintro ⟨i, i3, i4⟩ J1 he
        refine And.intro (fun hb => ?_) (fun hb => ?_)
        · have he := ok_t he hb
          have he := ok_rq he
          refine And.intro he.1 ?_
          have he := he.2
          have he := ok_rq he
          refine And.intro he.1 ?_
          have he := he.2
          refine And.intro (fun hb => ?_) (fun hb => ?_)
          · have he := ok_t he hb
            have he := ok_some he
            exact ⟨rfl, _, _, ((leads_close [10000001] rfl).trans (leads_ren [] (l := [(4, .c (.own 900 false)), (5, .c (.bool false))]) (st' := [(900, .sl 36 (.pair (.int .i64) (.pair (.int .i64) (.pair (.int .i64) (.pair (.sl (.pair (.int .i64) (.int .i64))) (.int .i64))))) ([] : List (Int × Int × Int × (List (Int × Int)) × Int)) (.deep true .no))]) rfl rfl (by exact ⟨trivial, trivial⟩) (by exact ⟨⟨rfl, trivial⟩, .inr rfl, trivial⟩))), he⟩
          · have he := ok_f he hb
            have he := ok_rq he
            refine And.intro he.1 ?_
            have he := he.2
            refine loop_model mixed tys_ok t_impl_MergeProofs (S := Int × (List (Int × Int × Int × (List (Int × Int)) × Int))) (I := (fun (i5, i6) => (envOf [(0, .c (.imm (.int .i64) a0)), (1, .c (.imm (.sl (.pair (.int .i64) (.pair (.int .i64) (.pair (.int .i64) (.pair (.sl (.pair (.int .i64) (.int .i64))) (.int .i64)))))) a1)), (8, .c (.own 10002000 false)), (10, .c (.own 41000 false)), (34, .c (.own 10000001 false)), (35, .c (.int .i64 (r1_.2.length:Int))), (36, .c (.int .i64 i)), (50, .c (.imm (.pair (.int .i64) (.pair (.int .i64) (.pair (.int .i64) (.pair (.sl (.pair (.int .i64) (.int .i64))) (.int .i64))))) (a1.getD i.toNat []))), (51, .c (.int .i64 ((a1.getD i.toNat []).length:Int))), (52, .c (.int .i64 i5))], [(41000, .sl 0 (.int .i64) (i4.getD i.toNat []) (.deep false .no)), (10000001, .sl 23 (.sl (.int .i64)) i4 (.deep true (.at i.toNat 0 1 41000))), (10002000, .sl 36 (.pair (.int .i64) (.pair (.int .i64) (.pair (.int .i64) (.pair (.sl (.pair (.int .i64) (.int .i64))) (.int .i64))))) i6 (.deep true .no))]))) (f := impl_MergeProofs_l4 a1 i i4) (K := (LK J1 (fun r => k (.tup [.c (.own 900 false), .c (.bool r.1)]) [(900, .sl 36 (.pair (.int .i64) (.pair (.int .i64) (.pair (.int .i64) (.pair (.sl (.pair (.int .i64) (.int .i64))) (.int .i64))))) r.2 (.deep true .no))]))) he (leads_ren [(10002000, 10000000)] (l := [(0, .c (.imm (.int .i64) a0)), (1, .c (.imm (.sl (.pair (.int .i64) (.pair (.int .i64) (.pair (.int .i64) (.pair (.sl (.pair (.int .i64) (.int .i64))) (.int .i64)))))) a1)), (8, .c (.own 10002000 false)), (10, .c (.own 41000 false)), (34, .c (.own 10000001 false)), (35, .c (.int .i64 (r1_.2.length:Int))), (36, .c (.int .i64 i)), (50, .c (.imm (.pair (.int .i64) (.pair (.int .i64) (.pair (.int .i64) (.pair (.sl (.pair (.int .i64) (.int .i64))) (.int .i64))))) (a1.getD i.toNat []))), (51, .c (.int .i64 ((a1.getD i.toNat []).length:Int))), (52, .c (.int .i64 (0:Int)))]) (st' := [(41000, .sl 0 (.int .i64) (i4.getD i.toNat []) (.deep false .no)), (10000001, .sl 23 (.sl (.int .i64)) i4 (.deep true (.at i.toNat 0 1 41000))), (10002000, .sl 36 (.pair (.int .i64) (.pair (.int .i64) (.pair (.int .i64) (.pair (.sl (.pair (.int .i64) (.int .i64))) (.int .i64))))) i3 (.deep true .no))]) rfl rfl ⟨⟨rfl, rfl⟩, ⟨rfl, rfl⟩, ⟨rfl, rfl⟩, trivial⟩ ⟨.inl rfl, .inl rfl, ⟨⟨rfl, rfl⟩, trivial⟩, ⟨⟨rfl, rfl⟩, trivial⟩, ⟨⟨rfl, rfl⟩, trivial⟩, rfl, rfl, .inl rfl, rfl, rfl, trivial⟩) ?_
            rintro ⟨i5, i6⟩ J2 he
            refine And.intro (fun hb => ?_) (fun hb => ?_)
            · have he := ok_t he hb
              have he := ok_rq he
              refine And.intro he.1 ?_
              have he := he.2
              obtain ⟨r5_, hr, he⟩ := ok_bind he
              refine ⟨r5_, hr, ?_⟩
              refine And.intro (fun hb => ?_) (fun hb => ?_)
              · have he := ok_t he hb
                have he := ok_rq he
                refine And.intro he.1 ?_
                have he := he.2
                have he := ok_rq he
                refine And.intro he.1 ?_
                have he := he.2
                have he := ok_some he
                exact ⟨((i5 + (1:Int)), (i6 ++ [(r5_.2.1, (r5_.2.2.1, (r5_.2.2.2.1, (r5_.2.2.2.2.2, r5_.2.2.2.2.1))))])), he, (leads_ren [(10002000, 66)] (l := [(0, .c (.imm (.int .i64) a0)), (1, .c (.imm (.sl (.pair (.int .i64) (.pair (.int .i64) (.pair (.int .i64) (.pair (.sl (.pair (.int .i64) (.int .i64))) (.int .i64)))))) a1)), (8, .c (.own 10002000 false)), (10, .c (.own 41000 false)), (34, .c (.own 10000001 false)), (35, .c (.int .i64 (r1_.2.length:Int))), (36, .c (.int .i64 i)), (50, .c (.imm (.pair (.int .i64) (.pair (.int .i64) (.pair (.int .i64) (.pair (.sl (.pair (.int .i64) (.int .i64))) (.int .i64))))) (a1.getD i.toNat []))), (51, .c (.int .i64 ((a1.getD i.toNat []).length:Int))), (52, .c (.int .i64 (i5 + (1:Int))))]) (st' := [(41000, .sl 0 (.int .i64) (i4.getD i.toNat []) (.deep false .no)), (10000001, .sl 23 (.sl (.int .i64)) i4 (.deep true (.at i.toNat 0 1 41000))), (10002000, .sl 36 (.pair (.int .i64) (.pair (.int .i64) (.pair (.int .i64) (.pair (.sl (.pair (.int .i64) (.int .i64))) (.int .i64))))) (i6 ++ [(r5_.2.1, (r5_.2.2.1, (r5_.2.2.2.1, (r5_.2.2.2.2.2, r5_.2.2.2.2.1))))]) (.deep true .no))]) rfl rfl ⟨⟨rfl, rfl⟩, ⟨rfl, rfl⟩, ⟨rfl, rfl⟩, trivial⟩ ⟨.inl rfl, .inl rfl, ⟨⟨rfl, rfl⟩, trivial⟩, ⟨⟨rfl, rfl⟩, trivial⟩, ⟨⟨rfl, rfl⟩, trivial⟩, rfl, rfl, .inl rfl, rfl, rfl, trivial⟩)⟩
              · have he := ok_f he hb
                have he := ok_rq he
                refine And.intro he.1 ?_
                have he := he.2
                have he := ok_some he
                exact ⟨((i5 + (1:Int)), i6), he, (leads_ren [] (l := [(0, .c (.imm (.int .i64) a0)), (1, .c (.imm (.sl (.pair (.int .i64) (.pair (.int .i64) (.pair (.int .i64) (.pair (.sl (.pair (.int .i64) (.int .i64))) (.int .i64)))))) a1)), (8, .c (.own 10002000 false)), (10, .c (.own 41000 false)), (34, .c (.own 10000001 false)), (35, .c (.int .i64 (r1_.2.length:Int))), (36, .c (.int .i64 i)), (50, .c (.imm (.pair (.int .i64) (.pair (.int .i64) (.pair (.int .i64) (.pair (.sl (.pair (.int .i64) (.int .i64))) (.int .i64))))) (a1.getD i.toNat []))), (51, .c (.int .i64 ((a1.getD i.toNat []).length:Int))), (52, .c (.int .i64 (i5 + (1:Int))))]) (st' := [(41000, .sl 0 (.int .i64) (i4.getD i.toNat []) (.deep false .no)), (10000001, .sl 23 (.sl (.int .i64)) i4 (.deep true (.at i.toNat 0 1 41000))), (10002000, .sl 36 (.pair (.int .i64) (.pair (.int .i64) (.pair (.int .i64) (.pair (.sl (.pair (.int .i64) (.int .i64))) (.int .i64))))) i6 (.deep true .no))]) rfl rfl ⟨⟨rfl, rfl⟩, ⟨rfl, rfl⟩, ⟨rfl, rfl⟩, trivial⟩ ⟨.inl rfl, .inl rfl, ⟨⟨rfl, rfl⟩, trivial⟩, ⟨⟨rfl, rfl⟩, trivial⟩, ⟨⟨rfl, rfl⟩, trivial⟩, rfl, rfl, .inl rfl, rfl, rfl, trivial⟩)⟩
            · have he := ok_f he hb
              have he := ok_rq he
              refine And.intro he.1 ?_
              have he := he.2
              have he := ok_some he
              exact ⟨((i + (1:Int)), i6, (i4.set i.toNat (i4.getD i.toNat []))), he, ((leads_close [10000001] rfl).trans (leads_ren [(10000000, 10002000)] (l := [(0, .c (.imm (.int .i64) a0)), (1, .c (.imm (.sl (.pair (.int .i64) (.pair (.int .i64) (.pair (.int .i64) (.pair (.sl (.pair (.int .i64) (.int .i64))) (.int .i64)))))) a1)), (8, .c (.own 10000000 false)), (34, .c (.own 10000001 false)), (35, .c (.int .i64 (r1_.2.length:Int))), (36, .c (.int .i64 (i + (1:Int))))]) (st' := [(10000000, .sl 36 (.pair (.int .i64) (.pair (.int .i64) (.pair (.int .i64) (.pair (.sl (.pair (.int .i64) (.int .i64))) (.int .i64))))) i6 (.deep true .no)), (10000001, .sl 23 (.sl (.int .i64)) (i4.set i.toNat (i4.getD i.toNat [])) (.deep true .no))]) rfl rfl (by exact ⟨⟨rfl, rfl⟩, ⟨rfl, rfl⟩, trivial⟩) (by exact ⟨.inl rfl, .inl rfl, ⟨⟨rfl, rfl⟩, trivial⟩, ⟨⟨rfl, rfl⟩, trivial⟩, rfl, rfl, trivial⟩)))⟩
        · have he := ok_f he hb
          exact ⟨i3, ok_up he, (leads_ren [(10003000, 10000000)] (l := [(0, .c (.imm (.int .i64) a0)), (8, .c (.own 10003000 false))]) (st' := [(10003000, .sl 36 (.pair (.int .i64) (.pair (.int .i64) (.pair (.int .i64) (.pair (.sl (.pair (.int .i64) (.int .i64))) (.int .i64))))) i3 (.deep true .no))]) rfl rfl ⟨⟨rfl, rfl⟩, trivial⟩ ⟨.inl rfl, ⟨⟨rfl, rfl⟩, trivial⟩, trivial⟩)⟩
  · have he := ok_t he hb
    have he := ok_some he
    exact ⟨rfl, _, _, (leads_ren [] (l := [(4, .c (.own 900 false)), (5, .c (.bool false))]) (st' := [(900, .sl 36 (.pair (.int .i64) (.pair (.int .i64) (.pair (.int .i64) (.pair (.sl (.pair (.int .i64) (.int .i64))) (.int .i64))))) ([] : List (Int × Int × Int × (List (Int × Int)) × Int)) (.deep true .no))]) rfl rfl ⟨trivial, trivial⟩ ⟨⟨rfl, trivial⟩, .inr rfl, trivial⟩), he⟩

noncomputable def c_spec_l12Clause : Con := fun args st => match args, st with
  | [.agg [.imm (.pair (.int .i64) (.int .i64)) c__0, .int .i64 c__1]], [] => .opt (Bool × (List Int)) (spec_l12Clause (c__0, c__1)) (fun r => .ret (.tup [.c (.own 900 false), .c (.bool r.1)]) [(900, .sl 3 (.int .i64) r.2 .shallow)])
  | _, _ => .fail

noncomputable def C_spec_l12Clause : Cfg := { y := tys, n := 39, h := 0, tab := [(48, c_spec_ConstraintValid)], cut := [8], hand := [], good := [], deep := [], sched := [(8, (.first 0 (.alt 1 (.alt 2 (.first 3 (.first 4 (.first 8 (.alt 5 (.first 6 (.first 7 (.first 9 .done))) .stop)))) .stop) .stop)))] }

theorem t_spec_l12Clause : TabOk Try.prog C_spec_l12Clause := by
  refine tabOk_of ?_
  simp only [C_spec_l12Clause, List.forall_mem_cons]
  exact ⟨k_spec_ConstraintValid, fun p h => by cases h⟩

theorem k_spec_l12Clause : Entry Try.prog 43 c_spec_l12Clause := by
  refine entry_by (C := C_spec_l12Clause) mixed tys_ok t_spec_l12Clause (fn := Try.f43) (c := bd Try.f43) (by kernel_rfl) (by kernel_rfl) (by kernel_rfl) (by kernel_rfl) ?_
  intro args st k he
  unfold c_spec_l12Clause at he
  split at he
  rotate_left
  · exact he.elim
  rename_i c__0 c__1
  have he : Ok (spec_l12Clause (c__0, c__1)) (fun r => k (.tup [.c (.own 900 false), .c (.bool r.1)]) [(900, .sl 3 (.int .i64) r.2 .shallow)]) := he
  refine ⟨rfl, rfl, ?_⟩
  refine seq_model mixed tys_ok t_spec_l12Clause (S := (List Int)) (I := (fun out1 => (envOf [(1, .c (.ptr 10001000 0)), (4, .c (.own 10001001 false))], [(10001000, .rc [.imm (.pair (.int .i64) (.int .i64)) (c__0, c__1).1, .int .i64 (c__0, c__1).2]), (10001001, .sl 3 (.int .i64) out1 .shallow)]))) (B := fun s => Ok (spec_l12Clause_j1 (c__0, c__1) s) (fun r => k (.tup [.c (.own 900 false), .c (.bool r.1)]) [(900, .sl 3 (.int .i64) r.2 .shallow)])) ?_ ?_
  · rintro out1 he
    refine And.intro (by kernel_rfl) ?_
    refine And.intro ?_ trivial
    refine And.intro ?_ trivial
    obtain ⟨r2_, hr, he⟩ := ok_bind he
    refine ⟨r2_, hr, ?_⟩
    refine And.intro (fun hb => ?_) (fun hb => ?_)
    · have he := ok_t he hb
      refine And.intro ?_ trivial
      have he := ok_some he
      exact ⟨rfl, _, _, (leads_ren [(900, 10001001)] (l := [(2, .c (.own 900 false)), (3, .c (.bool ((c__0, c__1).2 == (1:Int))))]) (st' := [(900, .sl 3 (.int .i64) out1 .shallow)]) rfl rfl ⟨⟨rfl, rfl⟩, trivial⟩ ⟨⟨⟨rfl, rfl⟩, trivial⟩, .inl rfl, trivial⟩), he⟩
    · have he := ok_f he hb
      refine And.intro ?_ trivial
      have he := ok_some he
      exact ⟨rfl, _, _, (leads_ren [(900, 10001001)] (l := [(2, .c (.own 900 false)), (3, .c (.bool false))]) (st' := [(900, .sl 3 (.int .i64) out1 .shallow)]) rfl rfl ⟨⟨rfl, rfl⟩, trivial⟩ ⟨⟨⟨rfl, rfl⟩, trivial⟩, .inr rfl, trivial⟩), he⟩
  · skip
    refine loop_model mixed tys_ok t_spec_l12Clause (S := Int × (List Int)) (I := (fun (i, out) => (envOf [(1, .c (.ptr 10000000 0)), (4, .c (.own 10000001 false)), (5, .c (.int .i64 i))], [(10000000, .rc [.imm (.pair (.int .i64) (.int .i64)) (c__0, c__1).1, .int .i64 (c__0, c__1).2]), (10000001, .sl 3 (.int .i64) out .shallow)]))) (f := spec_l12Clause_l1 (c__0, c__1)) (K := (fun r => k (.tup [.c (.own 900 false), .c (.bool r.1)]) [(900, .sl 3 (.int .i64) r.2 .shallow)])) he (leads_ren [(10000000, 1), (10000001, 6)] (l := [(1, .c (.ptr 10000000 0)), (4, .c (.own 10000001 false)), (5, .c (.int .i64 (0:Int)))]) (st' := [(10000000, .rc [.imm (.pair (.int .i64) (.int .i64)) (c__0, c__1).1, .int .i64 (c__0, c__1).2]), (10000001, .sl 3 (.int .i64) ([] : List Int) .shallow)]) rfl rfl ⟨⟨.inl rfl, rfl, trivial⟩, ⟨rfl, rfl⟩, trivial⟩ ⟨⟨⟨rfl, rfl⟩, rfl⟩, ⟨⟨rfl, rfl⟩, trivial⟩, rfl, trivial⟩) ?_
    rintro ⟨i, out⟩ J1 he
    refine And.intro (fun hb => ?_) (fun hb => ?_)
    · have he := ok_t he hb
      have he := ok_rq he
      refine And.intro he.1 ?_
      have he := he.2
      refine And.intro (fun hb => ?_) (fun hb => ?_)
      · have he := ok_t he hb
        have he := ok_some he
        exact ⟨rfl, _, _, (leads_ren [(900, 21)] (l := [(2, .c (.own 900 false)), (3, .c (.bool false))]) (st' := [(900, .sl 3 (.int .i64) ([] : List Int) .shallow)]) rfl rfl ⟨⟨rfl, rfl⟩, trivial⟩ ⟨⟨⟨rfl, rfl⟩, trivial⟩, .inr rfl, trivial⟩), he⟩
      · have he := ok_f he hb
        have he := ok_rq he
        refine And.intro he.1 ?_
        have he := he.2
        have he := ok_rq he
        refine And.intro he.1 ?_
        have he := he.2
        have he := ok_rq he
        refine And.intro he.1 ?_
        have he := he.2
        have he := ok_some he
        exact ⟨((i + (1:Int)), (out ++ [((c__0, c__1).1.getD i.toNat (0, 0)).2])), he, (leads_ren [(10000001, 30)] (l := [(1, .c (.ptr 10000000 0)), (4, .c (.own 10000001 false)), (5, .c (.int .i64 (i + (1:Int))))]) (st' := [(10000000, .rc [.imm (.pair (.int .i64) (.int .i64)) (c__0, c__1).1, .int .i64 (c__0, c__1).2]), (10000001, .sl 3 (.int .i64) (out ++ [((c__0, c__1).1.getD i.toNat (0, 0)).2]) .shallow)]) rfl rfl ⟨⟨.inl rfl, rfl, trivial⟩, ⟨rfl, rfl⟩, trivial⟩ ⟨⟨⟨rfl, rfl⟩, rfl⟩, ⟨⟨rfl, rfl⟩, trivial⟩, rfl, trivial⟩)⟩
    · have he := ok_f he hb
      exact ⟨out, ok_up he, (leads_ren [(10001000, 10000000), (10001001, 10000001)] (l := [(1, .c (.ptr 10001000 0)), (4, .c (.own 10001001 false))]) (st' := [(10001000, .rc [.imm (.pair (.int .i64) (.int .i64)) (c__0, c__1).1, .int .i64 (c__0, c__1).2]), (10001001, .sl 3 (.int .i64) out .shallow)]) rfl rfl ⟨⟨.inl rfl, rfl, trivial⟩, ⟨rfl, rfl⟩, trivial⟩ ⟨⟨⟨rfl, rfl⟩, rfl⟩, ⟨⟨rfl, rfl⟩, trivial⟩, trivial⟩)⟩

noncomputable def c_spec_l12Lift : Con := fun args st => match args, st with
  | [.agg [.int .i64 s__0, .int .i64 s__1, .int .i64 s__2, .imm (.pair (.int .i64) (.int .i64)) s__3, .int .i64 s__4], .c (.imm (.int .i64) cube)], [] => .opt (Bool × Int × Int × Int × Int × (List (Int × Int))) (spec_l12Lift (s__0, (s__1, (s__2, (s__3, s__4)))) cube) (fun r => .ret (.tup [.agg [.int .i64 r.2.1, .int .i64 r.2.2.1, .int .i64 r.2.2.2.1, .own 901 false, .int .i64 r.2.2.2.2.1], .c (.bool r.1)]) [(900, .rc [.int .i64 r.2.1, .int .i64 r.2.2.1, .int .i64 r.2.2.2.1, .own 901 false, .int .i64 r.2.2.2.2.1]), (901, .sl 63 (.pair (.int .i64) (.int .i64)) r.2.2.2.2.2 .shallow)])
  | _, _ => .fail

noncomputable def C_spec_l12Lift : Cfg := { y := tys, n := 59, h := 0, tab := [(43, c_spec_l12Clause), (44, c_spec_ClauseOf)], cut := [8], hand := [], good := [], deep := [], sched := [] }

theorem t_spec_l12Lift : TabOk Try.prog C_spec_l12Lift := by
  refine tabOk_of ?_
  simp only [C_spec_l12Lift, List.forall_mem_cons]
  exact ⟨k_spec_l12Clause, k_spec_ClauseOf, fun p h => by cases h⟩

theorem k_spec_l12Lift : Entry Try.prog 23 c_spec_l12Lift := by
  refine entry_by (C := C_spec_l12Lift) mixed tys_ok t_spec_l12Lift (fn := Try.f23) (c := bd Try.f23) (by kernel_rfl) (by kernel_rfl) (by kernel_rfl) (by kernel_rfl) ?_
  intro args st k he
  unfold c_spec_l12Lift at he
  split at he
  rotate_left
  · exact he.elim
  rename_i s__0 s__1 s__2 s__3 s__4 cube
  have he : Ok (spec_l12Lift (s__0, (s__1, (s__2, (s__3, s__4)))) cube) (fun r => k (.tup [.agg [.int .i64 r.2.1, .int .i64 r.2.2.1, .int .i64 r.2.2.2.1, .own 901 false, .int .i64 r.2.2.2.2.1], .c (.bool r.1)]) [(900, .rc [.int .i64 r.2.1, .int .i64 r.2.2.1, .int .i64 r.2.2.2.1, .own 901 false, .int .i64 r.2.2.2.2.1]), (901, .sl 63 (.pair (.int .i64) (.int .i64)) r.2.2.2.2.2 .shallow)]) := he
  refine ⟨rfl, rfl, ?_⟩
  obtain ⟨r1_, hr, he⟩ := ok_bind he
  refine ⟨r1_, hr, ?_⟩
  refine And.intro (fun hb => ?_) (fun hb => ?_)
  · have he := ok_f he hb
    refine And.intro (fun hb => ?_) (fun hb => ?_)
    · have he := ok_f he hb
      refine And.intro (fun hb => ?_) (fun hb => ?_)
      · have he := ok_f he hb
        refine And.intro (fun hb => ?_) (fun hb => ?_)
        · have he := ok_t he hb
          have he := ok_some he
          exact ⟨rfl, _, _, (leads_ren [(900, 4)] (l := [(4, .c (.ptr 900 0)), (5, .c (.bool false))]) (st' := [(900, .rc [.int .i64 (0:Int), .int .i64 (0:Int), .int .i64 (0:Int), .own 901 false, .int .i64 (0:Int)]), (901, .sl 63 (.pair (.int .i64) (.int .i64)) ([] : List (Int × Int)) .shallow)]) rfl rfl ⟨⟨rfl, rfl, rfl, ⟨rfl, trivial⟩, rfl, trivial⟩, trivial, trivial⟩ ⟨⟨⟨rfl, rfl⟩, rfl⟩, .inr rfl, trivial⟩), he⟩
        · have he := ok_f he hb
          refine seq_model mixed tys_ok t_spec_l12Lift (S := (List Int)) (I := (fun lits1 => (envOf [(4, .c (.ptr 10001000 0)), (6, .c (.own 10001001 false))], [(10001000, .rc [.int .i64 (0:Int), .int .i64 (0:Int), .int .i64 (0:Int), .nil, .int .i64 (0:Int)]), (10001001, .sl 3 (.int .i64) lits1 .shallow)]))) (B := fun s => Ok (spec_l12Lift_j1 s) (fun r => k (.tup [.agg [.int .i64 r.2.1, .int .i64 r.2.2.1, .int .i64 r.2.2.2.1, .own 901 false, .int .i64 r.2.2.2.2.1], .c (.bool r.1)]) [(900, .rc [.int .i64 r.2.1, .int .i64 r.2.2.1, .int .i64 r.2.2.2.1, .own 901 false, .int .i64 r.2.2.2.2.1]), (901, .sl 63 (.pair (.int .i64) (.int .i64)) r.2.2.2.2.2 .shallow)])) ?_ ?_
          · rintro lits1 he
            obtain ⟨r2_, hr, he⟩ := ok_bind he
            refine ⟨r2_, hr, ?_⟩
            refine And.intro (fun hb => ?_) (fun hb => ?_)
            · have he := ok_t he hb
              have he := ok_some he
              exact ⟨rfl, _, _, (leads_ren [(900, 10001000)] (l := [(4, .c (.ptr 900 0)), (5, .c (.bool false))]) (st' := [(900, .rc [.int .i64 (0:Int), .int .i64 (0:Int), .int .i64 (0:Int), .own 901 false, .int .i64 (0:Int)]), (901, .sl 63 (.pair (.int .i64) (.int .i64)) ([] : List (Int × Int)) .shallow)]) rfl rfl ⟨⟨rfl, rfl, rfl, ⟨rfl, trivial⟩, rfl, trivial⟩, trivial, trivial⟩ ⟨⟨⟨rfl, rfl⟩, rfl⟩, .inr rfl, trivial⟩), he⟩
            · have he := ok_f he hb
              have he := ok_some he
              exact ⟨rfl, _, _, (leads_ren [(900, 10001000), (901, 52901)] (l := [(4, .c (.ptr 900 0)), (5, .c (.bool true))]) (st' := [(900, .rc [.int .i64 (7:Int), .int .i64 (0:Int), .int .i64 (0:Int), .own 901 false, .int .i64 r2_.2.1]), (901, .sl 63 (.pair (.int .i64) (.int .i64)) r2_.2.2 .shallow)]) rfl rfl ⟨⟨rfl, rfl, rfl, ⟨⟨rfl, rfl⟩, trivial⟩, rfl, trivial⟩, ⟨rfl, rfl⟩, trivial⟩ ⟨⟨⟨rfl, rfl⟩, rfl⟩, .inr rfl, trivial⟩), he⟩
          · skip
            refine loop_model mixed tys_ok t_spec_l12Lift (S := Int × (List Int)) (I := (fun (i, lits) => (envOf [(1, .c (.imm (.int .i64) cube)), (4, .c (.ptr 10000000 0)), (6, .c (.own 10000001 false)), (8, .c (.int .i64 i))], [(10000000, .rc [.int .i64 (0:Int), .int .i64 (0:Int), .int .i64 (0:Int), .nil, .int .i64 (0:Int)]), (10000001, .sl 3 (.int .i64) lits .shallow)]))) (f := spec_l12Lift_l1 cube) (K := (fun r => k (.tup [.agg [.int .i64 r.2.1, .int .i64 r.2.2.1, .int .i64 r.2.2.2.1, .own 901 false, .int .i64 r.2.2.2.2.1], .c (.bool r.1)]) [(900, .rc [.int .i64 r.2.1, .int .i64 r.2.2.1, .int .i64 r.2.2.2.1, .own 901 false, .int .i64 r.2.2.2.2.1]), (901, .sl 63 (.pair (.int .i64) (.int .i64)) r.2.2.2.2.2 .shallow)])) he (leads_ren [(10000000, 4), (10000001, 15900)] (l := [(1, .c (.imm (.int .i64) cube)), (4, .c (.ptr 10000000 0)), (6, .c (.own 10000001 false)), (8, .c (.int .i64 (0:Int)))]) (st' := [(10000000, .rc [.int .i64 (0:Int), .int .i64 (0:Int), .int .i64 (0:Int), .nil, .int .i64 (0:Int)]), (10000001, .sl 3 (.int .i64) r1_.2 .shallow)]) rfl rfl ⟨⟨rfl, rfl, rfl, rfl, rfl, trivial⟩, ⟨rfl, rfl⟩, trivial⟩ ⟨.inl rfl, ⟨⟨rfl, rfl⟩, rfl⟩, ⟨⟨rfl, rfl⟩, trivial⟩, rfl, trivial⟩) ?_
            rintro ⟨i, lits⟩ J1 he
            refine And.intro (fun hb => ?_) (fun hb => ?_)
            · have he := ok_t he hb
              have he := ok_rq he
              refine And.intro he.1 ?_
              have he := he.2
              have he := ok_rq he
              refine And.intro he.1 ?_
              have he := he.2
              have he := ok_rq he
              refine And.intro he.1 ?_
              have he := he.2
              have he := ok_rq he
              refine And.intro he.1 ?_
              have he := he.2
              have he := ok_some he
              exact ⟨((i + (1:Int)), (lits ++ [(0 - (cube.getD i.toNat 0))])), he, (leads_ren [(10000001, 48)] (l := [(1, .c (.imm (.int .i64) cube)), (4, .c (.ptr 10000000 0)), (6, .c (.own 10000001 false)), (8, .c (.int .i64 (i + (1:Int))))]) (st' := [(10000000, .rc [.int .i64 (0:Int), .int .i64 (0:Int), .int .i64 (0:Int), .nil, .int .i64 (0:Int)]), (10000001, .sl 3 (.int .i64) (lits ++ [(0 - (cube.getD i.toNat 0))]) .shallow)]) rfl rfl ⟨⟨rfl, rfl, rfl, rfl, rfl, trivial⟩, ⟨rfl, rfl⟩, trivial⟩ ⟨.inl rfl, ⟨⟨rfl, rfl⟩, rfl⟩, ⟨⟨rfl, rfl⟩, trivial⟩, rfl, trivial⟩)⟩
            · have he := ok_f he hb
              exact ⟨lits, ok_up he, (leads_ren [(10001000, 10000000), (10001001, 10000001)] (l := [(4, .c (.ptr 10001000 0)), (6, .c (.own 10001001 false))]) (st' := [(10001000, .rc [.int .i64 (0:Int), .int .i64 (0:Int), .int .i64 (0:Int), .nil, .int .i64 (0:Int)]), (10001001, .sl 3 (.int .i64) lits .shallow)]) rfl rfl ⟨⟨rfl, rfl, rfl, rfl, rfl, trivial⟩, ⟨rfl, rfl⟩, trivial⟩ ⟨⟨⟨rfl, rfl⟩, rfl⟩, ⟨⟨rfl, rfl⟩, trivial⟩, trivial⟩)⟩
      · have he := ok_t he hb
        have he := ok_some he
        exact ⟨rfl, _, _, (leads_ren [(900, 4)] (l := [(4, .c (.ptr 900 0)), (5, .c (.bool false))]) (st' := [(900, .rc [.int .i64 (0:Int), .int .i64 (0:Int), .int .i64 (0:Int), .own 901 false, .int .i64 (0:Int)]), (901, .sl 63 (.pair (.int .i64) (.int .i64)) ([] : List (Int × Int)) .shallow)]) rfl rfl ⟨⟨rfl, rfl, rfl, ⟨rfl, trivial⟩, rfl, trivial⟩, trivial, trivial⟩ ⟨⟨⟨rfl, rfl⟩, rfl⟩, .inr rfl, trivial⟩), he⟩
    · have he := ok_t he hb
      have he := ok_some he
      exact ⟨rfl, _, _, (leads_ren [(900, 4)] (l := [(4, .c (.ptr 900 0)), (5, .c (.bool false))]) (st' := [(900, .rc [.int .i64 (0:Int), .int .i64 (0:Int), .int .i64 (0:Int), .own 901 false, .int .i64 (0:Int)]), (901, .sl 63 (.pair (.int .i64) (.int .i64)) ([] : List (Int × Int)) .shallow)]) rfl rfl ⟨⟨rfl, rfl, rfl, ⟨rfl, trivial⟩, rfl, trivial⟩, trivial, trivial⟩ ⟨⟨⟨rfl, rfl⟩, rfl⟩, .inr rfl, trivial⟩), he⟩
  · have he := ok_t he hb
    have he := ok_some he
    exact ⟨rfl, _, _, (leads_ren [(900, 4)] (l := [(4, .c (.ptr 900 0)), (5, .c (.bool false))]) (st' := [(900, .rc [.int .i64 (0:Int), .int .i64 (0:Int), .int .i64 (0:Int), .own 901 false, .int .i64 (0:Int)]), (901, .sl 63 (.pair (.int .i64) (.int .i64)) ([] : List (Int × Int)) .shallow)]) rfl rfl ⟨⟨rfl, rfl, rfl, ⟨rfl, trivial⟩, rfl, trivial⟩, trivial, trivial⟩ ⟨⟨⟨rfl, rfl⟩, rfl⟩, .inr rfl, trivial⟩), he⟩

noncomputable def c_spec_l12Join : Con := fun args st => match args, st with
  | [.c (.own 0 false), .c (.imm (.int .i64) vars)], [(0, .sl 36 (.pair (.int .i64) (.pair (.int .i64) (.pair (.int .i64) (.pair (.sl (.pair (.int .i64) (.int .i64))) (.int .i64))))) out (.deep true .no))] => .opt ((List (Int × Int × Int × (List (Int × Int)) × Int))) (spec_l12Join vars out) (fun r => .ret (.c (.own 900 false)) [(0, .dead), (900, .sl 36 (.pair (.int .i64) (.pair (.int .i64) (.pair (.int .i64) (.pair (.sl (.pair (.int .i64) (.int .i64))) (.int .i64))))) r (.deep true .no))])
  | _, _ => .fail

noncomputable def C_spec_l12Join : Cfg := { y := tys, n := 42, h := 1, tab := [(22, c_spec_l12Cubes), (23, c_spec_l12Lift)], cut := [], hand := [], good := [], deep := [39], sched := [] }

theorem t_spec_l12Join : TabOk Try.prog C_spec_l12Join := by
  refine tabOk_of ?_
  simp only [C_spec_l12Join, List.forall_mem_cons]
  exact ⟨k_spec_l12Cubes, k_spec_l12Lift, fun p h => by cases h⟩

theorem k_spec_l12Join : Entry Try.prog 24 c_spec_l12Join := by
  refine entry_by (C := C_spec_l12Join) mixed tys_ok t_spec_l12Join (fn := Try.f24) (c := bd Try.f24) (by kernel_rfl) (by kernel_rfl) (by kernel_rfl) (by kernel_rfl) ?_
  intro args st k he
  unfold c_spec_l12Join at he
  split at he
  rotate_left
  · exact he.elim
  rename_i vars out
  have he : Ok (spec_l12Join vars out) (fun r => k (.c (.own 900 false)) [(0, .dead), (900, .sl 36 (.pair (.int .i64) (.pair (.int .i64) (.pair (.int .i64) (.pair (.sl (.pair (.int .i64) (.int .i64))) (.int .i64))))) r (.deep true .no))]) := he
  refine ⟨rfl, rfl, ?_⟩
  have he := ok_rq he
  refine And.intro he.1 ?_
  have he := he.2
  refine loop_model mixed tys_ok t_spec_l12Join (S := Int × (List (Int × Int × Int × (List (Int × Int)) × Int))) (I := (fun (n, out2) => (envOf [(0, .c (.own 10000000 false)), (1, .c (.imm (.int .i64) vars)), (5, .c (.int .i64 n))], [(0, .dead), (10000000, .sl 36 (.pair (.int .i64) (.pair (.int .i64) (.pair (.int .i64) (.pair (.sl (.pair (.int .i64) (.int .i64))) (.int .i64))))) out2 (.deep true .no))]))) (f := spec_l12Join_l1 vars) (K := (fun r => k (.c (.own 900 false)) [(0, .dead), (900, .sl 36 (.pair (.int .i64) (.pair (.int .i64) (.pair (.int .i64) (.pair (.sl (.pair (.int .i64) (.int .i64))) (.int .i64))))) r (.deep true .no))])) he (leads_ren [(10000000, 0)] (l := [(0, .c (.own 10000000 false)), (1, .c (.imm (.int .i64) vars)), (5, .c (.int .i64 ((vars.length:Int) - (1:Int))))]) (st' := [(0, .dead), (10000000, .sl 36 (.pair (.int .i64) (.pair (.int .i64) (.pair (.int .i64) (.pair (.sl (.pair (.int .i64) (.int .i64))) (.int .i64))))) out (.deep true .no))]) rfl rfl ⟨trivial, ⟨rfl, rfl⟩, trivial⟩ ⟨⟨⟨rfl, rfl⟩, trivial⟩, .inl rfl, rfl, trivial⟩) ?_
  rintro ⟨n, out2⟩ J1 he
  refine And.intro (fun hb => ?_) (fun hb => ?_)
  · have he := ok_t he hb
    have he := ok_rq he
    refine And.intro he.1 ?_
    have he := he.2
    obtain ⟨r4_, hr, he⟩ := ok_bind he
    refine ⟨r4_, hr, ?_⟩
    refine loop_model mixed tys_ok t_spec_l12Join (S := Int × (List (Int × Int × Int × (List (Int × Int)) × Int)) × (List (List Int))) (I := (fun (k_1, out3, cubes1) => (envOf [(0, .c (.own 10002000 false)), (1, .c (.imm (.int .i64) vars)), (5, .c (.int .i64 n)), (6, .c (.own 10002001 false)), (7, .c (.int .i64 k_1))], [(0, .dead), (10002000, .sl 36 (.pair (.int .i64) (.pair (.int .i64) (.pair (.int .i64) (.pair (.sl (.pair (.int .i64) (.int .i64))) (.int .i64))))) out3 (.deep true .no)), (10002001, .sl 23 (.sl (.int .i64)) cubes1 (.deep true .no))]))) (f := spec_l12Join_l2 n) (K := (LK J1 (fun r => k (.c (.own 900 false)) [(0, .dead), (900, .sl 36 (.pair (.int .i64) (.pair (.int .i64) (.pair (.int .i64) (.pair (.sl (.pair (.int .i64) (.int .i64))) (.int .i64))))) r (.deep true .no))]))) he (leads_ren [(10002000, 10000000), (10002001, 21900)] (l := [(0, .c (.own 10002000 false)), (1, .c (.imm (.int .i64) vars)), (5, .c (.int .i64 n)), (6, .c (.own 10002001 false)), (7, .c (.int .i64 (0:Int)))]) (st' := [(0, .dead), (10002000, .sl 36 (.pair (.int .i64) (.pair (.int .i64) (.pair (.int .i64) (.pair (.sl (.pair (.int .i64) (.int .i64))) (.int .i64))))) out2 (.deep true .no)), (10002001, .sl 23 (.sl (.int .i64)) r4_ (.deep true .no))]) rfl rfl ⟨trivial, ⟨rfl, rfl⟩, ⟨rfl, rfl⟩, trivial⟩ ⟨⟨⟨rfl, rfl⟩, trivial⟩, .inl rfl, rfl, ⟨⟨rfl, rfl⟩, trivial⟩, rfl, trivial⟩) ?_
    rintro ⟨k_1, out3, cubes1⟩ J2 he
    refine And.intro (fun hb => ?_) (fun hb => ?_)
    · have he := ok_t he hb
      have he := ok_rq he
      refine And.intro he.1 ?_
      have he := he.2
      obtain ⟨r6_, hr, he⟩ := ok_bind he
      refine ⟨r6_, hr, ?_⟩
      have he := ok_rq he
      refine And.intro he.1 ?_
      have he := he.2
      have he := ok_rq he
      refine And.intro he.1 ?_
      have he := he.2
      have he := ok_some he
      exact ⟨((k_1 + (1:Int)), (out3 ++ [(r6_.2.1, (r6_.2.2.1, (r6_.2.2.2.1, (r6_.2.2.2.2.2, r6_.2.2.2.2.1))))]), (cubes1.set k_1.toNat (cubes1.getD k_1.toNat []))), he, ((leads_close [10002001] rfl).trans (leads_ren [(10002000, 40)] (l := [(0, .c (.own 10002000 false)), (1, .c (.imm (.int .i64) vars)), (5, .c (.int .i64 n)), (6, .c (.own 10002001 false)), (7, .c (.int .i64 (k_1 + (1:Int))))]) (st' := [(0, .dead), (10002000, .sl 36 (.pair (.int .i64) (.pair (.int .i64) (.pair (.int .i64) (.pair (.sl (.pair (.int .i64) (.int .i64))) (.int .i64))))) (out3 ++ [(r6_.2.1, (r6_.2.2.1, (r6_.2.2.2.1, (r6_.2.2.2.2.2, r6_.2.2.2.2.1))))]) (.deep true .no)), (10002001, .sl 23 (.sl (.int .i64)) (cubes1.set k_1.toNat (cubes1.getD k_1.toNat [])) (.deep true .no))]) rfl rfl (by exact ⟨trivial, ⟨rfl, rfl⟩, ⟨rfl, rfl⟩, trivial⟩) (by exact ⟨⟨⟨rfl, rfl⟩, trivial⟩, .inl rfl, rfl, ⟨⟨rfl, rfl⟩, trivial⟩, rfl, trivial⟩)))⟩
    · have he := ok_f he hb
      have he := ok_rq he
      refine And.intro he.1 ?_
      have he := he.2
      have he := ok_some he
      exact ⟨((n - (1:Int)), out3), he, (leads_ren [(10000000, 10002000)] (l := [(0, .c (.own 10000000 false)), (1, .c (.imm (.int .i64) vars)), (5, .c (.int .i64 (n - (1:Int))))]) (st' := [(0, .dead), (10000000, .sl 36 (.pair (.int .i64) (.pair (.int .i64) (.pair (.int .i64) (.pair (.sl (.pair (.int .i64) (.int .i64))) (.int .i64))))) out3 (.deep true .no))]) rfl rfl ⟨trivial, ⟨rfl, rfl⟩, trivial⟩ ⟨⟨⟨rfl, rfl⟩, trivial⟩, .inl rfl, rfl, trivial⟩)⟩
  · have he := ok_f he hb
    have he := ok_some he
    exact ⟨rfl, _, _, (leads_ren [(900, 10000000)] (l := [(4, .c (.own 900 false))]) (st' := [(0, .dead), (900, .sl 36 (.pair (.int .i64) (.pair (.int .i64) (.pair (.int .i64) (.pair (.sl (.pair (.int .i64) (.int .i64))) (.int .i64))))) out2 (.deep true .no))]) rfl rfl ⟨trivial, ⟨rfl, rfl⟩, trivial⟩ ⟨⟨⟨rfl, rfl⟩, trivial⟩, trivial⟩), he⟩

noncomputable def c_spec_MergeProofs : Con := fun args st => match args, st with
  | [.c (.imm (.int .i64) a0), .c (.imm (.sl (.pair (.int .i64) (.pair (.int .i64) (.pair (.int .i64) (.pair (.sl (.pair (.int .i64) (.int .i64))) (.int .i64)))))) a1)], [] => .opt (Bool × (List (Int × Int × Int × (List (Int × Int)) × Int))) (spec_MergeProofs a0 a1) (fun r => .ret (.tup [.c (.own 900 false), .c (.bool r.1)]) [(900, .sl 36 (.pair (.int .i64) (.pair (.int .i64) (.pair (.int .i64) (.pair (.sl (.pair (.int .i64) (.int .i64))) (.int .i64))))) r.2 (.deep true .no))])
  | _, _ => .fail

noncomputable def C_spec_MergeProofs : Cfg := { y := tys, n := 80, h := 0, tab := [(21, c_spec_l12Vars), (22, c_spec_l12Cubes), (23, c_spec_l12Lift), (24, c_spec_l12Join)], cut := [14, 18], hand := [(24, [0])], good := [], deep := [15, 18, 66, 70, 78], sched := [(13, (.first 0 (.first 1 (.first 2 (.first 3 (.first 4 (.first 5 (.first 6 (.first 7 (.first 8 (.first 9 (.alt 10 (.alt 11 (.first 12 (.first 13 (.first 14 (.alt 15 (.alt 16 (.first 17 .done) .stop) .stop)))) (.alt 15 (.alt 11 (.first 12 (.first 13 (.first 14 (.alt 16 (.first 17 .done) .stop)))) .stop) .stop)) (.alt 15 (.alt 10 (.alt 11 (.first 12 (.first 13 (.first 14 (.alt 16 (.first 17 .done) .stop)))) .stop) .stop) .stop)))))))))))))] }

theorem t_spec_MergeProofs : TabOk Try.prog C_spec_MergeProofs := by
  refine tabOk_of ?_
  simp only [C_spec_MergeProofs, List.forall_mem_cons]
  exact ⟨k_spec_l12Vars, k_spec_l12Cubes, k_spec_l12Lift, k_spec_l12Join, fun p h => by cases h⟩

theorem k_spec_MergeProofs : Entry Try.prog 6 c_spec_MergeProofs := by
  refine entry_by (C := C_spec_MergeProofs) mixed tys_ok t_spec_MergeProofs (fn := Try.f6) (c := bd Try.f6) (by kernel_rfl) (by kernel_rfl) (by kernel_rfl) (by kernel_rfl) ?_
  intro args st k he
  unfold c_spec_MergeProofs at he
  split at he
  rotate_left
  · exact he.elim
  rename_i a0 a1
  have he : Ok (spec_MergeProofs a0 a1) (fun r => k (.tup [.c (.own 900 false), .c (.bool r.1)]) [(900, .sl 36 (.pair (.int .i64) (.pair (.int .i64) (.pair (.int .i64) (.pair (.sl (.pair (.int .i64) (.int .i64))) (.int .i64))))) r.2 (.deep true .no))]) := he
  refine ⟨rfl, rfl, ?_⟩
  obtain ⟨r1_, hr, he⟩ := ok_bind he
  refine ⟨r1_, hr, ?_⟩
  refine And.intro (fun hb => ?_) (fun hb => ?_)
  · have he := ok_t he hb
    have he := ok_some he
    exact ⟨rfl, _, _, (leads_ren [(900, 15)] (l := [(4, .c (.own 900 false)), (5, .c (.bool false))]) (st' := [(900, .sl 36 (.pair (.int .i64) (.pair (.int .i64) (.pair (.int .i64) (.pair (.sl (.pair (.int .i64) (.int .i64))) (.int .i64))))) ([] : List (Int × Int × Int × (List (Int × Int)) × Int)) (.deep true .no))]) rfl rfl ⟨⟨rfl, rfl⟩, trivial⟩ ⟨⟨⟨rfl, rfl⟩, trivial⟩, .inr rfl, trivial⟩), he⟩
  · have he := ok_f he hb
    obtain ⟨r2_, hr, he⟩ := ok_bind he
    refine ⟨r2_, hr, ?_⟩
    refine And.intro (fun hb => ?_) (fun hb => ?_)
    · have he := ok_t he hb
      have he := ok_some he
      exact ⟨rfl, _, _, (leads_ren [(900, 18)] (l := [(4, .c (.own 900 false)), (5, .c (.bool false))]) (st' := [(900, .sl 36 (.pair (.int .i64) (.pair (.int .i64) (.pair (.int .i64) (.pair (.sl (.pair (.int .i64) (.int .i64))) (.int .i64))))) ([] : List (Int × Int × Int × (List (Int × Int)) × Int)) (.deep true .no))]) rfl rfl ⟨⟨rfl, rfl⟩, trivial⟩ ⟨⟨⟨rfl, rfl⟩, trivial⟩, .inr rfl, trivial⟩), he⟩
    · have he := ok_f he hb
      refine seq_model mixed tys_ok t_spec_MergeProofs (S := (List (Int × Int × Int × (List (Int × Int)) × Int))) (I := (fun i13 => (envOf [(0, .c (.imm (.int .i64) a0)), (7, .c (.own 10007000 false))], [(10007000, .sl 36 (.pair (.int .i64) (.pair (.int .i64) (.pair (.int .i64) (.pair (.sl (.pair (.int .i64) (.int .i64))) (.int .i64))))) i13 (.deep true .no))]))) (B := fun s => Ok (spec_MergeProofs_j1 a0 s) (fun r => k (.tup [.c (.own 900 false), .c (.bool r.1)]) [(900, .sl 36 (.pair (.int .i64) (.pair (.int .i64) (.pair (.int .i64) (.pair (.sl (.pair (.int .i64) (.int .i64))) (.int .i64))))) r.2 (.deep true .no))])) ?_ ?_
      · rintro i13 he
        obtain ⟨r8_, hr, he⟩ := ok_bind he
        refine ⟨r8_, hr, ?_⟩
        refine And.intro (fun hb => ?_) (fun hb => ?_)
        · have he := ok_t he hb
          have he := ok_some he
          exact ⟨rfl, _, _, (leads_ren [(900, 78)] (l := [(4, .c (.own 900 false)), (5, .c (.bool false))]) (st' := [(900, .sl 36 (.pair (.int .i64) (.pair (.int .i64) (.pair (.int .i64) (.pair (.sl (.pair (.int .i64) (.int .i64))) (.int .i64))))) ([] : List (Int × Int × Int × (List (Int × Int)) × Int)) (.deep true .no))]) rfl rfl ⟨⟨rfl, rfl⟩, trivial⟩ ⟨⟨⟨rfl, rfl⟩, trivial⟩, .inr rfl, trivial⟩), he⟩
        · have he := ok_f he hb
          have he := ok_some he
          exact ⟨rfl, _, _, (leads_ren [(900, 75900)] (l := [(4, .c (.own 900 false)), (5, .c (.bool true))]) (st' := [(900, .sl 36 (.pair (.int .i64) (.pair (.int .i64) (.pair (.int .i64) (.pair (.sl (.pair (.int .i64) (.int .i64))) (.int .i64))))) r8_ (.deep true .no))]) rfl rfl ⟨⟨rfl, rfl⟩, trivial⟩ ⟨⟨⟨rfl, rfl⟩, trivial⟩, .inr rfl, trivial⟩), he⟩
      · skip
        refine loop_model mixed tys_ok t_spec_MergeProofs (S := Int × (List (List Int)) × (List (Int × Int × Int × (List (Int × Int)) × Int))) (I := (fun (i, i6, i7) => (envOf [(0, .c (.imm (.int .i64) a0)), (1, .c (.imm (.sl (.pair (.int .i64) (.pair (.int .i64) (.pair (.int .i64) (.pair (.sl (.pair (.int .i64) (.int .i64))) (.int .i64)))))) a1)), (6, .c (.own 10000000 false)), (7, .c (.own 10000001 false)), (8, .c (.int .i64 i))], [(10000000, .sl 23 (.sl (.int .i64)) i6 (.deep true .no)), (10000001, .sl 36 (.pair (.int .i64) (.pair (.int .i64) (.pair (.int .i64) (.pair (.sl (.pair (.int .i64) (.int .i64))) (.int .i64))))) i7 (.deep true .no))]))) (f := spec_MergeProofs_l1 a0 a1) (K := (fun r => k (.tup [.c (.own 900 false), .c (.bool r.1)]) [(900, .sl 36 (.pair (.int .i64) (.pair (.int .i64) (.pair (.int .i64) (.pair (.sl (.pair (.int .i64) (.int .i64))) (.int .i64))))) r.2 (.deep true .no))])) he (leads_ren [(10000000, 18900), (10000001, 18)] (l := [(0, .c (.imm (.int .i64) a0)), (1, .c (.imm (.sl (.pair (.int .i64) (.pair (.int .i64) (.pair (.int .i64) (.pair (.sl (.pair (.int .i64) (.int .i64))) (.int .i64)))))) a1)), (6, .c (.own 10000000 false)), (7, .c (.own 10000001 false)), (8, .c (.int .i64 (0:Int)))]) (st' := [(10000000, .sl 23 (.sl (.int .i64)) r2_ (.deep true .no)), (10000001, .sl 36 (.pair (.int .i64) (.pair (.int .i64) (.pair (.int .i64) (.pair (.sl (.pair (.int .i64) (.int .i64))) (.int .i64))))) ([] : List (Int × Int × Int × (List (Int × Int)) × Int)) (.deep true .no))]) rfl rfl ⟨⟨rfl, rfl⟩, ⟨rfl, rfl⟩, trivial⟩ ⟨.inl rfl, .inl rfl, ⟨⟨rfl, rfl⟩, trivial⟩, ⟨⟨rfl, rfl⟩, trivial⟩, rfl, trivial⟩) ?_
        rintro ⟨i, i6, i7⟩ J1 he
        refine And.intro (fun hb => ?_) (fun hb => ?_)
        · have he := ok_t he hb
          refine loop_model mixed tys_ok t_spec_MergeProofs (S := Int × (List (List Int)) × (List (Int × Int × Int × (List (Int × Int)) × Int))) (I := (fun (i8, i10, i11) => (envOf [(0, .c (.imm (.int .i64) a0)), (1, .c (.imm (.sl (.pair (.int .i64) (.pair (.int .i64) (.pair (.int .i64) (.pair (.sl (.pair (.int .i64) (.int .i64))) (.int .i64)))))) a1)), (6, .c (.own 10004000 false)), (7, .c (.own 10004001 false)), (8, .c (.int .i64 i)), (9, .c (.int .i64 i8))], [(10004000, .sl 23 (.sl (.int .i64)) i10 (.deep true .no)), (10004001, .sl 36 (.pair (.int .i64) (.pair (.int .i64) (.pair (.int .i64) (.pair (.sl (.pair (.int .i64) (.int .i64))) (.int .i64))))) i11 (.deep true .no))]))) (f := spec_MergeProofs_l2 a1 i) (K := (LK J1 (fun r => k (.tup [.c (.own 900 false), .c (.bool r.1)]) [(900, .sl 36 (.pair (.int .i64) (.pair (.int .i64) (.pair (.int .i64) (.pair (.sl (.pair (.int .i64) (.int .i64))) (.int .i64))))) r.2 (.deep true .no))]))) he (leads_ren [(10004000, 10000000), (10004001, 10000001)] (l := [(0, .c (.imm (.int .i64) a0)), (1, .c (.imm (.sl (.pair (.int .i64) (.pair (.int .i64) (.pair (.int .i64) (.pair (.sl (.pair (.int .i64) (.int .i64))) (.int .i64)))))) a1)), (6, .c (.own 10004000 false)), (7, .c (.own 10004001 false)), (8, .c (.int .i64 i)), (9, .c (.int .i64 (0:Int)))]) (st' := [(10004000, .sl 23 (.sl (.int .i64)) i6 (.deep true .no)), (10004001, .sl 36 (.pair (.int .i64) (.pair (.int .i64) (.pair (.int .i64) (.pair (.sl (.pair (.int .i64) (.int .i64))) (.int .i64))))) i7 (.deep true .no))]) rfl rfl ⟨⟨rfl, rfl⟩, ⟨rfl, rfl⟩, trivial⟩ ⟨.inl rfl, .inl rfl, ⟨⟨rfl, rfl⟩, trivial⟩, ⟨⟨rfl, rfl⟩, trivial⟩, rfl, rfl, trivial⟩) ?_
          rintro ⟨i8, i10, i11⟩ J2 he
          have he := ok_rq he
          refine And.intro he.1 ?_
          have he := he.2
          refine And.intro (fun hb => ?_) (fun hb => ?_)
          · have he := ok_t he hb
            refine seq_model mixed tys_ok t_spec_MergeProofs (S := Bool × Int × Int × Int × Int × (List (Int × Int))) (I := (fun (i12, i_03, i_13, i_23, i_43, i_33) => (envOf [(0, .c (.imm (.int .i64) a0)), (1, .c (.imm (.sl (.pair (.int .i64) (.pair (.int .i64) (.pair (.int .i64) (.pair (.sl (.pair (.int .i64) (.int .i64))) (.int .i64)))))) a1)), (6, .c (.own 10006000 false)), (7, .c (.own 10006001 false)), (8, .c (.int .i64 i)), (9, .c (.int .i64 i8)), (10, .c (.ptr 10006002 0)), (11, .c (.bool i12))], [(10006000, .sl 23 (.sl (.int .i64)) (i10.set i.toNat (i10.getD i.toNat [])) (.deep true .no)), (10006001, .sl 36 (.pair (.int .i64) (.pair (.int .i64) (.pair (.int .i64) (.pair (.sl (.pair (.int .i64) (.int .i64))) (.int .i64))))) i11 (.deep true .no)), (10006002, .rc [.int .i64 i_03, .int .i64 i_13, .int .i64 i_23, .own 10006003 false, .int .i64 i_43]), (10006003, .sl 63 (.pair (.int .i64) (.int .i64)) i_33 .shallow)]))) (B := fun s => Ok (spec_MergeProofs_j2 a1 i i8 i10 i11 s) (LK J2 (LK J1 (fun r => k (.tup [.c (.own 900 false), .c (.bool r.1)]) [(900, .sl 36 (.pair (.int .i64) (.pair (.int .i64) (.pair (.int .i64) (.pair (.sl (.pair (.int .i64) (.int .i64))) (.int .i64))))) r.2 (.deep true .no))])))) ?_ ?_
            · rintro ⟨i12, i_03, i_13, i_23, i_43, i_33⟩ he
              have he := ok_rq he
              refine And.intro he.1 ?_
              have he := he.2
              refine And.intro (fun hb => ?_) (fun hb => ?_)
              · have he := ok_f he hb
                refine And.intro (fun hb => ?_) (fun hb => ?_)
                · have he := ok_t he hb
                  have he := ok_some he
                  exact ⟨rfl, _, _, (leads_ren [(900, 66)] (l := [(4, .c (.own 900 false)), (5, .c (.bool false))]) (st' := [(900, .sl 36 (.pair (.int .i64) (.pair (.int .i64) (.pair (.int .i64) (.pair (.sl (.pair (.int .i64) (.int .i64))) (.int .i64))))) ([] : List (Int × Int × Int × (List (Int × Int)) × Int)) (.deep true .no))]) rfl rfl ⟨⟨rfl, rfl⟩, trivial⟩ ⟨⟨⟨rfl, rfl⟩, trivial⟩, .inr rfl, trivial⟩), he⟩
                · have he := ok_f he hb
                  refine And.intro (fun hb => ?_) (fun hb => ?_)
                  · have he := ok_t he hb
                    have he := ok_rq he
                    refine And.intro he.1 ?_
                    have he := he.2
                    have he := ok_rq he
                    refine And.intro he.1 ?_
                    have he := he.2
                    have he := ok_some he
                    exact ⟨((i8 + (1:Int)), (i10.set i.toNat (i10.getD i.toNat [])), (i11 ++ [(i_03, (i_13, (i_23, (i_33, i_43))))])), he, (leads_ren [(10004000, 10006000), (10004001, 71)] (l := [(0, .c (.imm (.int .i64) a0)), (1, .c (.imm (.sl (.pair (.int .i64) (.pair (.int .i64) (.pair (.int .i64) (.pair (.sl (.pair (.int .i64) (.int .i64))) (.int .i64)))))) a1)), (6, .c (.own 10004000 false)), (7, .c (.own 10004001 false)), (8, .c (.int .i64 i)), (9, .c (.int .i64 (i8 + (1:Int))))]) (st' := [(10004000, .sl 23 (.sl (.int .i64)) (i10.set i.toNat (i10.getD i.toNat [])) (.deep true .no)), (10004001, .sl 36 (.pair (.int .i64) (.pair (.int .i64) (.pair (.int .i64) (.pair (.sl (.pair (.int .i64) (.int .i64))) (.int .i64))))) (i11 ++ [(i_03, (i_13, (i_23, (i_33, i_43))))]) (.deep true .no))]) rfl rfl ⟨⟨rfl, rfl⟩, ⟨rfl, rfl⟩, trivial⟩ ⟨.inl rfl, .inl rfl, ⟨⟨rfl, rfl⟩, trivial⟩, ⟨⟨rfl, rfl⟩, trivial⟩, rfl, rfl, trivial⟩)⟩
                  · have he := ok_f he hb
                    have he := ok_rq he
                    refine And.intro he.1 ?_
                    have he := he.2
                    have he := ok_some he
                    exact ⟨((i8 + (1:Int)), (i10.set i.toNat (i10.getD i.toNat [])), i11), he, (leads_ren [(10004000, 10006000), (10004001, 10006001)] (l := [(0, .c (.imm (.int .i64) a0)), (1, .c (.imm (.sl (.pair (.int .i64) (.pair (.int .i64) (.pair (.int .i64) (.pair (.sl (.pair (.int .i64) (.int .i64))) (.int .i64)))))) a1)), (6, .c (.own 10004000 false)), (7, .c (.own 10004001 false)), (8, .c (.int .i64 i)), (9, .c (.int .i64 (i8 + (1:Int))))]) (st' := [(10004000, .sl 23 (.sl (.int .i64)) (i10.set i.toNat (i10.getD i.toNat [])) (.deep true .no)), (10004001, .sl 36 (.pair (.int .i64) (.pair (.int .i64) (.pair (.int .i64) (.pair (.sl (.pair (.int .i64) (.int .i64))) (.int .i64))))) i11 (.deep true .no))]) rfl rfl ⟨⟨rfl, rfl⟩, ⟨rfl, rfl⟩, trivial⟩ ⟨.inl rfl, .inl rfl, ⟨⟨rfl, rfl⟩, trivial⟩, ⟨⟨rfl, rfl⟩, trivial⟩, rfl, rfl, trivial⟩)⟩
              · have he := ok_t he hb
                have he := ok_some he
                exact ⟨rfl, _, _, (leads_ren [(900, 66)] (l := [(4, .c (.own 900 false)), (5, .c (.bool false))]) (st' := [(900, .sl 36 (.pair (.int .i64) (.pair (.int .i64) (.pair (.int .i64) (.pair (.sl (.pair (.int .i64) (.int .i64))) (.int .i64))))) ([] : List (Int × Int × Int × (List (Int × Int)) × Int)) (.deep true .no))]) rfl rfl ⟨⟨rfl, rfl⟩, trivial⟩ ⟨⟨⟨rfl, rfl⟩, trivial⟩, .inr rfl, trivial⟩), he⟩
            · skip
              refine And.intro (by kernel_rfl) ?_
              have he := ok_rq he
              refine And.intro he.1 ?_
              have he := he.2
              have he := ok_rq he
              refine And.intro he.1 ?_
              have he := he.2
              have he := ok_rq he
              refine And.intro he.1 ?_
              have he := he.2
              obtain ⟨r7_, hq1, he⟩ := ok_bind he
              refine And.intro ?_ (And.intro ?_ (trivial))
              · skip
                refine And.intro ?_ (And.intro ?_ (trivial))
                · skip
                  refine ⟨r7_, hq1, ?_⟩
                  refine And.intro ?_ trivial
                  refine And.intro ?_ trivial
                  exact ⟨(r7_.1, r7_.2.1, r7_.2.2.1, r7_.2.2.2.1, r7_.2.2.2.2.1, r7_.2.2.2.2.2), he, ((leads_close [10004000] rfl).trans (leads_ren [(10006000, 10004000), (10006001, 10004001), (10006002, 10), (10006003, 53901)] (l := [(0, .c (.imm (.int .i64) a0)), (1, .c (.imm (.sl (.pair (.int .i64) (.pair (.int .i64) (.pair (.int .i64) (.pair (.sl (.pair (.int .i64) (.int .i64))) (.int .i64)))))) a1)), (6, .c (.own 10006000 false)), (7, .c (.own 10006001 false)), (8, .c (.int .i64 i)), (9, .c (.int .i64 i8)), (10, .c (.ptr 10006002 0)), (11, .c (.bool r7_.1))]) (st' := [(10006000, .sl 23 (.sl (.int .i64)) (i10.set i.toNat (i10.getD i.toNat [])) (.deep true .no)), (10006001, .sl 36 (.pair (.int .i64) (.pair (.int .i64) (.pair (.int .i64) (.pair (.sl (.pair (.int .i64) (.int .i64))) (.int .i64))))) i11 (.deep true .no)), (10006002, .rc [.int .i64 r7_.2.1, .int .i64 r7_.2.2.1, .int .i64 r7_.2.2.2.1, .own 10006003 false, .int .i64 r7_.2.2.2.2.1]), (10006003, .sl 63 (.pair (.int .i64) (.int .i64)) r7_.2.2.2.2.2 .shallow)]) rfl rfl (by exact ⟨⟨rfl, rfl⟩, ⟨rfl, rfl⟩, ⟨rfl, rfl, rfl, ⟨⟨rfl, rfl⟩, trivial⟩, rfl, trivial⟩, ⟨rfl, rfl⟩, trivial⟩) (by exact ⟨.inl rfl, .inl rfl, ⟨⟨rfl, rfl⟩, trivial⟩, ⟨⟨rfl, rfl⟩, trivial⟩, rfl, rfl, ⟨⟨rfl, rfl⟩, rfl⟩, .inl rfl, trivial⟩)))⟩
                · skip
                  refine And.intro ?_ trivial
                  refine ⟨r7_, hq1, ?_⟩
                  refine And.intro ?_ trivial
                  exact ⟨(r7_.1, r7_.2.1, r7_.2.2.1, r7_.2.2.2.1, r7_.2.2.2.2.1, r7_.2.2.2.2.2), he, ((leads_close [10004000] rfl).trans (leads_ren [(10006000, 10004000), (10006001, 10004001), (10006002, 10), (10006003, 53901)] (l := [(0, .c (.imm (.int .i64) a0)), (1, .c (.imm (.sl (.pair (.int .i64) (.pair (.int .i64) (.pair (.int .i64) (.pair (.sl (.pair (.int .i64) (.int .i64))) (.int .i64)))))) a1)), (6, .c (.own 10006000 false)), (7, .c (.own 10006001 false)), (8, .c (.int .i64 i)), (9, .c (.int .i64 i8)), (10, .c (.ptr 10006002 0)), (11, .c (.bool r7_.1))]) (st' := [(10006000, .sl 23 (.sl (.int .i64)) (i10.set i.toNat (i10.getD i.toNat [])) (.deep true .no)), (10006001, .sl 36 (.pair (.int .i64) (.pair (.int .i64) (.pair (.int .i64) (.pair (.sl (.pair (.int .i64) (.int .i64))) (.int .i64))))) i11 (.deep true .no)), (10006002, .rc [.int .i64 r7_.2.1, .int .i64 r7_.2.2.1, .int .i64 r7_.2.2.2.1, .own 10006003 false, .int .i64 r7_.2.2.2.2.1]), (10006003, .sl 63 (.pair (.int .i64) (.int .i64)) r7_.2.2.2.2.2 .shallow)]) rfl rfl (by exact ⟨⟨rfl, rfl⟩, ⟨rfl, rfl⟩, ⟨rfl, rfl, rfl, ⟨⟨rfl, rfl⟩, trivial⟩, rfl, trivial⟩, ⟨rfl, rfl⟩, trivial⟩) (by exact ⟨.inl rfl, .inl rfl, ⟨⟨rfl, rfl⟩, trivial⟩, ⟨⟨rfl, rfl⟩, trivial⟩, rfl, rfl, ⟨⟨rfl, rfl⟩, rfl⟩, .inl rfl, trivial⟩)))⟩
              · skip
                refine And.intro ?_ trivial
                refine And.intro ?_ trivial
                refine ⟨r7_, hq1, ?_⟩
                refine And.intro ?_ trivial
                exact ⟨(r7_.1, r7_.2.1, r7_.2.2.1, r7_.2.2.2.1, r7_.2.2.2.2.1, r7_.2.2.2.2.2), he, ((leads_close [10004000] rfl).trans (leads_ren [(10006000, 10004000), (10006001, 10004001), (10006002, 10), (10006003, 53901)] (l := [(0, .c (.imm (.int .i64) a0)), (1, .c (.imm (.sl (.pair (.int .i64) (.pair (.int .i64) (.pair (.int .i64) (.pair (.sl (.pair (.int .i64) (.int .i64))) (.int .i64)))))) a1)), (6, .c (.own 10006000 false)), (7, .c (.own 10006001 false)), (8, .c (.int .i64 i)), (9, .c (.int .i64 i8)), (10, .c (.ptr 10006002 0)), (11, .c (.bool r7_.1))]) (st' := [(10006000, .sl 23 (.sl (.int .i64)) (i10.set i.toNat (i10.getD i.toNat [])) (.deep true .no)), (10006001, .sl 36 (.pair (.int .i64) (.pair (.int .i64) (.pair (.int .i64) (.pair (.sl (.pair (.int .i64) (.int .i64))) (.int .i64))))) i11 (.deep true .no)), (10006002, .rc [.int .i64 r7_.2.1, .int .i64 r7_.2.2.1, .int .i64 r7_.2.2.2.1, .own 10006003 false, .int .i64 r7_.2.2.2.2.1]), (10006003, .sl 63 (.pair (.int .i64) (.int .i64)) r7_.2.2.2.2.2 .shallow)]) rfl rfl (by exact ⟨⟨rfl, rfl⟩, ⟨rfl, rfl⟩, ⟨rfl, rfl, rfl, ⟨⟨rfl, rfl⟩, trivial⟩, rfl, trivial⟩, ⟨rfl, rfl⟩, trivial⟩) (by exact ⟨.inl rfl, .inl rfl, ⟨⟨rfl, rfl⟩, trivial⟩, ⟨⟨rfl, rfl⟩, trivial⟩, rfl, rfl, ⟨⟨rfl, rfl⟩, rfl⟩, .inl rfl, trivial⟩)))⟩
          · have he := ok_f he hb
            have he := ok_rq he
            refine And.intro he.1 ?_
            have he := he.2
            have he := ok_some he
            exact ⟨((i + (1:Int)), i10, i11), he, (leads_ren [(10000000, 10004000), (10000001, 10004001)] (l := [(0, .c (.imm (.int .i64) a0)), (1, .c (.imm (.sl (.pair (.int .i64) (.pair (.int .i64) (.pair (.int .i64) (.pair (.sl (.pair (.int .i64) (.int .i64))) (.int .i64)))))) a1)), (6, .c (.own 10000000 false)), (7, .c (.own 10000001 false)), (8, .c (.int .i64 (i + (1:Int))))]) (st' := [(10000000, .sl 23 (.sl (.int .i64)) i10 (.deep true .no)), (10000001, .sl 36 (.pair (.int .i64) (.pair (.int .i64) (.pair (.int .i64) (.pair (.sl (.pair (.int .i64) (.int .i64))) (.int .i64))))) i11 (.deep true .no))]) rfl rfl ⟨⟨rfl, rfl⟩, ⟨rfl, rfl⟩, trivial⟩ ⟨.inl rfl, .inl rfl, ⟨⟨rfl, rfl⟩, trivial⟩, ⟨⟨rfl, rfl⟩, trivial⟩, rfl, trivial⟩)⟩
        · have he := ok_f he hb
          exact ⟨i7, ok_up he, (leads_ren [(10007000, 10000001)] (l := [(0, .c (.imm (.int .i64) a0)), (7, .c (.own 10007000 false))]) (st' := [(10007000, .sl 36 (.pair (.int .i64) (.pair (.int .i64) (.pair (.int .i64) (.pair (.sl (.pair (.int .i64) (.int .i64))) (.int .i64))))) i7 (.deep true .no))]) rfl rfl ⟨⟨rfl, rfl⟩, trivial⟩ ⟨.inl rfl, ⟨⟨rfl, rfl⟩, trivial⟩, trivial⟩)⟩

noncomputable def c_slices_Equal_impl_Term : Con := fun args st => match args, st with
  | [.c (.imm (.pair (.int .i64) (.int .i64)) s1_), .c (.imm (.pair (.int .i64) (.int .i64)) s2_)], [] => .opt (Bool) (slices_Equal_impl_Term s1_ s2_) (fun r => .ret (.c (.bool r)) [])
  | _, _ => .fail

noncomputable def C_slices_Equal_impl_Term : Cfg := { y := tys, n := 26, h := 0, tab := [], cut := [], hand := [], good := [], deep := [], sched := [] }

theorem t_slices_Equal_impl_Term : TabOk Try.prog C_slices_Equal_impl_Term := tabOk_of (fun p h => by cases h)

theorem k_slices_Equal_impl_Term : Entry Try.prog 27 c_slices_Equal_impl_Term := by
  refine entry_by (C := C_slices_Equal_impl_Term) mixed tys_ok t_slices_Equal_impl_Term (fn := Try.f27) (c := bd Try.f27) (by kernel_rfl) (by kernel_rfl) (by kernel_rfl) (by kernel_rfl) ?_
  intro args st k he
  unfold c_slices_Equal_impl_Term at he
  split at he
  rotate_left
  · exact he.elim
  rename_i s1_ s2_
  have he : Ok (slices_Equal_impl_Term s1_ s2_) (fun r => k (.c (.bool r)) []) := he
  refine ⟨rfl, rfl, ?_⟩
  refine And.intro (fun hb => ?_) (fun hb => ?_)
  · have he := ok_t he hb
    have he := ok_some he
    exact ⟨rfl, _, _, Leads.refl _ _, he⟩
  · have he := ok_f he hb
    refine loop_model mixed tys_ok t_slices_Equal_impl_Term (S := Int) (I := (fun i => (envOf [(0, .c (.imm (.pair (.int .i64) (.int .i64)) s1_)), (1, .c (.imm (.pair (.int .i64) (.int .i64)) s2_)), (12, .c (.int .i64 (s1_.length:Int))), (13, .c (.int .i64 i))], []))) (f := slices_Equal_impl_Term_l1 s1_ s2_) (K := (fun r => k (.c (.bool r)) [])) he (leads_ren [] (l := [(0, .c (.imm (.pair (.int .i64) (.int .i64)) s1_)), (1, .c (.imm (.pair (.int .i64) (.int .i64)) s2_)), (12, .c (.int .i64 (s1_.length:Int))), (13, .c (.int .i64 (0:Int)))]) (st' := []) rfl rfl trivial ⟨.inl rfl, .inl rfl, rfl, rfl, trivial⟩) ?_
    rintro i J1 he
    refine And.intro (fun hb => ?_) (fun hb => ?_)
    · have he := ok_t he hb
      refine And.intro (by kernel_rfl) ?_
      have he := ok_rq he
      refine And.intro he.1 ?_
      have he := he.2
      have he := ok_rq he
      refine And.intro he.1 ?_
      have he := he.2
      refine And.intro (fun hb => ?_) (fun hb => ?_)
      · have he := ok_t he hb
        have he := ok_some he
        exact ⟨rfl, _, _, Leads.refl _ _, he⟩
      · have he := ok_f he hb
        have he := ok_rq he
        refine And.intro he.1 ?_
        have he := he.2
        have he := ok_some he
        exact ⟨(i + (1:Int)), he, (leads_ren [] (l := [(0, .c (.imm (.pair (.int .i64) (.int .i64)) s1_)), (1, .c (.imm (.pair (.int .i64) (.int .i64)) s2_)), (12, .c (.int .i64 (s1_.length:Int))), (13, .c (.int .i64 (i + (1:Int))))]) (st' := []) rfl rfl trivial ⟨.inl rfl, .inl rfl, rfl, rfl, trivial⟩)⟩
    · have he := ok_f he hb
      have he := ok_some he
      exact ⟨rfl, _, _, Leads.refl _ _, he⟩

noncomputable def c_impl_ConstraintSame : Con := fun args st => match args, st with
  | [.agg [.imm (.pair (.int .i64) (.int .i64)) a_0, .int .i64 a_1], .agg [.imm (.pair (.int .i64) (.int .i64)) b_0, .int .i64 b_1]], [] => .opt (Bool) (impl_ConstraintSame (a_0, a_1) (b_0, b_1)) (fun r => .ret (.c (.bool r)) [])
  | _, _ => .fail

noncomputable def C_impl_ConstraintSame : Cfg := { y := tys, n := 17, h := 0, tab := [(27, c_slices_Equal_impl_Term)], cut := [], hand := [], good := [], deep := [], sched := [] }

theorem t_impl_ConstraintSame : TabOk Try.prog C_impl_ConstraintSame := by
  refine tabOk_of ?_
  simp only [C_impl_ConstraintSame, List.forall_mem_cons]
  exact ⟨k_slices_Equal_impl_Term, fun p h => by cases h⟩

theorem k_impl_ConstraintSame : Entry Try.prog 8 c_impl_ConstraintSame := by
  refine entry_by (C := C_impl_ConstraintSame) mixed tys_ok t_impl_ConstraintSame (fn := Try.f8) (c := bd Try.f8) (by kernel_rfl) (by kernel_rfl) (by kernel_rfl) (by kernel_rfl) ?_
  intro args st k he
  unfold c_impl_ConstraintSame at he
  split at he
  rotate_left
  · exact he.elim
  rename_i a_0 a_1 b_0 b_1
  have he : Ok (impl_ConstraintSame (a_0, a_1) (b_0, b_1)) (fun r => k (.c (.bool r)) []) := he
  refine ⟨rfl, rfl, ?_⟩
  refine And.intro (fun hb => ?_) (fun hb => ?_)
  · have he := ok_t he hb
    obtain ⟨r1_, hr, he⟩ := ok_bind he
    refine ⟨r1_, hr, ?_⟩
    have he := ok_some he
    exact ⟨rfl, _, _, (leads_ren [] (l := [(4, .c (.bool r1_))]) (st' := []) rfl rfl trivial ⟨.inl rfl, trivial⟩), he⟩
  · have he := ok_f he hb
    have he := ok_some he
    exact ⟨rfl, _, _, (leads_ren [] (l := [(4, .c (.bool false))]) (st' := []) rfl rfl trivial ⟨.inr rfl, trivial⟩), he⟩

noncomputable def c_impl_ProofSame_1 : Con := fun args st => match args, st with
  | [.agg [.int .i64 s__0, .int .i64 s__1, .int .i64 s__2, .imm (.pair (.int .i64) (.int .i64)) s__3, .int .i64 s__4], .agg [.int .i64 t__0, .int .i64 t__1, .int .i64 t__2, .imm (.pair (.int .i64) (.int .i64)) t__3, .int .i64 t__4]], [] => .opt (Bool) (impl_ProofSame_1 (s__0, (s__1, (s__2, (s__3, s__4)))) (t__0, (t__1, (t__2, (t__3, t__4))))) (fun r => .ret (.c (.bool r)) [])
  | _, _ => .fail

noncomputable def C_impl_ProofSame_1 : Cfg := { y := tys, n := 31, h := 0, tab := [(8, c_impl_ConstraintSame)], cut := [], hand := [], good := [], deep := [], sched := [] }

theorem t_impl_ProofSame_1 : TabOk Try.prog C_impl_ProofSame_1 := by
  refine tabOk_of ?_
  simp only [C_impl_ProofSame_1, List.forall_mem_cons]
  exact ⟨k_impl_ConstraintSame, fun p h => by cases h⟩

theorem k_impl_ProofSame_1 : Entry Try.prog 26 c_impl_ProofSame_1 := by
  refine entry_by (C := C_impl_ProofSame_1) mixed tys_ok t_impl_ProofSame_1 (fn := Try.f26) (c := bd Try.f26) (by kernel_rfl) (by kernel_rfl) (by kernel_rfl) (by kernel_rfl) ?_
  intro args st k he
  unfold c_impl_ProofSame_1 at he
  split at he
  rotate_left
  · exact he.elim
  rename_i s__0 s__1 s__2 s__3 s__4 t__0 t__1 t__2 t__3 t__4
  have he : Ok (impl_ProofSame_1 (s__0, (s__1, (s__2, (s__3, s__4)))) (t__0, (t__1, (t__2, (t__3, t__4))))) (fun r => k (.c (.bool r)) []) := he
  refine ⟨rfl, rfl, ?_⟩
  refine And.intro (fun hb => ?_) (fun hb => ?_)
  · have he := ok_t he hb
    refine And.intro (fun hb => ?_) (fun hb => ?_)
    · have he := ok_t he hb
      refine And.intro (fun hb => ?_) (fun hb => ?_)
      · have he := ok_t he hb
        obtain ⟨r1_, hr, he⟩ := ok_bind he
        refine ⟨r1_, hr, ?_⟩
        have he := ok_some he
        exact ⟨rfl, _, _, (leads_ren [] (l := [(4, .c (.bool r1_))]) (st' := []) rfl rfl trivial ⟨.inl rfl, trivial⟩), he⟩
      · have he := ok_f he hb
        have he := ok_some he
        exact ⟨rfl, _, _, (leads_ren [] (l := [(4, .c (.bool false))]) (st' := []) rfl rfl trivial ⟨.inr rfl, trivial⟩), he⟩
    · have he := ok_f he hb
      have he := ok_some he
      exact ⟨rfl, _, _, (leads_ren [] (l := [(4, .c (.bool false))]) (st' := []) rfl rfl trivial ⟨.inr rfl, trivial⟩), he⟩
  · have he := ok_f he hb
    have he := ok_some he
    exact ⟨rfl, _, _, (leads_ren [] (l := [(4, .c (.bool false))]) (st' := []) rfl rfl trivial ⟨.inr rfl, trivial⟩), he⟩

noncomputable def c_slices_EqualFunc_impl_Step__impl_ProofSame_1 : Con := fun args st => match args, st with
  | [.c (.imm (.pair (.int .i64) (.pair (.int .i64) (.pair (.int .i64) (.pair (.sl (.pair (.int .i64) (.int .i64))) (.int .i64))))) s1_), .c (.imm (.pair (.int .i64) (.pair (.int .i64) (.pair (.int .i64) (.pair (.sl (.pair (.int .i64) (.int .i64))) (.int .i64))))) s2_), .c (.fn 26 [])], [] => .opt (Bool) (slices_EqualFunc_impl_Step__impl_ProofSame_1 s1_ s2_) (fun r => .ret (.c (.bool r)) [])
  | _, _ => .fail

noncomputable def C_slices_EqualFunc_impl_Step__impl_ProofSame_1 : Cfg := { y := tys, n := 32, h := 0, tab := [(26, c_impl_ProofSame_1)], cut := [], hand := [], good := [], deep := [], sched := [] }

theorem t_slices_EqualFunc_impl_Step__impl_ProofSame_1 : TabOk Try.prog C_slices_EqualFunc_impl_Step__impl_ProofSame_1 := by
  refine tabOk_of ?_
  simp only [C_slices_EqualFunc_impl_Step__impl_ProofSame_1, List.forall_mem_cons]
  exact ⟨k_impl_ProofSame_1, fun p h => by cases h⟩

theorem k_slices_EqualFunc_impl_Step__impl_ProofSame_1 : Entry Try.prog 25 c_slices_EqualFunc_impl_Step__impl_ProofSame_1 := by
  refine entry_by (C := C_slices_EqualFunc_impl_Step__impl_ProofSame_1) mixed tys_ok t_slices_EqualFunc_impl_Step__impl_ProofSame_1 (fn := Try.f25) (c := bd Try.f25) (by kernel_rfl) (by kernel_rfl) (by kernel_rfl) (by kernel_rfl) ?_
  intro args st k he
  unfold c_slices_EqualFunc_impl_Step__impl_ProofSame_1 at he
  split at he
  rotate_left
  · exact he.elim
  rename_i s1_ s2_
  have he : Ok (slices_EqualFunc_impl_Step__impl_ProofSame_1 s1_ s2_) (fun r => k (.c (.bool r)) []) := he
  refine ⟨rfl, rfl, ?_⟩
  refine And.intro (fun hb => ?_) (fun hb => ?_)
  · have he := ok_t he hb
    have he := ok_some he
    exact ⟨rfl, _, _, Leads.refl _ _, he⟩
  · have he := ok_f he hb
    refine loop_model mixed tys_ok t_slices_EqualFunc_impl_Step__impl_ProofSame_1 (S := Int) (I := (fun i => (envOf [(1, .c (.imm (.pair (.int .i64) (.pair (.int .i64) (.pair (.int .i64) (.pair (.sl (.pair (.int .i64) (.int .i64))) (.int .i64))))) s2_)), (2, .c (.fn 26 [])), (15, .c (.imm (.pair (.int .i64) (.pair (.int .i64) (.pair (.int .i64) (.pair (.sl (.pair (.int .i64) (.int .i64))) (.int .i64))))) s1_)), (16, .c (.int .i64 (s1_.length:Int))), (17, .c (.int .i64 i))], []))) (f := slices_EqualFunc_impl_Step__impl_ProofSame_1_l1 s1_ s2_) (K := (fun r => k (.c (.bool r)) [])) he (leads_ren [] (l := [(1, .c (.imm (.pair (.int .i64) (.pair (.int .i64) (.pair (.int .i64) (.pair (.sl (.pair (.int .i64) (.int .i64))) (.int .i64))))) s2_)), (2, .c (.fn 26 [])), (15, .c (.imm (.pair (.int .i64) (.pair (.int .i64) (.pair (.int .i64) (.pair (.sl (.pair (.int .i64) (.int .i64))) (.int .i64))))) s1_)), (16, .c (.int .i64 (s1_.length:Int))), (17, .c (.int .i64 (0:Int)))]) (st' := []) rfl rfl trivial ⟨.inl rfl, ⟨rfl, trivial⟩, .inl rfl, rfl, rfl, trivial⟩) ?_
    rintro i J1 he
    refine And.intro (fun hb => ?_) (fun hb => ?_)
    · have he := ok_t he hb
      have he := ok_rq he
      refine And.intro he.1 ?_
      have he := he.2
      have he := ok_rq he
      refine And.intro he.1 ?_
      have he := he.2
      obtain ⟨r1_, hr, he⟩ := ok_bind he
      refine ⟨r1_, hr, ?_⟩
      refine And.intro (fun hb => ?_) (fun hb => ?_)
      · have he := ok_t he hb
        have he := ok_some he
        exact ⟨rfl, _, _, (leads_ren [] (l := [(6, .c (.bool false))]) (st' := []) rfl rfl trivial ⟨.inr rfl, trivial⟩), he⟩
      · have he := ok_f he hb
        have he := ok_rq he
        refine And.intro he.1 ?_
        have he := he.2
        have he := ok_some he
        exact ⟨(i + (1:Int)), he, (leads_ren [] (l := [(1, .c (.imm (.pair (.int .i64) (.pair (.int .i64) (.pair (.int .i64) (.pair (.sl (.pair (.int .i64) (.int .i64))) (.int .i64))))) s2_)), (2, .c (.fn 26 [])), (15, .c (.imm (.pair (.int .i64) (.pair (.int .i64) (.pair (.int .i64) (.pair (.sl (.pair (.int .i64) (.int .i64))) (.int .i64))))) s1_)), (16, .c (.int .i64 (s1_.length:Int))), (17, .c (.int .i64 (i + (1:Int))))]) (st' := []) rfl rfl trivial ⟨.inl rfl, ⟨rfl, trivial⟩, .inl rfl, rfl, rfl, trivial⟩)⟩
    · have he := ok_f he hb
      have he := ok_some he
      exact ⟨rfl, _, _, Leads.refl _ _, he⟩

noncomputable def c_impl_ProofSame : Con := fun args st => match args, st with
  | [.c (.imm (.pair (.int .i64) (.pair (.int .i64) (.pair (.int .i64) (.pair (.sl (.pair (.int .i64) (.int .i64))) (.int .i64))))) a), .c (.imm (.pair (.int .i64) (.pair (.int .i64) (.pair (.int .i64) (.pair (.sl (.pair (.int .i64) (.int .i64))) (.int .i64))))) b)], [] => .opt (Bool) (impl_ProofSame a b) (fun r => .ret (.c (.bool r)) [])
  | _, _ => .fail

noncomputable def C_impl_ProofSame : Cfg := { y := tys, n := 8, h := 0, tab := [(25, c_slices_EqualFunc_impl_Step__impl_ProofSame_1)], cut := [], hand := [], good := [], deep := [], sched := [] }

theorem t_impl_ProofSame : TabOk Try.prog C_impl_ProofSame := by
  refine tabOk_of ?_
  simp only [C_impl_ProofSame, List.forall_mem_cons]
  exact ⟨k_slices_EqualFunc_impl_Step__impl_ProofSame_1, fun p h => by cases h⟩

theorem k_impl_ProofSame : Entry Try.prog 7 c_impl_ProofSame := by
  refine entry_by (C := C_impl_ProofSame) mixed tys_ok t_impl_ProofSame (fn := Try.f7) (c := bd Try.f7) (by kernel_rfl) (by kernel_rfl) (by kernel_rfl) (by kernel_rfl) ?_
  intro args st k he
  unfold c_impl_ProofSame at he
  split at he
  rotate_left
  · exact he.elim
  rename_i a b
  have he : Ok (impl_ProofSame a b) (fun r => k (.c (.bool r)) []) := he
  refine ⟨rfl, rfl, ?_⟩
  obtain ⟨r1_, hr, he⟩ := ok_bind he
  refine ⟨r1_, hr, ?_⟩
  have he := ok_some he
  exact ⟨rfl, _, _, Leads.refl _ _, he⟩

noncomputable def c_laws_FnMergeProofs : Con := fun args st => match args, st with
  | [.c (.imm (.int .u8) a0)], [] => .opt (Bool) (laws_FnMergeProofs a0) (fun r => .ret (.c (.bool r)) [])
  | _, _ => .fail

noncomputable def C_laws_FnMergeProofs : Cfg := { y := tys, n := 97, h := 0, tab := [(4, c_spec_DrawMergeProofs), (5, c_impl_MergeProofs), (6, c_spec_MergeProofs), (7, c_impl_ProofSame), (8, c_impl_ConstraintSame)], cut := [], hand := [], good := [], deep := [], sched := [] }

theorem t_laws_FnMergeProofs : TabOk Try.prog C_laws_FnMergeProofs := by
  refine tabOk_of ?_
  simp only [C_laws_FnMergeProofs, List.forall_mem_cons]
  exact ⟨k_spec_DrawMergeProofs, k_impl_MergeProofs, k_spec_MergeProofs, k_impl_ProofSame, k_impl_ConstraintSame, fun p h => by cases h⟩

theorem k_laws_FnMergeProofs : Entry Try.prog 3 c_laws_FnMergeProofs := by
  refine entry_by (C := C_laws_FnMergeProofs) mixed tys_ok t_laws_FnMergeProofs (fn := Try.f3) (c := bd Try.f3) (by kernel_rfl) (by kernel_rfl) (by kernel_rfl) (by kernel_rfl) ?_
  intro args st k he
  unfold c_laws_FnMergeProofs at he
  split at he
  rotate_left
  · exact he.elim
  rename_i a0
  have he : Ok (laws_FnMergeProofs a0) (fun r => k (.c (.bool r)) []) := he
  refine ⟨rfl, rfl, ?_⟩
  refine And.intro (fun hb => ?_) (fun hb => ?_)
  · have he := ok_t he hb
    have he := ok_some he
    exact ⟨rfl, _, _, Leads.refl _ _, he⟩
  · have he := ok_f he hb
    obtain ⟨r1_, hr, he⟩ := ok_bind he
    refine ⟨r1_, hr, ?_⟩
    obtain ⟨r2_, hr, he⟩ := ok_bind he
    refine ⟨r2_, hr, ?_⟩
    obtain ⟨r3_, hr, he⟩ := ok_bind he
    refine ⟨r3_, hr, ?_⟩
    refine And.intro (fun hb => ?_) (fun hb => ?_)
    · have he := ok_f he hb
      obtain ⟨r4_, hr, he⟩ := ok_bind he
      refine ⟨r4_, hr, ?_⟩
      refine And.intro (fun hb => ?_) (fun hb => ?_)
      · have he := ok_f he hb
        refine And.intro (fun hb => ?_) (fun hb => ?_)
        · have he := ok_t he hb
          refine And.intro (fun hb => ?_) (fun hb => ?_)
          · have he := ok_t he hb
            obtain ⟨r5_, hr, he⟩ := ok_bind he
            refine ⟨r5_, hr, ?_⟩
            have he := ok_some he
            exact ⟨rfl, _, _, (leads_ren [] (l := [(2, .c (.bool r5_))]) (st' := []) rfl rfl trivial ⟨.inl rfl, trivial⟩), he⟩
          · have he := ok_f he hb
            have he := ok_some he
            exact ⟨rfl, _, _, (leads_ren [] (l := [(2, .c (.bool false))]) (st' := []) rfl rfl trivial ⟨.inr rfl, trivial⟩), he⟩
        · have he := ok_f he hb
          refine loop_model mixed tys_ok t_laws_FnMergeProofs (S := Int × Int) (I := (fun (i, i1) => (envOf [(3, .c (.own 10000000 false)), (4, .c (.imm (.sl (.pair (.int .i64) (.pair (.int .i64) (.pair (.int .i64) (.pair (.sl (.pair (.int .i64) (.int .i64))) (.int .i64)))))) r1_.1)), (5, .c (.own 10000001 false)), (9, .c (.int .i64 i)), (10, .c (.int .i64 i1))], [(10000000, .sl 3 (.int .i64) r1_.2 .shallow), (10000001, .sl 36 (.pair (.int .i64) (.pair (.int .i64) (.pair (.int .i64) (.pair (.sl (.pair (.int .i64) (.int .i64))) (.int .i64))))) r2_.2 (.deep true .no))]))) (f := laws_FnMergeProofs_l1 r1_ r2_) (K := (fun r => k (.c (.bool r)) [])) he (leads_ren [(10000000, 17900), (10000001, 23900)] (l := [(3, .c (.own 10000000 false)), (4, .c (.imm (.sl (.pair (.int .i64) (.pair (.int .i64) (.pair (.int .i64) (.pair (.sl (.pair (.int .i64) (.int .i64))) (.int .i64)))))) r1_.1)), (5, .c (.own 10000001 false)), (9, .c (.int .i64 (0:Int))), (10, .c (.int .i64 (0:Int)))]) (st' := [(10000000, .sl 3 (.int .i64) r1_.2 .shallow), (10000001, .sl 36 (.pair (.int .i64) (.pair (.int .i64) (.pair (.int .i64) (.pair (.sl (.pair (.int .i64) (.int .i64))) (.int .i64))))) r2_.2 (.deep true .no))]) rfl rfl ⟨⟨rfl, rfl⟩, ⟨rfl, rfl⟩, trivial⟩ ⟨⟨⟨rfl, rfl⟩, trivial⟩, .inl rfl, ⟨⟨rfl, rfl⟩, trivial⟩, rfl, rfl, trivial⟩) ?_
          rintro ⟨i, i1⟩ J1 he
          refine And.intro (fun hb => ?_) (fun hb => ?_)
          · have he := ok_t he hb
            have he := ok_rq he
            refine And.intro he.1 ?_
            have he := he.2
            have he := ok_rq he
            refine And.intro he.1 ?_
            have he := he.2
            have he := ok_rq he
            refine And.intro he.1 ?_
            have he := he.2
            have he := ok_some he
            exact ⟨((i + ((r1_.1.getD i1.toNat []).length:Int)), (i1 + (1:Int))), he, (leads_ren [] (l := [(3, .c (.own 10000000 false)), (4, .c (.imm (.sl (.pair (.int .i64) (.pair (.int .i64) (.pair (.int .i64) (.pair (.sl (.pair (.int .i64) (.int .i64))) (.int .i64)))))) r1_.1)), (5, .c (.own 10000001 false)), (9, .c (.int .i64 (i + ((r1_.1.getD i1.toNat []).length:Int)))), (10, .c (.int .i64 (i1 + (1:Int))))]) (st' := [(10000000, .sl 3 (.int .i64) r1_.2 .shallow), (10000001, .sl 36 (.pair (.int .i64) (.pair (.int .i64) (.pair (.int .i64) (.pair (.sl (.pair (.int .i64) (.int .i64))) (.int .i64))))) r2_.2 (.deep true .no))]) rfl rfl ⟨⟨rfl, rfl⟩, ⟨rfl, rfl⟩, trivial⟩ ⟨⟨⟨rfl, rfl⟩, trivial⟩, .inl rfl, ⟨⟨rfl, rfl⟩, trivial⟩, rfl, rfl, trivial⟩)⟩
          · have he := ok_f he hb
            have he := ok_rq he
            refine And.intro he.1 ?_
            have he := he.2
            have he := ok_rq he
            refine And.intro he.1 ?_
            have he := he.2
            have he := ok_rq he
            refine And.intro he.1 ?_
            have he := he.2
            refine And.intro (fun hb => ?_) (fun hb => ?_)
            · have he := ok_f he hb
              have he := ok_rq he
              refine And.intro he.1 ?_
              have he := he.2
              have he := ok_rq he
              refine And.intro he.1 ?_
              have he := he.2
              refine And.intro (fun hb => ?_) (fun hb => ?_)
              · have he := ok_t he hb
                have he := ok_some he
                exact ⟨rfl, _, _, (leads_ren [] (l := [(2, .c (.bool false))]) (st' := []) rfl rfl trivial ⟨.inr rfl, trivial⟩), he⟩
              · have he := ok_f he hb
                refine And.intro (fun hb => ?_) (fun hb => ?_)
                · have he := ok_f he hb
                  have he := ok_rq he
                  refine And.intro he.1 ?_
                  have he := he.2
                  have he := ok_rq he
                  refine And.intro he.1 ?_
                  have he := he.2
                  obtain ⟨r8_, hr, he⟩ := ok_bind he
                  refine ⟨r8_, hr, ?_⟩
                  have he := ok_some he
                  exact ⟨rfl, _, _, ((leads_close [10000001] rfl).trans (leads_ren [] (l := [(2, .c (.bool r8_))]) (st' := []) rfl rfl (by exact trivial) (by exact ⟨.inl rfl, trivial⟩))), he⟩
                · have he := ok_t he hb
                  have he := ok_some he
                  exact ⟨rfl, _, _, (leads_ren [] (l := [(2, .c (.bool true))]) (st' := []) rfl rfl trivial ⟨.inr rfl, trivial⟩), he⟩
            · have he := ok_t he hb
              have he := ok_some he
              exact ⟨rfl, _, _, (leads_ren [] (l := [(2, .c (.bool false))]) (st' := []) rfl rfl trivial ⟨.inr rfl, trivial⟩), he⟩
      · have he := ok_t he hb
        refine And.intro (fun hb => ?_) (fun hb => ?_)
        · have he := ok_t he hb
          obtain ⟨r6_, hr, he⟩ := ok_bind he
          refine ⟨r6_, hr, ?_⟩
          have he := ok_some he
          exact ⟨rfl, _, _, (leads_ren [] (l := [(2, .c (.bool r6_))]) (st' := []) rfl rfl trivial ⟨.inl rfl, trivial⟩), he⟩
        · have he := ok_f he hb
          have he := ok_some he
          exact ⟨rfl, _, _, (leads_ren [] (l := [(2, .c (.bool false))]) (st' := []) rfl rfl trivial ⟨.inr rfl, trivial⟩), he⟩
    · have he := ok_t he hb
      refine And.intro (fun hb => ?_) (fun hb => ?_)
      · have he := ok_t he hb
        obtain ⟨r7_, hr, he⟩ := ok_bind he
        refine ⟨r7_, hr, ?_⟩
        have he := ok_some he
        exact ⟨rfl, _, _, (leads_ren [] (l := [(2, .c (.bool r7_))]) (st' := []) rfl rfl trivial ⟨.inl rfl, trivial⟩), he⟩
      · have he := ok_f he hb
        have he := ok_some he
        exact ⟨rfl, _, _, (leads_ren [] (l := [(2, .c (.bool false))]) (st' := []) rfl rfl trivial ⟨.inr rfl, trivial⟩), he⟩

end Go.AE.Y
