/-
  Walks: each function keeps the contract that its model gives. No conditions.
-/
import Derived.Test.YtpeelmjecjbfjaaR4Tab
import Derived.Test.YtpeelmjecjbfjaaR4W1
import Derived.Test.YtpeelmjecjbfjaaR4S
namespace Go.AE.Y
open Go Go.AE Go.Proofs
set_option linter.unusedVariables false
set_option maxHeartbeats 2000000
set_option maxRecDepth 100000

noncomputable def c_impl_ConstraintValid : Con := fun args st => match args, st with
  | [.agg [.imm (.pair (.int .i64) (.int .i64)) c__0, .int .i64 c__1]], [] => .opt (Bool) (impl_ConstraintValid (c__0, c__1)) (fun r => .ret (.c (.bool r)) [])
  | _, _ => .fail

noncomputable def C_impl_ConstraintValid : Cfg := { y := tys, n := 37, h := 0, tab := [(101, c_impl_within), (110, c_impl_isLiteral), (111, c_impl_variableOf)], cut := [], hand := [], good := [], deep := [], sched := [] }

theorem t_impl_ConstraintValid : TabOk Try.prog C_impl_ConstraintValid := by
  refine tabOk_of ?_
  simp only [C_impl_ConstraintValid, List.forall_mem_cons]
  exact ⟨k_impl_within, k_impl_isLiteral, k_impl_variableOf, fun p h => by cases h⟩

theorem k_impl_ConstraintValid : Entry Try.prog 22 c_impl_ConstraintValid := by
  refine entry_by (C := C_impl_ConstraintValid) mixed tys_ok t_impl_ConstraintValid (fn := Try.f22) (c := bd Try.f22) (by kernel_rfl) (by kernel_rfl) (by kernel_rfl) (by kernel_rfl) ?_
  intro args st k he
  unfold c_impl_ConstraintValid at he
  split at he
  rotate_left
  · exact he.elim
  rename_i c__0 c__1
  have he : Ok (impl_ConstraintValid (c__0, c__1)) (fun r => k (.c (.bool r)) []) := he
  refine ⟨rfl, rfl, ?_⟩
  refine loop_model mixed tys_ok t_impl_ConstraintValid (S := Int × Int) (I := (fun (before, i) => (envOf [(1, .c (.ptr 10000000 0)), (3, .c (.int .i64 before)), (7, .c (.imm (.pair (.int .i64) (.int .i64)) (c__0, c__1).1)), (8, .c (.int .i64 ((c__0, c__1).1.length:Int))), (9, .c (.int .i64 i))], [(10000000, .rc [.imm (.pair (.int .i64) (.int .i64)) (c__0, c__1).1, .int .i64 (c__0, c__1).2])]))) (f := impl_ConstraintValid_l1 (c__0, c__1)) (K := (fun r => k (.c (.bool r)) [])) he (leads_ren [(10000000, 1)] (l := [(1, .c (.ptr 10000000 0)), (3, .c (.int .i64 (0:Int))), (7, .c (.imm (.pair (.int .i64) (.int .i64)) (c__0, c__1).1)), (8, .c (.int .i64 ((c__0, c__1).1.length:Int))), (9, .c (.int .i64 (0:Int)))]) (st' := [(10000000, .rc [.imm (.pair (.int .i64) (.int .i64)) (c__0, c__1).1, .int .i64 (c__0, c__1).2])]) rfl rfl ⟨⟨.inl rfl, rfl, trivial⟩, trivial⟩ ⟨⟨⟨rfl, rfl⟩, rfl⟩, rfl, .inl rfl, rfl, rfl, trivial⟩) ?_
  rintro ⟨before, i⟩ J1 he
  refine And.intro (fun hb => ?_) (fun hb => ?_)
  · have he := ok_t he hb
    have he := ok_rq he
    refine And.intro he.1 ?_
    have he := he.2
    obtain ⟨r1_, hr, he⟩ := ok_bind he
    refine ⟨r1_, hr, ?_⟩
    refine And.intro (fun hb => ?_) (fun hb => ?_)
    · have he := ok_f he hb
      obtain ⟨r2_, hr, he⟩ := ok_bind he
      refine ⟨r2_, hr, ?_⟩
      refine And.intro (fun hb => ?_) (fun hb => ?_)
      · have he := ok_f he hb
        obtain ⟨r3_, hr, he⟩ := ok_bind he
        refine ⟨r3_, hr, ?_⟩
        refine And.intro (fun hb => ?_) (fun hb => ?_)
        · have he := ok_t he hb
          have he := ok_some he
          exact ⟨rfl, _, _, (leads_ren [] (l := [(2, .c (.bool false))]) (st' := []) rfl rfl trivial ⟨.inr rfl, trivial⟩), he⟩
        · have he := ok_f he hb
          obtain ⟨r4_, hr, he⟩ := ok_bind he
          refine ⟨r4_, hr, ?_⟩
          have he := ok_rq he
          refine And.intro he.1 ?_
          have he := he.2
          have he := ok_some he
          exact ⟨(r4_, (i + (1:Int))), he, (leads_ren [] (l := [(1, .c (.ptr 10000000 0)), (3, .c (.int .i64 r4_)), (7, .c (.imm (.pair (.int .i64) (.int .i64)) (c__0, c__1).1)), (8, .c (.int .i64 ((c__0, c__1).1.length:Int))), (9, .c (.int .i64 (i + (1:Int))))]) (st' := [(10000000, .rc [.imm (.pair (.int .i64) (.int .i64)) (c__0, c__1).1, .int .i64 (c__0, c__1).2])]) rfl rfl ⟨⟨.inl rfl, rfl, trivial⟩, trivial⟩ ⟨⟨⟨rfl, rfl⟩, rfl⟩, rfl, .inl rfl, rfl, rfl, trivial⟩)⟩
      · have he := ok_t he hb
        have he := ok_some he
        exact ⟨rfl, _, _, (leads_ren [] (l := [(2, .c (.bool false))]) (st' := []) rfl rfl trivial ⟨.inr rfl, trivial⟩), he⟩
    · have he := ok_t he hb
      have he := ok_some he
      exact ⟨rfl, _, _, (leads_ren [] (l := [(2, .c (.bool false))]) (st' := []) rfl rfl trivial ⟨.inr rfl, trivial⟩), he⟩
  · have he := ok_f he hb
    obtain ⟨r5_, hr, he⟩ := ok_bind he
    refine ⟨r5_, hr, ?_⟩
    have he := ok_some he
    exact ⟨rfl, _, _, (leads_ren [] (l := [(2, .c (.bool r5_))]) (st' := []) rfl rfl trivial ⟨.inl rfl, trivial⟩), he⟩

noncomputable def c_impl_isCube : Con := fun args st => match args, st with
  | [.c (.imm (.int .i64) cube)], [] => .opt (Bool) (impl_isCube cube) (fun r => .ret (.c (.bool r)) [])
  | _, _ => .fail

noncomputable def C_impl_isCube : Cfg := { y := tys, n := 34, h := 0, tab := [(110, c_impl_isLiteral), (111, c_impl_variableOf)], cut := [], hand := [], good := [], deep := [], sched := [] }

theorem t_impl_isCube : TabOk Try.prog C_impl_isCube := by
  refine tabOk_of ?_
  simp only [C_impl_isCube, List.forall_mem_cons]
  exact ⟨k_impl_isLiteral, k_impl_variableOf, fun p h => by cases h⟩

theorem k_impl_isCube : Entry Try.prog 161 c_impl_isCube := by
  refine entry_by (C := C_impl_isCube) mixed tys_ok t_impl_isCube (fn := Try.f161) (c := bd Try.f161) (by kernel_rfl) (by kernel_rfl) (by kernel_rfl) (by kernel_rfl) ?_
  intro args st k he
  unfold c_impl_isCube at he
  split at he
  rotate_left
  · exact he.elim
  rename_i cube
  have he : Ok (impl_isCube cube) (fun r => k (.c (.bool r)) []) := he
  refine ⟨rfl, rfl, ?_⟩
  refine loop_model mixed tys_ok t_impl_isCube (S := Int) (I := (fun i => (envOf [(0, .c (.imm (.int .i64) cube)), (5, .c (.imm (.int .i64) cube)), (6, .c (.int .i64 (cube.length:Int))), (7, .c (.int .i64 i))], []))) (f := impl_isCube_l1 cube) (K := (fun r => k (.c (.bool r)) [])) he (leads_ren [] (l := [(0, .c (.imm (.int .i64) cube)), (5, .c (.imm (.int .i64) cube)), (6, .c (.int .i64 (cube.length:Int))), (7, .c (.int .i64 (0:Int)))]) (st' := []) rfl rfl trivial ⟨.inl rfl, .inl rfl, rfl, rfl, trivial⟩) ?_
  rintro i J1 he
  refine And.intro (fun hb => ?_) (fun hb => ?_)
  · have he := ok_t he hb
    have he := ok_rq he
    refine And.intro he.1 ?_
    have he := he.2
    obtain ⟨r1_, hr, he⟩ := ok_bind he
    refine ⟨r1_, hr, ?_⟩
    refine And.intro (fun hb => ?_) (fun hb => ?_)
    · have he := ok_f he hb
      refine And.intro (fun hb => ?_) (fun hb => ?_)
      · have he := ok_t he hb
        have he := ok_rq he
        refine And.intro he.1 ?_
        have he := he.2
        have he := ok_rq he
        refine And.intro he.1 ?_
        have he := he.2
        obtain ⟨r2_, hr, he⟩ := ok_bind he
        refine ⟨r2_, hr, ?_⟩
        obtain ⟨r3_, hr, he⟩ := ok_bind he
        refine ⟨r3_, hr, ?_⟩
        refine And.intro (fun hb => ?_) (fun hb => ?_)
        · have he := ok_t he hb
          have he := ok_some he
          exact ⟨rfl, _, _, Leads.refl _ _, he⟩
        · have he := ok_f he hb
          have he := ok_rq he
          refine And.intro he.1 ?_
          have he := he.2
          have he := ok_some he
          exact ⟨(i + (1:Int)), he, (leads_ren [] (l := [(0, .c (.imm (.int .i64) cube)), (5, .c (.imm (.int .i64) cube)), (6, .c (.int .i64 (cube.length:Int))), (7, .c (.int .i64 (i + (1:Int))))]) (st' := []) rfl rfl trivial ⟨.inl rfl, .inl rfl, rfl, rfl, trivial⟩)⟩
      · have he := ok_f he hb
        have he := ok_rq he
        refine And.intro he.1 ?_
        have he := he.2
        have he := ok_some he
        exact ⟨(i + (1:Int)), he, (leads_ren [] (l := [(0, .c (.imm (.int .i64) cube)), (5, .c (.imm (.int .i64) cube)), (6, .c (.int .i64 (cube.length:Int))), (7, .c (.int .i64 (i + (1:Int))))]) (st' := []) rfl rfl trivial ⟨.inl rfl, .inl rfl, rfl, rfl, trivial⟩)⟩
    · have he := ok_t he hb
      have he := ok_some he
      exact ⟨rfl, _, _, Leads.refl _ _, he⟩
  · have he := ok_f he hb
    have he := ok_some he
    exact ⟨rfl, _, _, Leads.refl _ _, he⟩

noncomputable def c_impl_negations : Con := fun args st => match args, st with
  | [.c (.imm (.int .i64) lits)], [] => .opt ((List Int)) (impl_negations lits) (fun r => .ret (.c (.own 900 false)) [(900, .sl 3 (.int .i64) r .shallow)])
  | _, _ => .fail

noncomputable def C_impl_negations : Cfg := { y := tys, n := 19, h := 0, tab := [], cut := [], hand := [], good := [], deep := [], sched := [] }

theorem t_impl_negations : TabOk Try.prog C_impl_negations := tabOk_of (fun p h => by cases h)

theorem k_impl_negations : Entry Try.prog 162 c_impl_negations := by
  refine entry_by (C := C_impl_negations) mixed tys_ok t_impl_negations (fn := Try.f162) (c := bd Try.f162) (by kernel_rfl) (by kernel_rfl) (by kernel_rfl) (by kernel_rfl) ?_
  intro args st k he
  unfold c_impl_negations at he
  split at he
  rotate_left
  · exact he.elim
  rename_i lits
  have he : Ok (impl_negations lits) (fun r => k (.c (.own 900 false)) [(900, .sl 3 (.int .i64) r .shallow)]) := he
  refine ⟨rfl, rfl, ?_⟩
  refine loop_model mixed tys_ok t_impl_negations (S := Int × (List Int)) (I := (fun (i, out) => (envOf [(3, .c (.own 10000000 false)), (6, .c (.imm (.int .i64) lits)), (7, .c (.int .i64 (lits.length:Int))), (8, .c (.int .i64 i))], [(10000000, .sl 3 (.int .i64) out .shallow)]))) (f := impl_negations_l1 lits) (K := (fun r => k (.c (.own 900 false)) [(900, .sl 3 (.int .i64) r .shallow)])) he (leads_ren [] (l := [(3, .c (.own 10000000 false)), (6, .c (.imm (.int .i64) lits)), (7, .c (.int .i64 (lits.length:Int))), (8, .c (.int .i64 (0:Int)))]) (st' := [(10000000, .sl 3 (.int .i64) ([] : List Int) .shallow)]) rfl rfl ⟨trivial, trivial⟩ ⟨⟨rfl, trivial⟩, .inl rfl, rfl, rfl, trivial⟩) ?_
  rintro ⟨i, out⟩ J1 he
  refine And.intro (fun hb => ?_) (fun hb => ?_)
  · have he := ok_t he hb
    have he := ok_rq he
    refine And.intro he.1 ?_
    have he := he.2
    have he := ok_rq he
    refine And.intro he.1 ?_
    have he := he.2
    have he := ok_rq he
    refine And.intro he.1 ?_
    have he := he.2
    have he := ok_rq he
    refine And.intro he.1 ?_
    have he := he.2
    have he := ok_some he
    exact ⟨((i + (1:Int)), (out ++ [(0 - (lits.getD i.toNat 0))])), he, (leads_ren [(10000000, 16)] (l := [(3, .c (.own 10000000 false)), (6, .c (.imm (.int .i64) lits)), (7, .c (.int .i64 (lits.length:Int))), (8, .c (.int .i64 (i + (1:Int))))]) (st' := [(10000000, .sl 3 (.int .i64) (out ++ [(0 - (lits.getD i.toNat 0))]) .shallow)]) rfl rfl ⟨⟨rfl, rfl⟩, trivial⟩ ⟨⟨⟨rfl, rfl⟩, trivial⟩, .inl rfl, rfl, rfl, trivial⟩)⟩
  · have he := ok_f he hb
    have he := ok_some he
    exact ⟨rfl, _, _, (leads_ren [(900, 10000000)] (l := [(2, .c (.own 900 false))]) (st' := [(900, .sl 3 (.int .i64) out .shallow)]) rfl rfl ⟨⟨rfl, rfl⟩, trivial⟩ ⟨⟨⟨rfl, rfl⟩, trivial⟩, trivial⟩), he⟩

noncomputable def c_slices_Index_int : Con := fun args st => match args, st with
  | [.c (.imm (.int .i64) s_), .c (.int .i64 v)], [] => .opt (Int) (slices_Index_int s_ v) (fun r => .ret (.c (.int .i64 r)) [])
  | _, _ => .fail

noncomputable def C_slices_Index_int : Cfg := { y := tys, n := 19, h := 0, tab := [], cut := [], hand := [], good := [], deep := [], sched := [] }

theorem t_slices_Index_int : TabOk Try.prog C_slices_Index_int := tabOk_of (fun p h => by cases h)

theorem k_slices_Index_int : Entry Try.prog 262 c_slices_Index_int := by
  refine entry_by (C := C_slices_Index_int) mixed tys_ok t_slices_Index_int (fn := Try.f262) (c := bd Try.f262) (by kernel_rfl) (by kernel_rfl) (by kernel_rfl) (by kernel_rfl) ?_
  intro args st k he
  unfold c_slices_Index_int at he
  split at he
  rotate_left
  · exact he.elim
  rename_i s_ v
  have he : Ok (slices_Index_int s_ v) (fun r => k (.c (.int .i64 r)) []) := he
  refine ⟨rfl, rfl, ?_⟩
  refine loop_model mixed tys_ok t_slices_Index_int (S := Int) (I := (fun i => (envOf [(0, .c (.imm (.int .i64) s_)), (1, .c (.int .i64 v)), (7, .c (.int .i64 (s_.length:Int))), (8, .c (.int .i64 i))], []))) (f := slices_Index_int_l1 s_ v) (K := (fun r => k (.c (.int .i64 r)) [])) he (leads_ren [] (l := [(0, .c (.imm (.int .i64) s_)), (1, .c (.int .i64 v)), (7, .c (.int .i64 (s_.length:Int))), (8, .c (.int .i64 (0:Int)))]) (st' := []) rfl rfl trivial ⟨.inl rfl, rfl, rfl, rfl, trivial⟩) ?_
  rintro i J1 he
  refine And.intro (fun hb => ?_) (fun hb => ?_)
  · have he := ok_t he hb
    have he := ok_rq he
    refine And.intro he.1 ?_
    have he := he.2
    refine And.intro (fun hb => ?_) (fun hb => ?_)
    · have he := ok_t he hb
      have he := ok_some he
      exact ⟨rfl, _, _, Leads.refl _ _, he⟩
    · have he := ok_f he hb
      have he := ok_rq he
      refine And.intro he.1 ?_
      have he := he.2
      have he := ok_some he
      exact ⟨(i + (1:Int)), he, (leads_ren [] (l := [(0, .c (.imm (.int .i64) s_)), (1, .c (.int .i64 v)), (7, .c (.int .i64 (s_.length:Int))), (8, .c (.int .i64 (i + (1:Int))))]) (st' := []) rfl rfl trivial ⟨.inl rfl, rfl, rfl, rfl, trivial⟩)⟩
  · have he := ok_f he hb
    have he := ok_some he
    exact ⟨rfl, _, _, Leads.refl _ _, he⟩

noncomputable def c_slices_Contains_int : Con := fun args st => match args, st with
  | [.c (.imm (.int .i64) s_), .c (.int .i64 v)], [] => .opt (Bool) (slices_Contains_int s_ v) (fun r => .ret (.c (.bool r)) [])
  | _, _ => .fail

noncomputable def C_slices_Contains_int : Cfg := { y := tys, n := 9, h := 0, tab := [(262, c_slices_Index_int)], cut := [], hand := [], good := [], deep := [], sched := [] }

theorem t_slices_Contains_int : TabOk Try.prog C_slices_Contains_int := by
  refine tabOk_of ?_
  simp only [C_slices_Contains_int, List.forall_mem_cons]
  exact ⟨k_slices_Index_int, fun p h => by cases h⟩

theorem k_slices_Contains_int : Entry Try.prog 211 c_slices_Contains_int := by
  refine entry_by (C := C_slices_Contains_int) mixed tys_ok t_slices_Contains_int (fn := Try.f211) (c := bd Try.f211) (by kernel_rfl) (by kernel_rfl) (by kernel_rfl) (by kernel_rfl) ?_
  intro args st k he
  unfold c_slices_Contains_int at he
  split at he
  rotate_left
  · exact he.elim
  rename_i s_ v
  have he : Ok (slices_Contains_int s_ v) (fun r => k (.c (.bool r)) []) := he
  refine ⟨rfl, rfl, ?_⟩
  obtain ⟨r1_, hr, he⟩ := ok_bind he
  refine ⟨r1_, hr, ?_⟩
  have he := ok_some he
  exact ⟨rfl, _, _, Leads.refl _ _, he⟩

noncomputable def c_slices_Clone_int : Con := fun args st => match args, st with
  | [.c (.imm (.int .i64) s_)], [] => .opt ((List Int)) (slices_Clone_int s_) (fun r => .ret (.c (.own 900 false)) [(900, .sl 3 (.int .i64) r .shallow)])
  | _, _ => .fail

noncomputable def C_slices_Clone_int : Cfg := { y := tys, n := 8, h := 0, tab := [], cut := [], hand := [], good := [], deep := [], sched := [] }

theorem t_slices_Clone_int : TabOk Try.prog C_slices_Clone_int := tabOk_of (fun p h => by cases h)

theorem k_slices_Clone_int : Entry Try.prog 150 c_slices_Clone_int := by
  refine entry_by (C := C_slices_Clone_int) mixed tys_ok t_slices_Clone_int (fn := Try.f150) (c := bd Try.f150) (by kernel_rfl) (by kernel_rfl) (by kernel_rfl) (by kernel_rfl) ?_
  intro args st k he
  unfold c_slices_Clone_int at he
  split at he
  rotate_left
  · exact he.elim
  rename_i s_
  have he : Ok (slices_Clone_int s_) (fun r => k (.c (.own 900 false)) [(900, .sl 3 (.int .i64) r .shallow)]) := he
  refine ⟨rfl, rfl, ?_⟩
  refine fun b1_ hb1_ => ?_
  have he := ok_nt he hb1_
  refine And.intro (fun hb => ?_) (fun hb => ?_)
  · have he := ok_t he hb
    have he := ok_some he
    exact ⟨rfl, _, _, (leads_ren [] (l := [(2, .c (.own 900 false))]) (st' := [(900, .sl 3 (.int .i64) ([] : List Int) .shallow)]) rfl rfl ⟨trivial, trivial⟩ ⟨⟨rfl, trivial⟩, trivial⟩), he⟩
  · have he := ok_f he hb
    have he := ok_rq he
    refine And.intro he.1 ?_
    have he := he.2
    have he := ok_some he
    exact ⟨rfl, _, _, (leads_ren [(900, 7)] (l := [(2, .c (.own 900 false))]) (st' := [(900, .sl 3 (.int .i64) (([] : List Int) ++ s_) .shallow)]) rfl rfl ⟨⟨rfl, rfl⟩, trivial⟩ ⟨⟨⟨rfl, rfl⟩, trivial⟩, trivial⟩), he⟩

noncomputable def c_impl_ClauseOf_1 : Con := fun args st => match args, st with
  | [.c (.int .i64 a), .c (.int .i64 b)], [] => .opt (Int) (impl_ClauseOf_1 a b) (fun r => .ret (.c (.int .i64 r)) [])
  | _, _ => .fail

noncomputable def C_impl_ClauseOf_1 : Cfg := { y := tys, n := 10, h := 0, tab := [(111, c_impl_variableOf)], cut := [], hand := [], good := [], deep := [], sched := [] }

theorem t_impl_ClauseOf_1 : TabOk Try.prog C_impl_ClauseOf_1 := by
  refine tabOk_of ?_
  simp only [C_impl_ClauseOf_1, List.forall_mem_cons]
  exact ⟨k_impl_variableOf, fun p h => by cases h⟩

theorem k_impl_ClauseOf_1 : Entry Try.prog 233 c_impl_ClauseOf_1 := by
  refine entry_by (C := C_impl_ClauseOf_1) mixed tys_ok t_impl_ClauseOf_1 (fn := Try.f233) (c := bd Try.f233) (by kernel_rfl) (by kernel_rfl) (by kernel_rfl) (by kernel_rfl) ?_
  intro args st k he
  unfold c_impl_ClauseOf_1 at he
  split at he
  rotate_left
  · exact he.elim
  rename_i a b
  have he : Ok (impl_ClauseOf_1 a b) (fun r => k (.c (.int .i64 r)) []) := he
  refine ⟨rfl, rfl, ?_⟩
  obtain ⟨r1_, hr, he⟩ := ok_bind he
  refine ⟨r1_, hr, ?_⟩
  obtain ⟨r2_, hr, he⟩ := ok_bind he
  refine ⟨r2_, hr, ?_⟩
  have he := ok_rq he
  refine And.intro he.1 ?_
  have he := he.2
  have he := ok_some he
  exact ⟨rfl, _, _, Leads.refl _ _, he⟩

noncomputable def c_slices_SortFunc_int__impl_ClauseOf_1 : Con := sortC0 233 impl_ClauseOf_1

theorem k_slices_SortFunc_int__impl_ClauseOf_1 : Entry Try.prog 232 c_slices_SortFunc_int__impl_ClauseOf_1 := sort_entry0 lays232 k_impl_ClauseOf_1 (fun x y => rfl)

noncomputable def c_slices_Compact_int : Con := fun args st => match args, st with
  | [.c (.own 0 false)], [(0, .sl 3 (.int .i64) s_ .shallow)] => .opt ((List Int)) (slices_Compact_int s_) (fun r => .ret (.c (.own 900 false)) [(0, .dead), (900, .sl 3 (.int .i64) r .shallow)])
  | _, _ => .fail

noncomputable def C_slices_Compact_int : Cfg := { y := tys, n := 61, h := 1, tab := [], cut := [14], hand := [], good := [], deep := [], sched := [] }

theorem t_slices_Compact_int : TabOk Try.prog C_slices_Compact_int := tabOk_of (fun p h => by cases h)

theorem k_slices_Compact_int : Entry Try.prog 234 c_slices_Compact_int := by
  refine entry_by (C := C_slices_Compact_int) mixed tys_ok t_slices_Compact_int (fn := Try.f234) (c := bd Try.f234) (by kernel_rfl) (by kernel_rfl) (by kernel_rfl) (by kernel_rfl) ?_
  intro args st k he
  unfold c_slices_Compact_int at he
  split at he
  rotate_left
  · exact he.elim
  rename_i s_
  have he : Ok (slices_Compact_int s_) (fun r => k (.c (.own 900 false)) [(0, .dead), (900, .sl 3 (.int .i64) r .shallow)]) := he
  refine ⟨rfl, rfl, ?_⟩
  refine And.intro (fun hb => ?_) (fun hb => ?_)
  · have he := ok_t he hb
    have he := ok_some he
    exact ⟨rfl, _, _, (leads_ren [(900, 0)] (l := [(2, .c (.own 900 false))]) (st' := [(0, .dead), (900, .sl 3 (.int .i64) s_ .shallow)]) rfl rfl ⟨trivial, ⟨rfl, rfl⟩, trivial⟩ ⟨⟨⟨rfl, rfl⟩, trivial⟩, trivial⟩), he⟩
  · have he := ok_f he hb
    refine loop_model mixed tys_ok t_slices_Compact_int (S := Int) (I := (fun k_ => (envOf [(0, .c (.own 0 false)), (3, .c (.int .i64 k_))], [(0, .sl 3 (.int .i64) s_ .shallow)]))) (f := slices_Compact_int_l1 s_) (K := (fun r => k (.c (.own 900 false)) [(0, .dead), (900, .sl 3 (.int .i64) r .shallow)])) he (leads_ren [] (l := [(0, .c (.own 0 false)), (3, .c (.int .i64 (1:Int)))]) (st' := [(0, .sl 3 (.int .i64) s_ .shallow)]) rfl rfl ⟨⟨rfl, rfl⟩, trivial⟩ ⟨⟨⟨rfl, rfl⟩, trivial⟩, rfl, trivial⟩) ?_
    rintro k_ J1 he
    refine And.intro (fun hb => ?_) (fun hb => ?_)
    · have he := ok_t he hb
      refine And.intro (by kernel_rfl) ?_
      have he := ok_rq he
      refine And.intro he.1 ?_
      have he := he.2
      have he := ok_rq he
      refine And.intro he.1 ?_
      have he := he.2
      have he := ok_rq he
      refine And.intro he.1 ?_
      have he := he.2
      refine And.intro (fun hb => ?_) (fun hb => ?_)
      · have he := ok_t he hb
        have he := ok_rq he
        refine And.intro he.1 ?_
        have he := he.2
        refine seq_model mixed tys_ok t_slices_Compact_int (S := Int × (List Int)) (I := (fun (k_2, s_2) => (envOf [(0, .c (.own 0 false)), (3, .c (.int .i64 k_2))], [(0, .sl 3 (.int .i64) s_2 .shallow)]))) (B := fun s => Ok (slices_Compact_int_j1 s) (LK J1 (fun r => k (.c (.own 900 false)) [(0, .dead), (900, .sl 3 (.int .i64) r .shallow)]))) ?_ ?_
        · rintro ⟨k_2, s_2⟩ he
          have he := ok_rq he
          refine And.intro he.1 ?_
          have he := he.2
          have he := ok_rq he
          refine And.intro he.1 ?_
          have he := he.2
          have he := ok_some he
          exact ⟨rfl, _, _, (leads_ren [(900, 59)] (l := [(2, .c (.own 900 false))]) (st' := [(0, .dead), (900, .sl 3 (.int .i64) ((s_2.take k_2.toNat ++ List.replicate (s_2.length - k_2.toNat) (0:Int)).take k_2.toNat) .shallow)]) rfl rfl ⟨trivial, ⟨rfl, rfl⟩, trivial⟩ ⟨⟨⟨rfl, rfl⟩, trivial⟩, trivial⟩), he⟩
        · skip
          refine loop_model mixed tys_ok t_slices_Compact_int (S := Int × Int × (List Int)) (I := (fun (k_1, k2_, s_1) => (envOf [(0, .c (.own 0 false)), (3, .c (.int .i64 k_1)), (4, .c (.view 0 k_)), (5, .c (.int .i64 k2_))], [(0, .sl 3 (.int .i64) s_1 .shallow)]))) (f := slices_Compact_int_l2 k_) (K := (LK J1 (fun r => k (.c (.own 900 false)) [(0, .dead), (900, .sl 3 (.int .i64) r .shallow)]))) he (leads_ren [] (l := [(0, .c (.own 0 false)), (3, .c (.int .i64 k_)), (4, .c (.view 0 k_)), (5, .c (.int .i64 (1:Int)))]) (st' := [(0, .sl 3 (.int .i64) s_ .shallow)]) rfl rfl ⟨⟨rfl, rfl⟩, trivial⟩ ⟨⟨⟨rfl, rfl⟩, trivial⟩, rfl, ⟨⟨rfl, rfl⟩, rfl⟩, rfl, trivial⟩) ?_
          rintro ⟨k_1, k2_, s_1⟩ J2 he
          refine And.intro (fun hb => ?_) (fun hb => ?_)
          · have he := ok_t he hb
            refine And.intro (by kernel_rfl) ?_
            have he := ok_rq he
            refine And.intro he.1 ?_
            have he := he.2
            have he := ok_rq he
            refine And.intro he.1 ?_
            have he := he.2
            have he := ok_rq he
            refine And.intro he.1 ?_
            have he := he.2
            refine And.intro (fun hb => ?_) (fun hb => ?_)
            · have he := ok_t he hb
              have he := ok_rq he
              refine And.intro he.1 ?_
              have he := he.2
              have he := ok_rq he
              refine And.intro he.1 ?_
              have he := he.2
              have he := ok_rq he
              refine And.intro he.1 ?_
              have he := he.2
              have he := ok_rq he
              refine And.intro he.1 ?_
              have he := he.2
              have he := ok_some he
              exact ⟨((k_1 + (1:Int)), (k2_ + (1:Int)), (s_1.set k_1.toNat (s_1.getD (k_ + k2_).toNat 0))), he, (leads_ren [] (l := [(0, .c (.own 0 false)), (3, .c (.int .i64 (k_1 + (1:Int)))), (4, .c (.view 0 k_)), (5, .c (.int .i64 (k2_ + (1:Int))))]) (st' := [(0, .sl 3 (.int .i64) (s_1.set k_1.toNat (s_1.getD (k_ + k2_).toNat 0)) .shallow)]) rfl rfl ⟨⟨rfl, rfl⟩, trivial⟩ ⟨⟨⟨rfl, rfl⟩, trivial⟩, rfl, ⟨⟨rfl, rfl⟩, rfl⟩, rfl, trivial⟩)⟩
            · have he := ok_f he hb
              have he := ok_rq he
              refine And.intro he.1 ?_
              have he := he.2
              have he := ok_some he
              exact ⟨(k_1, (k2_ + (1:Int)), s_1), he, (leads_ren [] (l := [(0, .c (.own 0 false)), (3, .c (.int .i64 k_1)), (4, .c (.view 0 k_)), (5, .c (.int .i64 (k2_ + (1:Int))))]) (st' := [(0, .sl 3 (.int .i64) s_1 .shallow)]) rfl rfl ⟨⟨rfl, rfl⟩, trivial⟩ ⟨⟨⟨rfl, rfl⟩, trivial⟩, rfl, ⟨⟨rfl, rfl⟩, rfl⟩, rfl, trivial⟩)⟩
          · have he := ok_f he hb
            exact ⟨(k_1, s_1), ok_up he, (leads_ren [] (l := [(0, .c (.own 0 false)), (3, .c (.int .i64 k_1))]) (st' := [(0, .sl 3 (.int .i64) s_1 .shallow)]) rfl rfl ⟨⟨rfl, rfl⟩, trivial⟩ ⟨⟨⟨rfl, rfl⟩, trivial⟩, rfl, trivial⟩)⟩
      · have he := ok_f he hb
        have he := ok_rq he
        refine And.intro he.1 ?_
        have he := he.2
        have he := ok_some he
        exact ⟨(k_ + (1:Int)), he, (leads_ren [] (l := [(0, .c (.own 0 false)), (3, .c (.int .i64 (k_ + (1:Int))))]) (st' := [(0, .sl 3 (.int .i64) s_ .shallow)]) rfl rfl ⟨⟨rfl, rfl⟩, trivial⟩ ⟨⟨⟨rfl, rfl⟩, trivial⟩, rfl, trivial⟩)⟩
    · have he := ok_f he hb
      have he := ok_some he
      exact ⟨rfl, _, _, (leads_ren [(900, 0)] (l := [(2, .c (.own 900 false))]) (st' := [(0, .dead), (900, .sl 3 (.int .i64) s_ .shallow)]) rfl rfl ⟨trivial, ⟨rfl, rfl⟩, trivial⟩ ⟨⟨⟨rfl, rfl⟩, trivial⟩, trivial⟩), he⟩

noncomputable def c_impl_ClauseOf : Con := fun args st => match args, st with
  | [.c (.imm (.int .i64) lits)], [] => .opt (Bool × Int × (List (Int × Int))) (impl_ClauseOf lits) (fun r => .ret (.tup [.agg [.own 901 false, .int .i64 r.2.1], .c (.bool r.1)]) [(900, .rc [.own 901 false, .int .i64 r.2.1]), (901, .sl 140 (.pair (.int .i64) (.int .i64)) r.2.2 .shallow)])
  | _, _ => .fail

noncomputable def C_impl_ClauseOf : Cfg := { y := tys, n := 52, h := 0, tab := [(110, c_impl_isLiteral), (150, c_slices_Clone_int), (211, c_slices_Contains_int), (232, c_slices_SortFunc_int__impl_ClauseOf_1), (234, c_slices_Compact_int)], cut := [], hand := [(232, [0]), (234, [0])], good := [], deep := [], sched := [] }

theorem t_impl_ClauseOf : TabOk Try.prog C_impl_ClauseOf := by
  refine tabOk_of ?_
  simp only [C_impl_ClauseOf, List.forall_mem_cons]
  exact ⟨k_impl_isLiteral, k_slices_Clone_int, k_slices_Contains_int, k_slices_SortFunc_int__impl_ClauseOf_1, k_slices_Compact_int, fun p h => by cases h⟩

theorem k_impl_ClauseOf : Entry Try.prog 163 c_impl_ClauseOf := by
  refine entry_by (C := C_impl_ClauseOf) mixed tys_ok t_impl_ClauseOf (fn := Try.f163) (c := bd Try.f163) (by kernel_rfl) (by kernel_rfl) (by kernel_rfl) (by kernel_rfl) ?_
  intro args st k he
  unfold c_impl_ClauseOf at he
  split at he
  rotate_left
  · exact he.elim
  rename_i lits
  have he : Ok (impl_ClauseOf lits) (fun r => k (.tup [.agg [.own 901 false, .int .i64 r.2.1], .c (.bool r.1)]) [(900, .rc [.own 901 false, .int .i64 r.2.1]), (901, .sl 140 (.pair (.int .i64) (.int .i64)) r.2.2 .shallow)]) := he
  refine ⟨rfl, rfl, ?_⟩
  refine And.intro (fun hb => ?_) (fun hb => ?_)
  · have he := ok_t he hb
    have he := ok_some he
    exact ⟨rfl, _, _, (leads_ren [(900, 2)] (l := [(2, .c (.ptr 900 0)), (3, .c (.bool false))]) (st' := [(900, .rc [.own 901 false, .int .i64 (0:Int)]), (901, .sl 140 (.pair (.int .i64) (.int .i64)) ([] : List (Int × Int)) .shallow)]) rfl rfl ⟨⟨⟨rfl, trivial⟩, rfl, trivial⟩, trivial, trivial⟩ ⟨⟨⟨rfl, rfl⟩, rfl⟩, .inr rfl, trivial⟩), he⟩
  · have he := ok_f he hb
    refine loop_model mixed tys_ok t_impl_ClauseOf (S := Int) (I := (fun i => (envOf [(0, .c (.imm (.int .i64) lits)), (2, .c (.ptr 10000000 0)), (14, .c (.imm (.int .i64) lits)), (15, .c (.int .i64 (lits.length:Int))), (16, .c (.int .i64 i))], [(10000000, .rc [.nil, .int .i64 (0:Int)])]))) (f := impl_ClauseOf_l1 lits) (K := (fun r => k (.tup [.agg [.own 901 false, .int .i64 r.2.1], .c (.bool r.1)]) [(900, .rc [.own 901 false, .int .i64 r.2.1]), (901, .sl 140 (.pair (.int .i64) (.int .i64)) r.2.2 .shallow)])) he (leads_ren [(10000000, 2)] (l := [(0, .c (.imm (.int .i64) lits)), (2, .c (.ptr 10000000 0)), (14, .c (.imm (.int .i64) lits)), (15, .c (.int .i64 (lits.length:Int))), (16, .c (.int .i64 (0:Int)))]) (st' := [(10000000, .rc [.nil, .int .i64 (0:Int)])]) rfl rfl ⟨⟨rfl, rfl, trivial⟩, trivial⟩ ⟨.inl rfl, ⟨⟨rfl, rfl⟩, rfl⟩, .inl rfl, rfl, rfl, trivial⟩) ?_
    rintro i J1 he
    refine And.intro (fun hb => ?_) (fun hb => ?_)
    · have he := ok_t he hb
      have he := ok_rq he
      refine And.intro he.1 ?_
      have he := he.2
      obtain ⟨r1_, hr, he⟩ := ok_bind he
      refine ⟨r1_, hr, ?_⟩
      refine And.intro (fun hb => ?_) (fun hb => ?_)
      · have he := ok_f he hb
        have he := ok_rq he
        refine And.intro he.1 ?_
        have he := he.2
        obtain ⟨r2_, hr, he⟩ := ok_bind he
        refine ⟨r2_, hr, ?_⟩
        refine And.intro (fun hb => ?_) (fun hb => ?_)
        · have he := ok_t he hb
          have he := ok_some he
          exact ⟨rfl, _, _, (leads_ren [(900, 10000000)] (l := [(2, .c (.ptr 900 0)), (3, .c (.bool false))]) (st' := [(900, .rc [.own 901 false, .int .i64 (0:Int)]), (901, .sl 140 (.pair (.int .i64) (.int .i64)) ([] : List (Int × Int)) .shallow)]) rfl rfl ⟨⟨⟨rfl, trivial⟩, rfl, trivial⟩, trivial, trivial⟩ ⟨⟨⟨rfl, rfl⟩, rfl⟩, .inr rfl, trivial⟩), he⟩
        · have he := ok_f he hb
          have he := ok_rq he
          refine And.intro he.1 ?_
          have he := he.2
          have he := ok_some he
          exact ⟨(i + (1:Int)), he, (leads_ren [] (l := [(0, .c (.imm (.int .i64) lits)), (2, .c (.ptr 10000000 0)), (14, .c (.imm (.int .i64) lits)), (15, .c (.int .i64 (lits.length:Int))), (16, .c (.int .i64 (i + (1:Int))))]) (st' := [(10000000, .rc [.nil, .int .i64 (0:Int)])]) rfl rfl ⟨⟨rfl, rfl, trivial⟩, trivial⟩ ⟨.inl rfl, ⟨⟨rfl, rfl⟩, rfl⟩, .inl rfl, rfl, rfl, trivial⟩)⟩
      · have he := ok_t he hb
        have he := ok_some he
        exact ⟨rfl, _, _, (leads_ren [(900, 10000000)] (l := [(2, .c (.ptr 900 0)), (3, .c (.bool false))]) (st' := [(900, .rc [.own 901 false, .int .i64 (0:Int)]), (901, .sl 140 (.pair (.int .i64) (.int .i64)) ([] : List (Int × Int)) .shallow)]) rfl rfl ⟨⟨⟨rfl, trivial⟩, rfl, trivial⟩, trivial, trivial⟩ ⟨⟨⟨rfl, rfl⟩, rfl⟩, .inr rfl, trivial⟩), he⟩
    · have he := ok_f he hb
      obtain ⟨r3_, hr, he⟩ := ok_bind he
      refine ⟨r3_, hr, ?_⟩
      obtain ⟨r4_, hr, he⟩ := ok_bind he
      refine ⟨r4_, hr, ?_⟩
      obtain ⟨r5_, hr, he⟩ := ok_bind he
      refine ⟨r5_, hr, ?_⟩
      refine loop_model mixed tys_ok t_impl_ClauseOf (S := Int × (List (Int × Int))) (I := (fun (i1, c_0) => (envOf [(2, .c (.ptr 10001000 0)), (7, .c (.ptr 10001001 0)), (37, .c (.own 10001002 false)), (38, .c (.int .i64 (r5_.length:Int))), (39, .c (.int .i64 i1))], [(10001000, .rc [.nil, .int .i64 (0:Int)]), (10001001, .rc [.own 10001003 false, .int .i64 (1:Int)]), (10001002, .sl 3 (.int .i64) r5_ .shallow), (10001003, .sl 140 (.pair (.int .i64) (.int .i64)) c_0 .shallow)]))) (f := impl_ClauseOf_l2 r5_) (K := (LK J1 (fun r => k (.tup [.agg [.own 901 false, .int .i64 r.2.1], .c (.bool r.1)]) [(900, .rc [.own 901 false, .int .i64 r.2.1]), (901, .sl 140 (.pair (.int .i64) (.int .i64)) r.2.2 .shallow)]))) he (leads_ren [(10001000, 10000000), (10001001, 7), (10001002, 38900)] (l := [(2, .c (.ptr 10001000 0)), (7, .c (.ptr 10001001 0)), (37, .c (.own 10001002 false)), (38, .c (.int .i64 (r5_.length:Int))), (39, .c (.int .i64 (0:Int)))]) (st' := [(10001000, .rc [.nil, .int .i64 (0:Int)]), (10001001, .rc [.own 10001003 false, .int .i64 (1:Int)]), (10001002, .sl 3 (.int .i64) r5_ .shallow), (10001003, .sl 140 (.pair (.int .i64) (.int .i64)) ([] : List (Int × Int)) .shallow)]) rfl rfl ⟨⟨rfl, rfl, trivial⟩, ⟨⟨rfl, trivial⟩, rfl, trivial⟩, ⟨rfl, rfl⟩, trivial, trivial⟩ ⟨⟨⟨rfl, rfl⟩, rfl⟩, ⟨⟨rfl, rfl⟩, rfl⟩, ⟨⟨rfl, rfl⟩, trivial⟩, rfl, rfl, trivial⟩) ?_
      rintro ⟨i1, c_0⟩ J2 he
      refine And.intro (fun hb => ?_) (fun hb => ?_)
      · have he := ok_t he hb
        have he := ok_rq he
        refine And.intro he.1 ?_
        have he := he.2
        have he := ok_rq he
        refine And.intro he.1 ?_
        have he := he.2
        have he := ok_rq he
        refine And.intro he.1 ?_
        have he := he.2
        have he := ok_some he
        exact ⟨((i1 + (1:Int)), (c_0 ++ [((1:Int), (r5_.getD i1.toNat 0))])), he, (leads_ren [(10001003, 48)] (l := [(2, .c (.ptr 10001000 0)), (7, .c (.ptr 10001001 0)), (37, .c (.own 10001002 false)), (38, .c (.int .i64 (r5_.length:Int))), (39, .c (.int .i64 (i1 + (1:Int))))]) (st' := [(10001000, .rc [.nil, .int .i64 (0:Int)]), (10001001, .rc [.own 10001003 false, .int .i64 (1:Int)]), (10001002, .sl 3 (.int .i64) r5_ .shallow), (10001003, .sl 140 (.pair (.int .i64) (.int .i64)) (c_0 ++ [((1:Int), (r5_.getD i1.toNat 0))]) .shallow)]) rfl rfl ⟨⟨rfl, rfl, trivial⟩, ⟨⟨⟨rfl, rfl⟩, trivial⟩, rfl, trivial⟩, ⟨rfl, rfl⟩, ⟨rfl, rfl⟩, trivial⟩ ⟨⟨⟨rfl, rfl⟩, rfl⟩, ⟨⟨rfl, rfl⟩, rfl⟩, ⟨⟨rfl, rfl⟩, trivial⟩, rfl, rfl, trivial⟩)⟩
      · have he := ok_f he hb
        have he := ok_some he
        exact ⟨rfl, _, _, (leads_ren [(900, 10001000), (901, 10001003)] (l := [(2, .c (.ptr 900 0)), (3, .c (.bool true))]) (st' := [(900, .rc [.own 901 false, .int .i64 (1:Int)]), (901, .sl 140 (.pair (.int .i64) (.int .i64)) c_0 .shallow)]) rfl rfl ⟨⟨⟨⟨rfl, rfl⟩, trivial⟩, rfl, trivial⟩, ⟨rfl, rfl⟩, trivial⟩ ⟨⟨⟨rfl, rfl⟩, rfl⟩, .inr rfl, trivial⟩), he⟩

noncomputable def c_impl_LiftStep : Con := fun args st => match args, st with
  | [.agg [.int .i64 a0_0, .int .i64 a0_1, .int .i64 a0_2, .imm (.pair (.int .i64) (.int .i64)) a0_3, .int .i64 a0_4], .c (.imm (.int .i64) a1)], [] => .opt (Bool × Int × Int × Int × Int × (List (Int × Int))) (impl_LiftStep (a0_0, (a0_1, (a0_2, (a0_3, a0_4)))) a1) (fun r => .ret (.tup [.agg [.int .i64 r.2.1, .int .i64 r.2.2.1, .int .i64 r.2.2.2.1, .own 901 false, .int .i64 r.2.2.2.2.1], .c (.bool r.1)]) [(900, .rc [.int .i64 r.2.1, .int .i64 r.2.2.1, .int .i64 r.2.2.2.1, .own 901 false, .int .i64 r.2.2.2.2.1]), (901, .sl 140 (.pair (.int .i64) (.int .i64)) r.2.2.2.2.2 .shallow)])
  | _, _ => .fail

noncomputable def C_impl_LiftStep : Cfg := { y := tys, n := 72, h := 0, tab := [(22, c_impl_ConstraintValid), (161, c_impl_isCube), (162, c_impl_negations), (163, c_impl_ClauseOf)], cut := [11], hand := [], good := [], deep := [], sched := [] }

theorem t_impl_LiftStep : TabOk Try.prog C_impl_LiftStep := by
  refine tabOk_of ?_
  simp only [C_impl_LiftStep, List.forall_mem_cons]
  exact ⟨k_impl_ConstraintValid, k_impl_isCube, k_impl_negations, k_impl_ClauseOf, fun p h => by cases h⟩

theorem k_impl_LiftStep : Entry Try.prog 63 c_impl_LiftStep := by
  refine entry_by (C := C_impl_LiftStep) mixed tys_ok t_impl_LiftStep (fn := Try.f63) (c := bd Try.f63) (by kernel_rfl) (by kernel_rfl) (by kernel_rfl) (by kernel_rfl) ?_
  intro args st k he
  unfold c_impl_LiftStep at he
  split at he
  rotate_left
  · exact he.elim
  rename_i a0_0 a0_1 a0_2 a0_3 a0_4 a1
  have he : Ok (impl_LiftStep (a0_0, (a0_1, (a0_2, (a0_3, a0_4)))) a1) (fun r => k (.tup [.agg [.int .i64 r.2.1, .int .i64 r.2.2.1, .int .i64 r.2.2.2.1, .own 901 false, .int .i64 r.2.2.2.2.1], .c (.bool r.1)]) [(900, .rc [.int .i64 r.2.1, .int .i64 r.2.2.1, .int .i64 r.2.2.2.1, .own 901 false, .int .i64 r.2.2.2.2.1]), (901, .sl 140 (.pair (.int .i64) (.int .i64)) r.2.2.2.2.2 .shallow)]) := he
  refine ⟨rfl, rfl, ?_⟩
  refine And.intro (fun hb => ?_) (fun hb => ?_)
  · have he := ok_f he hb
    refine And.intro (fun hb => ?_) (fun hb => ?_)
    · have he := ok_f he hb
      refine And.intro (fun hb => ?_) (fun hb => ?_)
      · have he := ok_f he hb
        obtain ⟨r1_, hr, he⟩ := ok_bind he
        refine ⟨r1_, hr, ?_⟩
        refine And.intro (fun hb => ?_) (fun hb => ?_)
        · have he := ok_f he hb
          refine And.intro (fun hb => ?_) (fun hb => ?_)
          · have he := ok_f he hb
            obtain ⟨r2_, hr, he⟩ := ok_bind he
            refine ⟨r2_, hr, ?_⟩
            refine And.intro (fun hb => ?_) (fun hb => ?_)
            · have he := ok_t he hb
              have he := ok_some he
              exact ⟨rfl, _, _, (leads_ren [(900, 4)] (l := [(4, .c (.ptr 900 0)), (5, .c (.bool false))]) (st' := [(900, .rc [.int .i64 (0:Int), .int .i64 (0:Int), .int .i64 (0:Int), .own 901 false, .int .i64 (0:Int)]), (901, .sl 140 (.pair (.int .i64) (.int .i64)) ([] : List (Int × Int)) .shallow)]) rfl rfl ⟨⟨rfl, rfl, rfl, ⟨rfl, trivial⟩, rfl, trivial⟩, trivial, trivial⟩ ⟨⟨⟨rfl, rfl⟩, rfl⟩, .inr rfl, trivial⟩), he⟩
            · have he := ok_f he hb
              obtain ⟨r3_, hr, he⟩ := ok_bind he
              refine ⟨r3_, hr, ?_⟩
              refine seq_model mixed tys_ok t_impl_LiftStep (S := (List Int)) (I := (fun i2 => (envOf [(4, .c (.ptr 10001000 0)), (6, .c (.own 10001001 false))], [(10001000, .rc [.int .i64 (0:Int), .int .i64 (0:Int), .int .i64 (0:Int), .nil, .int .i64 (0:Int)]), (10001001, .sl 3 (.int .i64) i2 .shallow)]))) (B := fun s => Ok (impl_LiftStep_j1 s) (fun r => k (.tup [.agg [.int .i64 r.2.1, .int .i64 r.2.2.1, .int .i64 r.2.2.2.1, .own 901 false, .int .i64 r.2.2.2.2.1], .c (.bool r.1)]) [(900, .rc [.int .i64 r.2.1, .int .i64 r.2.2.1, .int .i64 r.2.2.2.1, .own 901 false, .int .i64 r.2.2.2.2.1]), (901, .sl 140 (.pair (.int .i64) (.int .i64)) r.2.2.2.2.2 .shallow)])) ?_ ?_
              · rintro i2 he
                obtain ⟨r4_, hr, he⟩ := ok_bind he
                refine ⟨r4_, hr, ?_⟩
                refine And.intro (fun hb => ?_) (fun hb => ?_)
                · have he := ok_t he hb
                  have he := ok_some he
                  exact ⟨rfl, _, _, (leads_ren [(900, 10001000)] (l := [(4, .c (.ptr 900 0)), (5, .c (.bool false))]) (st' := [(900, .rc [.int .i64 (0:Int), .int .i64 (0:Int), .int .i64 (0:Int), .own 901 false, .int .i64 (0:Int)]), (901, .sl 140 (.pair (.int .i64) (.int .i64)) ([] : List (Int × Int)) .shallow)]) rfl rfl ⟨⟨rfl, rfl, rfl, ⟨rfl, trivial⟩, rfl, trivial⟩, trivial, trivial⟩ ⟨⟨⟨rfl, rfl⟩, rfl⟩, .inr rfl, trivial⟩), he⟩
                · have he := ok_f he hb
                  have he := ok_some he
                  exact ⟨rfl, _, _, (leads_ren [(900, 10001000), (901, 65901)] (l := [(4, .c (.ptr 900 0)), (5, .c (.bool true))]) (st' := [(900, .rc [.int .i64 (7:Int), .int .i64 (0:Int), .int .i64 (0:Int), .own 901 false, .int .i64 r4_.2.1]), (901, .sl 140 (.pair (.int .i64) (.int .i64)) r4_.2.2 .shallow)]) rfl rfl ⟨⟨rfl, rfl, rfl, ⟨⟨rfl, rfl⟩, trivial⟩, rfl, trivial⟩, ⟨rfl, rfl⟩, trivial⟩ ⟨⟨⟨rfl, rfl⟩, rfl⟩, .inr rfl, trivial⟩), he⟩
              · skip
                refine loop_model mixed tys_ok t_impl_LiftStep (S := Int × (List Int)) (I := (fun (i, i1) => (envOf [(4, .c (.ptr 10000000 0)), (6, .c (.own 10000001 false)), (46, .c (.imm (.pair (.int .i64) (.int .i64)) (a0_0, (a0_1, (a0_2, (a0_3, a0_4)))).2.2.2.1)), (47, .c (.int .i64 ((a0_0, (a0_1, (a0_2, (a0_3, a0_4)))).2.2.2.1.length:Int))), (48, .c (.int .i64 i))], [(10000000, .rc [.int .i64 (0:Int), .int .i64 (0:Int), .int .i64 (0:Int), .nil, .int .i64 (0:Int)]), (10000001, .sl 3 (.int .i64) i1 .shallow)]))) (f := impl_LiftStep_l1 (a0_0, (a0_1, (a0_2, (a0_3, a0_4))))) (K := (fun r => k (.tup [.agg [.int .i64 r.2.1, .int .i64 r.2.2.1, .int .i64 r.2.2.2.1, .own 901 false, .int .i64 r.2.2.2.2.1], .c (.bool r.1)]) [(900, .rc [.int .i64 r.2.1, .int .i64 r.2.2.1, .int .i64 r.2.2.2.1, .own 901 false, .int .i64 r.2.2.2.2.1]), (901, .sl 140 (.pair (.int .i64) (.int .i64)) r.2.2.2.2.2 .shallow)])) he (leads_ren [(10000000, 4), (10000001, 44900)] (l := [(4, .c (.ptr 10000000 0)), (6, .c (.own 10000001 false)), (46, .c (.imm (.pair (.int .i64) (.int .i64)) (a0_0, (a0_1, (a0_2, (a0_3, a0_4)))).2.2.2.1)), (47, .c (.int .i64 ((a0_0, (a0_1, (a0_2, (a0_3, a0_4)))).2.2.2.1.length:Int))), (48, .c (.int .i64 (0:Int)))]) (st' := [(10000000, .rc [.int .i64 (0:Int), .int .i64 (0:Int), .int .i64 (0:Int), .nil, .int .i64 (0:Int)]), (10000001, .sl 3 (.int .i64) r3_ .shallow)]) rfl rfl ⟨⟨rfl, rfl, rfl, rfl, rfl, trivial⟩, ⟨rfl, rfl⟩, trivial⟩ ⟨⟨⟨rfl, rfl⟩, rfl⟩, ⟨⟨rfl, rfl⟩, trivial⟩, .inl rfl, rfl, rfl, trivial⟩) ?_
                rintro ⟨i, i1⟩ J1 he
                refine And.intro (fun hb => ?_) (fun hb => ?_)
                · have he := ok_t he hb
                  have he := ok_rq he
                  refine And.intro he.1 ?_
                  have he := he.2
                  refine And.intro (fun hb => ?_) (fun hb => ?_)
                  · have he := ok_t he hb
                    have he := ok_some he
                    exact ⟨rfl, _, _, (leads_ren [(900, 10000000)] (l := [(4, .c (.ptr 900 0)), (5, .c (.bool false))]) (st' := [(900, .rc [.int .i64 (0:Int), .int .i64 (0:Int), .int .i64 (0:Int), .own 901 false, .int .i64 (0:Int)]), (901, .sl 140 (.pair (.int .i64) (.int .i64)) ([] : List (Int × Int)) .shallow)]) rfl rfl ⟨⟨rfl, rfl, rfl, ⟨rfl, trivial⟩, rfl, trivial⟩, trivial, trivial⟩ ⟨⟨⟨rfl, rfl⟩, rfl⟩, .inr rfl, trivial⟩), he⟩
                  · have he := ok_f he hb
                    have he := ok_rq he
                    refine And.intro he.1 ?_
                    have he := he.2
                    have he := ok_rq he
                    refine And.intro he.1 ?_
                    have he := he.2
                    have he := ok_some he
                    exact ⟨((i + (1:Int)), (i1 ++ [((a0_0, (a0_1, (a0_2, (a0_3, a0_4)))).2.2.2.1.getD i.toNat (0, 0)).2])), he, (leads_ren [(10000001, 60)] (l := [(4, .c (.ptr 10000000 0)), (6, .c (.own 10000001 false)), (46, .c (.imm (.pair (.int .i64) (.int .i64)) (a0_0, (a0_1, (a0_2, (a0_3, a0_4)))).2.2.2.1)), (47, .c (.int .i64 ((a0_0, (a0_1, (a0_2, (a0_3, a0_4)))).2.2.2.1.length:Int))), (48, .c (.int .i64 (i + (1:Int))))]) (st' := [(10000000, .rc [.int .i64 (0:Int), .int .i64 (0:Int), .int .i64 (0:Int), .nil, .int .i64 (0:Int)]), (10000001, .sl 3 (.int .i64) (i1 ++ [((a0_0, (a0_1, (a0_2, (a0_3, a0_4)))).2.2.2.1.getD i.toNat (0, 0)).2]) .shallow)]) rfl rfl ⟨⟨rfl, rfl, rfl, rfl, rfl, trivial⟩, ⟨rfl, rfl⟩, trivial⟩ ⟨⟨⟨rfl, rfl⟩, rfl⟩, ⟨⟨rfl, rfl⟩, trivial⟩, .inl rfl, rfl, rfl, trivial⟩)⟩
                · have he := ok_f he hb
                  exact ⟨i1, ok_up he, (leads_ren [(10001000, 10000000), (10001001, 10000001)] (l := [(4, .c (.ptr 10001000 0)), (6, .c (.own 10001001 false))]) (st' := [(10001000, .rc [.int .i64 (0:Int), .int .i64 (0:Int), .int .i64 (0:Int), .nil, .int .i64 (0:Int)]), (10001001, .sl 3 (.int .i64) i1 .shallow)]) rfl rfl ⟨⟨rfl, rfl, rfl, rfl, rfl, trivial⟩, ⟨rfl, rfl⟩, trivial⟩ ⟨⟨⟨rfl, rfl⟩, rfl⟩, ⟨⟨rfl, rfl⟩, trivial⟩, trivial⟩)⟩
          · have he := ok_t he hb
            have he := ok_some he
            exact ⟨rfl, _, _, (leads_ren [(900, 4)] (l := [(4, .c (.ptr 900 0)), (5, .c (.bool false))]) (st' := [(900, .rc [.int .i64 (0:Int), .int .i64 (0:Int), .int .i64 (0:Int), .own 901 false, .int .i64 (0:Int)]), (901, .sl 140 (.pair (.int .i64) (.int .i64)) ([] : List (Int × Int)) .shallow)]) rfl rfl ⟨⟨rfl, rfl, rfl, ⟨rfl, trivial⟩, rfl, trivial⟩, trivial, trivial⟩ ⟨⟨⟨rfl, rfl⟩, rfl⟩, .inr rfl, trivial⟩), he⟩
        · have he := ok_t he hb
          have he := ok_some he
          exact ⟨rfl, _, _, (leads_ren [(900, 4)] (l := [(4, .c (.ptr 900 0)), (5, .c (.bool false))]) (st' := [(900, .rc [.int .i64 (0:Int), .int .i64 (0:Int), .int .i64 (0:Int), .own 901 false, .int .i64 (0:Int)]), (901, .sl 140 (.pair (.int .i64) (.int .i64)) ([] : List (Int × Int)) .shallow)]) rfl rfl ⟨⟨rfl, rfl, rfl, ⟨rfl, trivial⟩, rfl, trivial⟩, trivial, trivial⟩ ⟨⟨⟨rfl, rfl⟩, rfl⟩, .inr rfl, trivial⟩), he⟩
      · have he := ok_t he hb
        have he := ok_some he
        exact ⟨rfl, _, _, (leads_ren [(900, 4)] (l := [(4, .c (.ptr 900 0)), (5, .c (.bool false))]) (st' := [(900, .rc [.int .i64 (0:Int), .int .i64 (0:Int), .int .i64 (0:Int), .own 901 false, .int .i64 (0:Int)]), (901, .sl 140 (.pair (.int .i64) (.int .i64)) ([] : List (Int × Int)) .shallow)]) rfl rfl ⟨⟨rfl, rfl, rfl, ⟨rfl, trivial⟩, rfl, trivial⟩, trivial, trivial⟩ ⟨⟨⟨rfl, rfl⟩, rfl⟩, .inr rfl, trivial⟩), he⟩
    · have he := ok_t he hb
      have he := ok_some he
      exact ⟨rfl, _, _, (leads_ren [(900, 4)] (l := [(4, .c (.ptr 900 0)), (5, .c (.bool false))]) (st' := [(900, .rc [.int .i64 (0:Int), .int .i64 (0:Int), .int .i64 (0:Int), .own 901 false, .int .i64 (0:Int)]), (901, .sl 140 (.pair (.int .i64) (.int .i64)) ([] : List (Int × Int)) .shallow)]) rfl rfl ⟨⟨rfl, rfl, rfl, ⟨rfl, trivial⟩, rfl, trivial⟩, trivial, trivial⟩ ⟨⟨⟨rfl, rfl⟩, rfl⟩, .inr rfl, trivial⟩), he⟩
  · have he := ok_t he hb
    have he := ok_some he
    exact ⟨rfl, _, _, (leads_ren [(900, 4)] (l := [(4, .c (.ptr 900 0)), (5, .c (.bool false))]) (st' := [(900, .rc [.int .i64 (0:Int), .int .i64 (0:Int), .int .i64 (0:Int), .own 901 false, .int .i64 (0:Int)]), (901, .sl 140 (.pair (.int .i64) (.int .i64)) ([] : List (Int × Int)) .shallow)]) rfl rfl ⟨⟨rfl, rfl, rfl, ⟨rfl, trivial⟩, rfl, trivial⟩, trivial, trivial⟩ ⟨⟨⟨rfl, rfl⟩, rfl⟩, .inr rfl, trivial⟩), he⟩

noncomputable def c_laws_eqTerm : Con := fun args st => match args, st with
  | [.agg [.int .i64 a_0, .int .i64 a_1], .agg [.int .i64 b_0, .int .i64 b_1]], [] => .opt (Bool) (laws_eqTerm (a_0, a_1) (b_0, b_1)) (fun r => .ret (.c (.bool r)) [])
  | _, _ => .fail

noncomputable def C_laws_eqTerm : Cfg := { y := tys, n := 15, h := 0, tab := [], cut := [], hand := [], good := [], deep := [], sched := [] }

theorem t_laws_eqTerm : TabOk Try.prog C_laws_eqTerm := tabOk_of (fun p h => by cases h)

theorem k_laws_eqTerm : Entry Try.prog 210 c_laws_eqTerm := by
  refine entry_by (C := C_laws_eqTerm) mixed tys_ok t_laws_eqTerm (fn := Try.f210) (c := bd Try.f210) (by kernel_rfl) (by kernel_rfl) (by kernel_rfl) (by kernel_rfl) ?_
  intro args st k he
  unfold c_laws_eqTerm at he
  split at he
  rotate_left
  · exact he.elim
  rename_i a_0 a_1 b_0 b_1
  have he : Ok (laws_eqTerm (a_0, a_1) (b_0, b_1)) (fun r => k (.c (.bool r)) []) := he
  refine ⟨rfl, rfl, ?_⟩
  refine And.intro (fun hb => ?_) (fun hb => ?_)
  · have he := ok_t he hb
    have he := ok_some he
    exact ⟨rfl, _, _, (leads_ren [] (l := [(4, .c (.bool false))]) (st' := []) rfl rfl trivial ⟨.inr rfl, trivial⟩), he⟩
  · have he := ok_f he hb
    refine And.intro (fun hb => ?_) (fun hb => ?_)
    · have he := ok_t he hb
      have he := ok_some he
      exact ⟨rfl, _, _, (leads_ren [] (l := [(4, .c (.bool false))]) (st' := []) rfl rfl trivial ⟨.inr rfl, trivial⟩), he⟩
    · have he := ok_f he hb
      have he := ok_some he
      exact ⟨rfl, _, _, (leads_ren [] (l := [(4, .c (.bool true))]) (st' := []) rfl rfl trivial ⟨.inr rfl, trivial⟩), he⟩

noncomputable def c_laws_eqTermS : Con := fun args st => match args, st with
  | [.c (.imm (.pair (.int .i64) (.int .i64)) a), .c (.imm (.pair (.int .i64) (.int .i64)) b)], [] => .opt (Bool) (laws_eqTermS a b) (fun r => .ret (.c (.bool r)) [])
  | _, _ => .fail

noncomputable def C_laws_eqTermS : Cfg := { y := tys, n := 27, h := 0, tab := [(210, c_laws_eqTerm)], cut := [], hand := [], good := [], deep := [], sched := [(6, (.first 0 (.first 1 (.first 2 (.first 3 (.first 4 (.first 5 (.first 6 (.first 7 (.alt 8 (.first 9 .done) .stop))))))))))] }

theorem t_laws_eqTermS : TabOk Try.prog C_laws_eqTermS := by
  refine tabOk_of ?_
  simp only [C_laws_eqTermS, List.forall_mem_cons]
  exact ⟨k_laws_eqTerm, fun p h => by cases h⟩

theorem k_laws_eqTermS : Entry Try.prog 116 c_laws_eqTermS := by
  refine entry_by (C := C_laws_eqTermS) mixed tys_ok t_laws_eqTermS (fn := Try.f116) (c := bd Try.f116) (by kernel_rfl) (by kernel_rfl) (by kernel_rfl) (by kernel_rfl) ?_
  intro args st k he
  unfold c_laws_eqTermS at he
  split at he
  rotate_left
  · exact he.elim
  rename_i a b
  have he : Ok (laws_eqTermS a b) (fun r => k (.c (.bool r)) []) := he
  refine ⟨rfl, rfl, ?_⟩
  refine And.intro (fun hb => ?_) (fun hb => ?_)
  · have he := ok_t he hb
    have he := ok_some he
    exact ⟨rfl, _, _, Leads.refl _ _, he⟩
  · have he := ok_f he hb
    refine loop_model mixed tys_ok t_laws_eqTermS (S := Int) (I := (fun i => (envOf [(0, .c (.imm (.pair (.int .i64) (.int .i64)) a)), (1, .c (.imm (.pair (.int .i64) (.int .i64)) b)), (5, .c (.int .i64 i))], []))) (f := laws_eqTermS_l1 a b) (K := (fun r => k (.c (.bool r)) [])) he (leads_ren [] (l := [(0, .c (.imm (.pair (.int .i64) (.int .i64)) a)), (1, .c (.imm (.pair (.int .i64) (.int .i64)) b)), (5, .c (.int .i64 (0:Int)))]) (st' := []) rfl rfl trivial ⟨.inl rfl, .inl rfl, rfl, trivial⟩) ?_
    rintro i J1 he
    refine And.intro (fun hb => ?_) (fun hb => ?_)
    · have he := ok_t he hb
      refine And.intro (by kernel_rfl) ?_
      have he := ok_rq he
      refine And.intro he.1 ?_
      have he := he.2
      have he := ok_rq he
      refine And.intro he.1 ?_
      have he := he.2
      refine And.intro ?_ trivial
      obtain ⟨r2_, hr, he⟩ := ok_bind he
      refine ⟨r2_, hr, ?_⟩
      refine And.intro (fun hb => ?_) (fun hb => ?_)
      · have he := ok_t he hb
        have he := ok_some he
        exact ⟨rfl, _, _, Leads.refl _ _, he⟩
      · have he := ok_f he hb
        have he := ok_rq he
        refine And.intro he.1 ?_
        have he := he.2
        have he := ok_some he
        exact ⟨(i + (1:Int)), he, (leads_ren [] (l := [(0, .c (.imm (.pair (.int .i64) (.int .i64)) a)), (1, .c (.imm (.pair (.int .i64) (.int .i64)) b)), (5, .c (.int .i64 (i + (1:Int))))]) (st' := []) rfl rfl trivial ⟨.inl rfl, .inl rfl, rfl, trivial⟩)⟩
    · have he := ok_f he hb
      have he := ok_some he
      exact ⟨rfl, _, _, Leads.refl _ _, he⟩

noncomputable def c_laws_eqConstraint : Con := fun args st => match args, st with
  | [.agg [.imm (.pair (.int .i64) (.int .i64)) a_0, .int .i64 a_1], .agg [.imm (.pair (.int .i64) (.int .i64)) b_0, .int .i64 b_1]], [] => .opt (Bool) (laws_eqConstraint (a_0, a_1) (b_0, b_1)) (fun r => .ret (.c (.bool r)) [])
  | _, _ => .fail

noncomputable def C_laws_eqConstraint : Cfg := { y := tys, n := 16, h := 0, tab := [(116, c_laws_eqTermS)], cut := [], hand := [], good := [], deep := [], sched := [] }

theorem t_laws_eqConstraint : TabOk Try.prog C_laws_eqConstraint := by
  refine tabOk_of ?_
  simp only [C_laws_eqConstraint, List.forall_mem_cons]
  exact ⟨k_laws_eqTermS, fun p h => by cases h⟩

theorem k_laws_eqConstraint : Entry Try.prog 27 c_laws_eqConstraint := by
  refine entry_by (C := C_laws_eqConstraint) mixed tys_ok t_laws_eqConstraint (fn := Try.f27) (c := bd Try.f27) (by kernel_rfl) (by kernel_rfl) (by kernel_rfl) (by kernel_rfl) ?_
  intro args st k he
  unfold c_laws_eqConstraint at he
  split at he
  rotate_left
  · exact he.elim
  rename_i a_0 a_1 b_0 b_1
  have he : Ok (laws_eqConstraint (a_0, a_1) (b_0, b_1)) (fun r => k (.c (.bool r)) []) := he
  refine ⟨rfl, rfl, ?_⟩
  obtain ⟨r1_, hr, he⟩ := ok_bind he
  refine ⟨r1_, hr, ?_⟩
  refine And.intro (fun hb => ?_) (fun hb => ?_)
  · have he := ok_t he hb
    have he := ok_some he
    exact ⟨rfl, _, _, (leads_ren [] (l := [(4, .c (.bool false))]) (st' := []) rfl rfl trivial ⟨.inr rfl, trivial⟩), he⟩
  · have he := ok_f he hb
    refine And.intro (fun hb => ?_) (fun hb => ?_)
    · have he := ok_t he hb
      have he := ok_some he
      exact ⟨rfl, _, _, (leads_ren [] (l := [(4, .c (.bool false))]) (st' := []) rfl rfl trivial ⟨.inr rfl, trivial⟩), he⟩
    · have he := ok_f he hb
      have he := ok_some he
      exact ⟨rfl, _, _, (leads_ren [] (l := [(4, .c (.bool true))]) (st' := []) rfl rfl trivial ⟨.inr rfl, trivial⟩), he⟩

noncomputable def c_laws_eqStep : Con := fun args st => match args, st with
  | [.agg [.int .i64 a_0, .int .i64 a_1, .int .i64 a_2, .imm (.pair (.int .i64) (.int .i64)) a_3, .int .i64 a_4], .agg [.int .i64 b_0, .int .i64 b_1, .int .i64 b_2, .imm (.pair (.int .i64) (.int .i64)) b_3, .int .i64 b_4]], [] => .opt (Bool) (laws_eqStep (a_0, (a_1, (a_2, (a_3, a_4)))) (b_0, (b_1, (b_2, (b_3, b_4))))) (fun r => .ret (.c (.bool r)) [])
  | _, _ => .fail

noncomputable def C_laws_eqStep : Cfg := { y := tys, n := 26, h := 0, tab := [(27, c_laws_eqConstraint)], cut := [], hand := [], good := [], deep := [], sched := [] }

theorem t_laws_eqStep : TabOk Try.prog C_laws_eqStep := by
  refine tabOk_of ?_
  simp only [C_laws_eqStep, List.forall_mem_cons]
  exact ⟨k_laws_eqConstraint, fun p h => by cases h⟩

theorem k_laws_eqStep : Entry Try.prog 64 c_laws_eqStep := by
  refine entry_by (C := C_laws_eqStep) mixed tys_ok t_laws_eqStep (fn := Try.f64) (c := bd Try.f64) (by kernel_rfl) (by kernel_rfl) (by kernel_rfl) (by kernel_rfl) ?_
  intro args st k he
  unfold c_laws_eqStep at he
  split at he
  rotate_left
  · exact he.elim
  rename_i a_0 a_1 a_2 a_3 a_4 b_0 b_1 b_2 b_3 b_4
  have he : Ok (laws_eqStep (a_0, (a_1, (a_2, (a_3, a_4)))) (b_0, (b_1, (b_2, (b_3, b_4))))) (fun r => k (.c (.bool r)) []) := he
  refine ⟨rfl, rfl, ?_⟩
  refine And.intro (fun hb => ?_) (fun hb => ?_)
  · have he := ok_t he hb
    have he := ok_some he
    exact ⟨rfl, _, _, (leads_ren [] (l := [(4, .c (.bool false))]) (st' := []) rfl rfl trivial ⟨.inr rfl, trivial⟩), he⟩
  · have he := ok_f he hb
    refine And.intro (fun hb => ?_) (fun hb => ?_)
    · have he := ok_t he hb
      have he := ok_some he
      exact ⟨rfl, _, _, (leads_ren [] (l := [(4, .c (.bool false))]) (st' := []) rfl rfl trivial ⟨.inr rfl, trivial⟩), he⟩
    · have he := ok_f he hb
      refine And.intro (fun hb => ?_) (fun hb => ?_)
      · have he := ok_t he hb
        have he := ok_some he
        exact ⟨rfl, _, _, (leads_ren [] (l := [(4, .c (.bool false))]) (st' := []) rfl rfl trivial ⟨.inr rfl, trivial⟩), he⟩
      · have he := ok_f he hb
        obtain ⟨r1_, hr, he⟩ := ok_bind he
        refine ⟨r1_, hr, ?_⟩
        refine And.intro (fun hb => ?_) (fun hb => ?_)
        · have he := ok_t he hb
          have he := ok_some he
          exact ⟨rfl, _, _, (leads_ren [] (l := [(4, .c (.bool false))]) (st' := []) rfl rfl trivial ⟨.inr rfl, trivial⟩), he⟩
        · have he := ok_f he hb
          have he := ok_some he
          exact ⟨rfl, _, _, (leads_ren [] (l := [(4, .c (.bool true))]) (st' := []) rfl rfl trivial ⟨.inr rfl, trivial⟩), he⟩

noncomputable def c_laws_eqIntS : Con := fun args st => match args, st with
  | [.c (.imm (.int .i64) a), .c (.imm (.int .i64) b)], [] => .opt (Bool) (laws_eqIntS a b) (fun r => .ret (.c (.bool r)) [])
  | _, _ => .fail

noncomputable def C_laws_eqIntS : Cfg := { y := tys, n := 26, h := 0, tab := [], cut := [], hand := [], good := [], deep := [], sched := [] }

theorem t_laws_eqIntS : TabOk Try.prog C_laws_eqIntS := tabOk_of (fun p h => by cases h)

theorem k_laws_eqIntS : Entry Try.prog 29 c_laws_eqIntS := by
  refine entry_by (C := C_laws_eqIntS) mixed tys_ok t_laws_eqIntS (fn := Try.f29) (c := bd Try.f29) (by kernel_rfl) (by kernel_rfl) (by kernel_rfl) (by kernel_rfl) ?_
  intro args st k he
  unfold c_laws_eqIntS at he
  split at he
  rotate_left
  · exact he.elim
  rename_i a b
  have he : Ok (laws_eqIntS a b) (fun r => k (.c (.bool r)) []) := he
  refine ⟨rfl, rfl, ?_⟩
  refine And.intro (fun hb => ?_) (fun hb => ?_)
  · have he := ok_t he hb
    have he := ok_some he
    exact ⟨rfl, _, _, Leads.refl _ _, he⟩
  · have he := ok_f he hb
    refine loop_model mixed tys_ok t_laws_eqIntS (S := Int) (I := (fun i => (envOf [(0, .c (.imm (.int .i64) a)), (1, .c (.imm (.int .i64) b)), (5, .c (.int .i64 i))], []))) (f := laws_eqIntS_l1 a b) (K := (fun r => k (.c (.bool r)) [])) he (leads_ren [] (l := [(0, .c (.imm (.int .i64) a)), (1, .c (.imm (.int .i64) b)), (5, .c (.int .i64 (0:Int)))]) (st' := []) rfl rfl trivial ⟨.inl rfl, .inl rfl, rfl, trivial⟩) ?_
    rintro i J1 he
    refine And.intro (fun hb => ?_) (fun hb => ?_)
    · have he := ok_t he hb
      refine And.intro (by kernel_rfl) ?_
      have he := ok_rq he
      refine And.intro he.1 ?_
      have he := he.2
      have he := ok_rq he
      refine And.intro he.1 ?_
      have he := he.2
      refine And.intro (fun hb => ?_) (fun hb => ?_)
      · have he := ok_t he hb
        have he := ok_some he
        exact ⟨rfl, _, _, Leads.refl _ _, he⟩
      · have he := ok_f he hb
        have he := ok_rq he
        refine And.intro he.1 ?_
        have he := he.2
        have he := ok_some he
        exact ⟨(i + (1:Int)), he, (leads_ren [] (l := [(0, .c (.imm (.int .i64) a)), (1, .c (.imm (.int .i64) b)), (5, .c (.int .i64 (i + (1:Int))))]) (st' := []) rfl rfl trivial ⟨.inl rfl, .inl rfl, rfl, trivial⟩)⟩
    · have he := ok_f he hb
      have he := ok_some he
      exact ⟨rfl, _, _, Leads.refl _ _, he⟩

noncomputable def c_laws_markTermS : Con := fun args st => match args, st with
  | [.c (.own 0 false), .c (.int .i64 k_)], [(0, .sl 140 (.pair (.int .i64) (.int .i64)) a .shallow)] => .opt (Int × (List (Int × Int))) (laws_markTermS k_ a) (fun r => .ret (.c (.int .i64 r.1)) [(0, .sl 140 (.pair (.int .i64) (.int .i64)) r.2 .shallow)])
  | _, _ => .fail

noncomputable def C_laws_markTermS : Cfg := { y := tys, n := 27, h := 1, tab := [], cut := [7], hand := [], good := [], deep := [], sched := [] }

theorem t_laws_markTermS : TabOk Try.prog C_laws_markTermS := tabOk_of (fun p h => by cases h)

theorem k_laws_markTermS : Entry Try.prog 119 c_laws_markTermS := by
  refine entry_by (C := C_laws_markTermS) mixed tys_ok t_laws_markTermS (fn := Try.f119) (c := bd Try.f119) (by kernel_rfl) (by kernel_rfl) (by kernel_rfl) (by kernel_rfl) ?_
  intro args st k he
  unfold c_laws_markTermS at he
  split at he
  rotate_left
  · exact he.elim
  rename_i k_ a
  have he : Ok (laws_markTermS k_ a) (fun r => k (.c (.int .i64 r.1)) [(0, .sl 140 (.pair (.int .i64) (.int .i64)) r.2 .shallow)]) := he
  refine ⟨rfl, rfl, ?_⟩
  refine loop_model mixed tys_ok t_laws_markTermS (S := Int × Int × (List (Int × Int))) (I := (fun (k_1, i, a2) => (envOf [(0, .c (.own 0 false)), (1, .c (.int .i64 k_1)), (5, .c (.int .i64 i))], [(0, .sl 140 (.pair (.int .i64) (.int .i64)) a2 .shallow)]))) (f := laws_markTermS_l1) (K := (fun r => k (.c (.int .i64 r.1)) [(0, .sl 140 (.pair (.int .i64) (.int .i64)) r.2 .shallow)])) he (leads_ren [] (l := [(0, .c (.own 0 false)), (1, .c (.int .i64 k_)), (5, .c (.int .i64 (0:Int)))]) (st' := [(0, .sl 140 (.pair (.int .i64) (.int .i64)) a .shallow)]) rfl rfl ⟨⟨rfl, rfl⟩, trivial⟩ ⟨⟨⟨rfl, rfl⟩, trivial⟩, rfl, rfl, trivial⟩) ?_
  rintro ⟨k_1, i, a2⟩ J1 he
  refine And.intro (fun hb => ?_) (fun hb => ?_)
  · have he := ok_t he hb
    have he := ok_rq he
    refine And.intro he.1 ?_
    have he := he.2
    have he := ok_rq he
    refine And.intro he.1 ?_
    have he := he.2
    refine seq_model mixed tys_ok t_laws_markTermS (S := (List (Int × Int))) (I := (fun a3 => (envOf [(0, .c (.own 0 false)), (1, .c (.int .i64 (k_1 + (1:Int)))), (5, .c (.int .i64 i))], [(0, .sl 140 (.pair (.int .i64) (.int .i64)) a3 .shallow)]))) (B := fun s => Ok (laws_markTermS_j1 k_1 i s) (LK J1 (fun r => k (.c (.int .i64 r.1)) [(0, .sl 140 (.pair (.int .i64) (.int .i64)) r.2 .shallow)]))) ?_ ?_
    · rintro a3 he
      have he := ok_rq he
      refine And.intro he.1 ?_
      have he := he.2
      have he := ok_rq he
      refine And.intro he.1 ?_
      have he := he.2
      have he := ok_some he
      exact ⟨(((k_1 + (1:Int)) + (1:Int)), (i + (1:Int)), a3), he, (leads_ren [] (l := [(0, .c (.own 0 false)), (1, .c (.int .i64 ((k_1 + (1:Int)) + (1:Int)))), (5, .c (.int .i64 (i + (1:Int))))]) (st' := [(0, .sl 140 (.pair (.int .i64) (.int .i64)) a3 .shallow)]) rfl rfl ⟨⟨rfl, rfl⟩, trivial⟩ ⟨⟨⟨rfl, rfl⟩, trivial⟩, rfl, rfl, trivial⟩)⟩
    · skip
      have he := ok_rq he
      refine And.intro he.1 ?_
      have he := he.2
      exact ⟨((a2.set i.toNat (k_1, (a2.getD i.toNat (0, 0)).2)).set i.toNat (((a2.set i.toNat (k_1, (a2.getD i.toNat (0, 0)).2)).getD i.toNat (0, 0)).1, (k_1 + (1:Int)))), he, (leads_ren [] (l := [(0, .c (.own 0 false)), (1, .c (.int .i64 (k_1 + (1:Int)))), (5, .c (.int .i64 i))]) (st' := [(0, .sl 140 (.pair (.int .i64) (.int .i64)) ((a2.set i.toNat (k_1, (a2.getD i.toNat (0, 0)).2)).set i.toNat (((a2.set i.toNat (k_1, (a2.getD i.toNat (0, 0)).2)).getD i.toNat (0, 0)).1, (k_1 + (1:Int)))) .shallow)]) rfl rfl ⟨⟨rfl, rfl⟩, trivial⟩ ⟨⟨⟨rfl, rfl⟩, trivial⟩, rfl, rfl, trivial⟩)⟩
  · have he := ok_f he hb
    have he := ok_some he
    exact ⟨rfl, _, _, (leads_ren [] (l := [(4, .c (.int .i64 k_1))]) (st' := [(0, .sl 140 (.pair (.int .i64) (.int .i64)) a2 .shallow)]) rfl rfl ⟨⟨rfl, rfl⟩, trivial⟩ ⟨rfl, trivial⟩), he⟩

noncomputable def c_laws_markConstraint : Con := fun args st => match args, st with
  | [.agg [.own 0 false, .int .i64 a_1], .c (.int .i64 k_)], [(0, .sl 140 (.pair (.int .i64) (.int .i64)) o0 .shallow)] => .opt (Int × (List (Int × Int))) (laws_markConstraint a_1 k_ o0) (fun r => .ret (.c (.int .i64 r.1)) [(0, .sl 140 (.pair (.int .i64) (.int .i64)) r.2 .shallow)])
  | _, _ => .fail

noncomputable def C_laws_markConstraint : Cfg := { y := tys, n := 10, h := 1, tab := [(119, c_laws_markTermS)], cut := [], hand := [(119, [0])], good := [], deep := [], sched := [] }

theorem t_laws_markConstraint : TabOk Try.prog C_laws_markConstraint := by
  refine tabOk_of ?_
  simp only [C_laws_markConstraint, List.forall_mem_cons]
  exact ⟨k_laws_markTermS, fun p h => by cases h⟩

theorem k_laws_markConstraint : Entry Try.prog 32 c_laws_markConstraint := by
  refine entry_by (C := C_laws_markConstraint) mixed tys_ok t_laws_markConstraint (fn := Try.f32) (c := bd Try.f32) (by kernel_rfl) (by kernel_rfl) (by kernel_rfl) (by kernel_rfl) ?_
  intro args st k he
  unfold c_laws_markConstraint at he
  split at he
  rotate_left
  · exact he.elim
  rename_i a_1 k_ o0
  have he : Ok (laws_markConstraint a_1 k_ o0) (fun r => k (.c (.int .i64 r.1)) [(0, .sl 140 (.pair (.int .i64) (.int .i64)) r.2 .shallow)]) := he
  refine ⟨rfl, rfl, ?_⟩
  obtain ⟨r1_, hr, he⟩ := ok_bind he
  refine ⟨r1_, hr, ?_⟩
  have he := ok_some he
  exact ⟨rfl, _, _, (leads_ren [] (l := [(4, .c (.int .i64 r1_.1))]) (st' := [(0, .sl 140 (.pair (.int .i64) (.int .i64)) r1_.2 .shallow)]) rfl rfl ⟨⟨rfl, rfl⟩, trivial⟩ ⟨rfl, trivial⟩), he⟩

noncomputable def c_laws_markStep : Con := fun args st => match args, st with
  | [.agg [.int .i64 a_0, .int .i64 a_1, .int .i64 a_2, .own 0 false, .int .i64 a_4], .c (.int .i64 k_)], [(0, .sl 140 (.pair (.int .i64) (.int .i64)) o0 .shallow)] => .opt (Int × (List (Int × Int))) (laws_markStep a_0 a_1 a_2 a_4 k_ o0) (fun r => .ret (.c (.int .i64 r.1)) [(0, .sl 140 (.pair (.int .i64) (.int .i64)) r.2 .shallow)])
  | _, _ => .fail

noncomputable def C_laws_markStep : Cfg := { y := tys, n := 10, h := 1, tab := [(32, c_laws_markConstraint)], cut := [], hand := [(32, [0])], good := [], deep := [], sched := [] }

theorem t_laws_markStep : TabOk Try.prog C_laws_markStep := by
  refine tabOk_of ?_
  simp only [C_laws_markStep, List.forall_mem_cons]
  exact ⟨k_laws_markConstraint, fun p h => by cases h⟩

theorem k_laws_markStep : Entry Try.prog 65 c_laws_markStep := by
  refine entry_by (C := C_laws_markStep) mixed tys_ok t_laws_markStep (fn := Try.f65) (c := bd Try.f65) (by kernel_rfl) (by kernel_rfl) (by kernel_rfl) (by kernel_rfl) ?_
  intro args st k he
  unfold c_laws_markStep at he
  split at he
  rotate_left
  · exact he.elim
  rename_i a_0 a_1 a_2 a_4 k_ o0
  have he : Ok (laws_markStep a_0 a_1 a_2 a_4 k_ o0) (fun r => k (.c (.int .i64 r.1)) [(0, .sl 140 (.pair (.int .i64) (.int .i64)) r.2 .shallow)]) := he
  refine ⟨rfl, rfl, ?_⟩
  obtain ⟨r1_, hr, he⟩ := ok_bind he
  refine ⟨r1_, hr, ?_⟩
  have he := ok_some he
  exact ⟨rfl, _, _, (leads_ren [] (l := [(4, .c (.int .i64 r1_.1))]) (st' := [(0, .sl 140 (.pair (.int .i64) (.int .i64)) r1_.2 .shallow)]) rfl rfl ⟨⟨rfl, rfl⟩, trivial⟩ ⟨rfl, trivial⟩), he⟩

noncomputable def c_laws_markIntS : Con := fun args st => match args, st with
  | [.c (.own 0 false), .c (.int .i64 k_)], [(0, .sl 3 (.int .i64) a .shallow)] => .opt (Int × (List Int)) (laws_markIntS k_ a) (fun r => .ret (.c (.int .i64 r.1)) [(0, .sl 3 (.int .i64) r.2 .shallow)])
  | _, _ => .fail

noncomputable def C_laws_markIntS : Cfg := { y := tys, n := 19, h := 1, tab := [], cut := [], hand := [], good := [], deep := [], sched := [] }

theorem t_laws_markIntS : TabOk Try.prog C_laws_markIntS := tabOk_of (fun p h => by cases h)

theorem k_laws_markIntS : Entry Try.prog 31 c_laws_markIntS := by
  refine entry_by (C := C_laws_markIntS) mixed tys_ok t_laws_markIntS (fn := Try.f31) (c := bd Try.f31) (by kernel_rfl) (by kernel_rfl) (by kernel_rfl) (by kernel_rfl) ?_
  intro args st k he
  unfold c_laws_markIntS at he
  split at he
  rotate_left
  · exact he.elim
  rename_i k_ a
  have he : Ok (laws_markIntS k_ a) (fun r => k (.c (.int .i64 r.1)) [(0, .sl 3 (.int .i64) r.2 .shallow)]) := he
  refine ⟨rfl, rfl, ?_⟩
  refine loop_model mixed tys_ok t_laws_markIntS (S := Int × Int × (List Int)) (I := (fun (k_1, i, a1) => (envOf [(0, .c (.own 0 false)), (1, .c (.int .i64 k_1)), (5, .c (.int .i64 i))], [(0, .sl 3 (.int .i64) a1 .shallow)]))) (f := laws_markIntS_l1) (K := (fun r => k (.c (.int .i64 r.1)) [(0, .sl 3 (.int .i64) r.2 .shallow)])) he (leads_ren [] (l := [(0, .c (.own 0 false)), (1, .c (.int .i64 k_)), (5, .c (.int .i64 (0:Int)))]) (st' := [(0, .sl 3 (.int .i64) a .shallow)]) rfl rfl ⟨⟨rfl, rfl⟩, trivial⟩ ⟨⟨⟨rfl, rfl⟩, trivial⟩, rfl, rfl, trivial⟩) ?_
  rintro ⟨k_1, i, a1⟩ J1 he
  refine And.intro (fun hb => ?_) (fun hb => ?_)
  · have he := ok_t he hb
    have he := ok_rq he
    refine And.intro he.1 ?_
    have he := he.2
    have he := ok_rq he
    refine And.intro he.1 ?_
    have he := he.2
    have he := ok_rq he
    refine And.intro he.1 ?_
    have he := he.2
    have he := ok_some he
    exact ⟨((k_1 + (1:Int)), (i + (1:Int)), (a1.set i.toNat k_1)), he, (leads_ren [] (l := [(0, .c (.own 0 false)), (1, .c (.int .i64 (k_1 + (1:Int)))), (5, .c (.int .i64 (i + (1:Int))))]) (st' := [(0, .sl 3 (.int .i64) (a1.set i.toNat k_1) .shallow)]) rfl rfl ⟨⟨rfl, rfl⟩, trivial⟩ ⟨⟨⟨rfl, rfl⟩, trivial⟩, rfl, rfl, trivial⟩)⟩
  · have he := ok_f he hb
    have he := ok_some he
    exact ⟨rfl, _, _, (leads_ren [] (l := [(4, .c (.int .i64 k_1))]) (st' := [(0, .sl 3 (.int .i64) a1 .shallow)]) rfl rfl ⟨⟨rfl, rfl⟩, trivial⟩ ⟨rfl, trivial⟩), he⟩

end Go.AE.Y
