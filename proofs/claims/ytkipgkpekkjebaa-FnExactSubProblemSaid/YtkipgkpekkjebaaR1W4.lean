/-
  Walks: each function keeps the contract that its model gives. No conditions.
-/
import Derived.Test.YtkipgkpekkjebaaR1Tab
import Derived.Test.YtkipgkpekkjebaaR1W3
namespace Go.AE.Y
open Go Go.AE Go.Proofs
set_option linter.unusedVariables false
set_option maxHeartbeats 2000000
set_option maxRecDepth 100000

noncomputable def c_spec_DrawSatisfiesAll : Con := fun args st => match args, st with
  | [.c (.imm (.int .u8) code)], [] => .opt ((List ((List (Int × Int)) × Int)) × (List Bool)) (spec_DrawSatisfiesAll code) (fun r => .ret (.tup [.c (.own 900), .c (.own 901)]) [(900, .sl 81 (.pair (.sl (.pair (.int .i64) (.int .i64))) (.int .i64)) r.1 .shallow), (901, .sl 4 .bool r.2 .shallow)])
  | _, _ => .fail

noncomputable def C_spec_DrawSatisfiesAll : Cfg := { y := tys, n := 15, h := 0, tab := [(65, c_spec_l17Open), (67, c_spec_l1Values), (81, c_spec_l3Mutate), (82, c_spec_l3Problem)], cut := [], hand := [], good := [], deep := [], sched := [] }

theorem t_spec_DrawSatisfiesAll : TabOk Try.prog C_spec_DrawSatisfiesAll := by
  refine tabOk_of ?_
  simp only [C_spec_DrawSatisfiesAll, List.forall_mem_cons]
  exact ⟨k_spec_l17Open, k_spec_l1Values, k_spec_l3Mutate, k_spec_l3Problem, fun p h => by cases h⟩

theorem k_spec_DrawSatisfiesAll : Entry Try.prog 72 c_spec_DrawSatisfiesAll := by
  refine entry_by (C := C_spec_DrawSatisfiesAll) mixed tys_ok t_spec_DrawSatisfiesAll (fn := Try.f72) (c := bd Try.f72) (by kernel_rfl) (by kernel_rfl) (by kernel_rfl) (by kernel_rfl) ?_
  intro args st k he
  unfold c_spec_DrawSatisfiesAll at he
  split at he
  rotate_left
  · exact he.elim
  rename_i code
  have he : Ok (spec_DrawSatisfiesAll code) (fun r => k (.tup [.c (.own 900), .c (.own 901)]) [(900, .sl 81 (.pair (.sl (.pair (.int .i64) (.int .i64))) (.int .i64)) r.1 .shallow), (901, .sl 4 .bool r.2 .shallow)]) := he
  refine ⟨rfl, rfl, ?_⟩
  obtain ⟨r1_, hr, he⟩ := ok_bind he
  refine ⟨r1_, hr, ?_⟩
  obtain ⟨r2_, hr, he⟩ := ok_bind he
  refine ⟨r2_, hr, ?_⟩
  obtain ⟨r3_, hr, he⟩ := ok_bind he
  refine ⟨r3_, hr, ?_⟩
  obtain ⟨r4_, hr, he⟩ := ok_bind he
  refine ⟨r4_, hr, ?_⟩
  have he := ok_some he
  exact ⟨rfl, _, _, (leads_ren [(900, 12900), (901, 15900)] (l := [(2, .c (.own 900)), (3, .c (.own 901))]) (st' := [(900, .sl 81 (.pair (.sl (.pair (.int .i64) (.int .i64))) (.int .i64)) r3_.2 .shallow), (901, .sl 4 .bool r4_.2 .shallow)]) rfl rfl ⟨⟨rfl, rfl⟩, ⟨rfl, rfl⟩, trivial⟩ ⟨⟨rfl, rfl⟩, ⟨rfl, rfl⟩, trivial⟩), he⟩

noncomputable def c_spec_DrawFlipBest : Con := fun args st => match args, st with
  | [.c (.imm (.int .u8) code)], [] => .opt ((List ((List (Int × Int)) × Int)) × (List Bool)) (spec_DrawFlipBest code) (fun r => .ret (.tup [.c (.own 900), .c (.own 901)]) [(900, .sl 81 (.pair (.sl (.pair (.int .i64) (.int .i64))) (.int .i64)) r.1 .shallow), (901, .sl 4 .bool r.2 .shallow)])
  | _, _ => .fail

noncomputable def C_spec_DrawFlipBest : Cfg := { y := tys, n := 8, h := 0, tab := [(72, c_spec_DrawSatisfiesAll)], cut := [], hand := [], good := [], deep := [], sched := [] }

theorem t_spec_DrawFlipBest : TabOk Try.prog C_spec_DrawFlipBest := by
  refine tabOk_of ?_
  simp only [C_spec_DrawFlipBest, List.forall_mem_cons]
  exact ⟨k_spec_DrawSatisfiesAll, fun p h => by cases h⟩

theorem k_spec_DrawFlipBest : Entry Try.prog 37 c_spec_DrawFlipBest := by
  refine entry_by (C := C_spec_DrawFlipBest) mixed tys_ok t_spec_DrawFlipBest (fn := Try.f37) (c := bd Try.f37) (by kernel_rfl) (by kernel_rfl) (by kernel_rfl) (by kernel_rfl) ?_
  intro args st k he
  unfold c_spec_DrawFlipBest at he
  split at he
  rotate_left
  · exact he.elim
  rename_i code
  have he : Ok (spec_DrawFlipBest code) (fun r => k (.tup [.c (.own 900), .c (.own 901)]) [(900, .sl 81 (.pair (.sl (.pair (.int .i64) (.int .i64))) (.int .i64)) r.1 .shallow), (901, .sl 4 .bool r.2 .shallow)]) := he
  refine ⟨rfl, rfl, ?_⟩
  obtain ⟨r1_, hr, he⟩ := ok_bind he
  refine ⟨r1_, hr, ?_⟩
  have he := ok_some he
  exact ⟨rfl, _, _, (leads_ren [(900, 6900), (901, 6901)] (l := [(2, .c (.own 900)), (3, .c (.own 901))]) (st' := [(900, .sl 81 (.pair (.sl (.pair (.int .i64) (.int .i64))) (.int .i64)) r1_.1 .shallow), (901, .sl 4 .bool r1_.2 .shallow)]) rfl rfl ⟨⟨rfl, rfl⟩, ⟨rfl, rfl⟩, trivial⟩ ⟨⟨rfl, rfl⟩, ⟨rfl, rfl⟩, trivial⟩), he⟩

noncomputable def c_slices_Clone_bool : Con := fun args st => match args, st with
  | [.c (.imm .bool s_)], [] => .opt ((List Bool)) (slices_Clone_bool s_) (fun r => .ret (.c (.own 900)) [(900, .sl 4 .bool r .shallow)])
  | _, _ => .fail

noncomputable def C_slices_Clone_bool : Cfg := { y := tys, n := 8, h := 0, tab := [], cut := [], hand := [], good := [], deep := [], sched := [] }

theorem t_slices_Clone_bool : TabOk Try.prog C_slices_Clone_bool := tabOk_of (fun p h => by cases h)

theorem k_slices_Clone_bool : Entry Try.prog 80 c_slices_Clone_bool := by
  refine entry_by (C := C_slices_Clone_bool) mixed tys_ok t_slices_Clone_bool (fn := Try.f80) (c := bd Try.f80) (by kernel_rfl) (by kernel_rfl) (by kernel_rfl) (by kernel_rfl) ?_
  intro args st k he
  unfold c_slices_Clone_bool at he
  split at he
  rotate_left
  · exact he.elim
  rename_i s_
  have he : Ok (slices_Clone_bool s_) (fun r => k (.c (.own 900)) [(900, .sl 4 .bool r .shallow)]) := he
  refine ⟨rfl, rfl, ?_⟩
  refine fun b1_ hb1_ => ?_
  have he := ok_nt he hb1_
  refine And.intro (fun hb => ?_) (fun hb => ?_)
  · have he := ok_t he hb
    have he := ok_some he
    exact ⟨rfl, _, _, (leads_ren [] (l := [(2, .c (.own 900))]) (st' := [(900, .sl 4 .bool ([] : List Bool) .shallow)]) rfl rfl ⟨trivial, trivial⟩ ⟨⟨rfl, trivial⟩, trivial⟩), he⟩
  · have he := ok_f he hb
    have he := ok_rq he
    refine And.intro he.1 ?_
    have he := he.2
    have he := ok_some he
    exact ⟨rfl, _, _, (leads_ren [(900, 7)] (l := [(2, .c (.own 900))]) (st' := [(900, .sl 4 .bool (([] : List Bool) ++ s_) .shallow)]) rfl rfl ⟨⟨rfl, rfl⟩, trivial⟩ ⟨⟨rfl, rfl⟩, trivial⟩), he⟩

noncomputable def c_impl_FlipBest : Con := fun args st => match args, st with
  | [.c (.imm (.pair (.sl (.pair (.int .i64) (.int .i64))) (.int .i64)) list_), .c (.imm .bool values)], [] => .opt (Int × Bool × (List Bool)) (impl_FlipBest list_ values) (fun r => .ret (.tup [.c (.own 900), .c (.int .i64 r.1), .c (.bool r.2.1)]) [(900, .sl 4 .bool r.2.2 .shallow)])
  | _, _ => .fail

noncomputable def C_impl_FlipBest : Cfg := { y := tys, n := 50, h := 0, tab := [(53, c_impl_ProblemValid), (73, c_impl_violations), (80, c_slices_Clone_bool)], cut := [14], hand := [], good := [], deep := [], sched := [] }

theorem t_impl_FlipBest : TabOk Try.prog C_impl_FlipBest := by
  refine tabOk_of ?_
  simp only [C_impl_FlipBest, List.forall_mem_cons]
  exact ⟨k_impl_ProblemValid, k_impl_violations, k_slices_Clone_bool, fun p h => by cases h⟩

theorem k_impl_FlipBest : Entry Try.prog 38 c_impl_FlipBest := by
  refine entry_by (C := C_impl_FlipBest) mixed tys_ok t_impl_FlipBest (fn := Try.f38) (c := bd Try.f38) (by kernel_rfl) (by kernel_rfl) (by kernel_rfl) (by kernel_rfl) ?_
  intro args st k he
  unfold c_impl_FlipBest at he
  split at he
  rotate_left
  · exact he.elim
  rename_i list_ values
  have he : Ok (impl_FlipBest list_ values) (fun r => k (.tup [.c (.own 900), .c (.int .i64 r.1), .c (.bool r.2.1)]) [(900, .sl 4 .bool r.2.2 .shallow)]) := he
  refine ⟨rfl, rfl, ?_⟩
  obtain ⟨r1_, hr, he⟩ := ok_bind he
  refine ⟨r1_, hr, ?_⟩
  refine And.intro (fun hb => ?_) (fun hb => ?_)
  · have he := ok_f he hb
    refine And.intro (fun hb => ?_) (fun hb => ?_)
    · have he := ok_t he hb
      have he := ok_some he
      exact ⟨rfl, _, _, (leads_ren [] (l := [(4, .c (.own 900)), (5, .c (.int .i64 (0:Int))), (6, .c (.bool false))]) (st' := [(900, .sl 4 .bool ([] : List Bool) .shallow)]) rfl rfl ⟨trivial, trivial⟩ ⟨⟨rfl, trivial⟩, rfl, .inr rfl, trivial⟩), he⟩
    · have he := ok_f he hb
      refine seq_model mixed tys_ok t_impl_FlipBest (S := Int × (List Bool)) (I := (fun (least1, best1) => (envOf [(7, .c (.own 10001000)), (8, .c (.int .i64 least1))], [(10001000, .sl 4 .bool best1 .shallow)]))) (B := fun s => Ok (impl_FlipBest_j1 s) (fun r => k (.tup [.c (.own 900), .c (.int .i64 r.1), .c (.bool r.2.1)]) [(900, .sl 4 .bool r.2.2 .shallow)])) ?_ ?_
      · rintro ⟨least1, best1⟩ he
        have he := ok_some he
        exact ⟨rfl, _, _, (leads_ren [(900, 10001000)] (l := [(4, .c (.own 900)), (5, .c (.int .i64 least1)), (6, .c (.bool true))]) (st' := [(900, .sl 4 .bool best1 .shallow)]) rfl rfl ⟨⟨rfl, rfl⟩, trivial⟩ ⟨⟨rfl, rfl⟩, rfl, .inr rfl, trivial⟩), he⟩
      · skip
        refine loop_model mixed tys_ok t_impl_FlipBest (S := Int × Int × (List Bool)) (I := (fun (least, i, best) => (envOf [(0, .c (.imm (.pair (.sl (.pair (.int .i64) (.int .i64))) (.int .i64)) list_)), (1, .c (.imm .bool values)), (7, .c (.own 10000000)), (8, .c (.int .i64 least)), (21, .c (.int .i64 (values.length:Int))), (22, .c (.int .i64 i))], [(10000000, .sl 4 .bool best .shallow)]))) (f := impl_FlipBest_l1 list_ values) (K := (fun r => k (.tup [.c (.own 900), .c (.int .i64 r.1), .c (.bool r.2.1)]) [(900, .sl 4 .bool r.2.2 .shallow)])) he (leads_ren [] (l := [(0, .c (.imm (.pair (.sl (.pair (.int .i64) (.int .i64))) (.int .i64)) list_)), (1, .c (.imm .bool values)), (7, .c (.own 10000000)), (8, .c (.int .i64 (0:Int))), (21, .c (.int .i64 (values.length:Int))), (22, .c (.int .i64 (0:Int)))]) (st' := [(10000000, .sl 4 .bool ([] : List Bool) .shallow)]) rfl rfl ⟨trivial, trivial⟩ ⟨.inl rfl, .inl rfl, ⟨rfl, trivial⟩, rfl, rfl, rfl, trivial⟩) ?_
        rintro ⟨least, i, best⟩ J1 he
        refine And.intro (fun hb => ?_) (fun hb => ?_)
        · have he := ok_t he hb
          obtain ⟨r4_, hr, he⟩ := ok_bind he
          refine ⟨r4_, hr, ?_⟩
          have he := ok_rq he
          refine And.intro he.1 ?_
          have he := he.2
          have he := ok_rq he
          refine And.intro he.1 ?_
          have he := he.2
          obtain ⟨r5_, hr, he⟩ := ok_bind he
          refine ⟨r5_, hr, ?_⟩
          refine fun b1_ hb1_ => ?_
          have he := ok_nt he hb1_
          refine And.intro (fun hb => ?_) (fun hb => ?_)
          · have he := ok_f he hb
            refine And.intro (fun hb => ?_) (fun hb => ?_)
            · have he := ok_t he hb
              have he := ok_rq he
              refine And.intro he.1 ?_
              have he := he.2
              have he := ok_some he
              exact ⟨(r5_, (i + (1:Int)), (r4_.set i.toNat (!(r4_.getD i.toNat false)))), he, (leads_ren [(10000000, 27900)] (l := [(0, .c (.imm (.pair (.sl (.pair (.int .i64) (.int .i64))) (.int .i64)) list_)), (1, .c (.imm .bool values)), (7, .c (.own 10000000)), (8, .c (.int .i64 r5_)), (21, .c (.int .i64 (values.length:Int))), (22, .c (.int .i64 (i + (1:Int))))]) (st' := [(10000000, .sl 4 .bool (r4_.set i.toNat (!(r4_.getD i.toNat false))) .shallow)]) rfl rfl ⟨⟨rfl, rfl⟩, trivial⟩ ⟨.inl rfl, .inl rfl, ⟨rfl, rfl⟩, rfl, rfl, rfl, trivial⟩)⟩
            · have he := ok_f he hb
              have he := ok_rq he
              refine And.intro he.1 ?_
              have he := he.2
              have he := ok_some he
              exact ⟨(least, (i + (1:Int)), best), he, (leads_ren [] (l := [(0, .c (.imm (.pair (.sl (.pair (.int .i64) (.int .i64))) (.int .i64)) list_)), (1, .c (.imm .bool values)), (7, .c (.own 10000000)), (8, .c (.int .i64 least)), (21, .c (.int .i64 (values.length:Int))), (22, .c (.int .i64 (i + (1:Int))))]) (st' := [(10000000, .sl 4 .bool best .shallow)]) rfl rfl ⟨⟨rfl, rfl⟩, trivial⟩ ⟨.inl rfl, .inl rfl, ⟨rfl, rfl⟩, rfl, rfl, rfl, trivial⟩)⟩
          · have he := ok_t he hb
            have he := ok_rq he
            refine And.intro he.1 ?_
            have he := he.2
            have he := ok_some he
            exact ⟨(r5_, (i + (1:Int)), (r4_.set i.toNat (!(r4_.getD i.toNat false)))), he, (leads_ren [(10000000, 27900)] (l := [(0, .c (.imm (.pair (.sl (.pair (.int .i64) (.int .i64))) (.int .i64)) list_)), (1, .c (.imm .bool values)), (7, .c (.own 10000000)), (8, .c (.int .i64 r5_)), (21, .c (.int .i64 (values.length:Int))), (22, .c (.int .i64 (i + (1:Int))))]) (st' := [(10000000, .sl 4 .bool (r4_.set i.toNat (!(r4_.getD i.toNat false))) .shallow)]) rfl rfl ⟨⟨rfl, rfl⟩, trivial⟩ ⟨.inl rfl, .inl rfl, ⟨rfl, rfl⟩, rfl, rfl, rfl, trivial⟩)⟩
        · have he := ok_f he hb
          exact ⟨(least, best), ok_up he, (leads_ren [(10001000, 10000000)] (l := [(7, .c (.own 10001000)), (8, .c (.int .i64 least))]) (st' := [(10001000, .sl 4 .bool best .shallow)]) rfl rfl ⟨⟨rfl, rfl⟩, trivial⟩ ⟨⟨rfl, rfl⟩, rfl, trivial⟩)⟩
  · have he := ok_t he hb
    have he := ok_some he
    exact ⟨rfl, _, _, (leads_ren [] (l := [(4, .c (.own 900)), (5, .c (.int .i64 (0:Int))), (6, .c (.bool false))]) (st' := [(900, .sl 4 .bool ([] : List Bool) .shallow)]) rfl rfl ⟨trivial, trivial⟩ ⟨⟨rfl, trivial⟩, rfl, .inr rfl, trivial⟩), he⟩

noncomputable def c_spec_FlipBest : Con := fun args st => match args, st with
  | [.c (.imm (.pair (.sl (.pair (.int .i64) (.int .i64))) (.int .i64)) list_), .c (.imm .bool values)], [] => .opt (Int × Bool × (List Bool)) (spec_FlipBest list_ values) (fun r => .ret (.tup [.c (.own 900), .c (.int .i64 r.1), .c (.bool r.2.1)]) [(900, .sl 4 .bool r.2.2 .shallow)])
  | _, _ => .fail

noncomputable def C_spec_FlipBest : Cfg := { y := tys, n := 51, h := 0, tab := [(74, c_spec_ProblemValid), (75, c_spec_l11Bad)], cut := [14], hand := [], good := [], deep := [], sched := [] }

theorem t_spec_FlipBest : TabOk Try.prog C_spec_FlipBest := by
  refine tabOk_of ?_
  simp only [C_spec_FlipBest, List.forall_mem_cons]
  exact ⟨k_spec_ProblemValid, k_spec_l11Bad, fun p h => by cases h⟩

theorem k_spec_FlipBest : Entry Try.prog 39 c_spec_FlipBest := by
  refine entry_by (C := C_spec_FlipBest) mixed tys_ok t_spec_FlipBest (fn := Try.f39) (c := bd Try.f39) (by kernel_rfl) (by kernel_rfl) (by kernel_rfl) (by kernel_rfl) ?_
  intro args st k he
  unfold c_spec_FlipBest at he
  split at he
  rotate_left
  · exact he.elim
  rename_i list_ values
  have he : Ok (spec_FlipBest list_ values) (fun r => k (.tup [.c (.own 900), .c (.int .i64 r.1), .c (.bool r.2.1)]) [(900, .sl 4 .bool r.2.2 .shallow)]) := he
  refine ⟨rfl, rfl, ?_⟩
  obtain ⟨r1_, hr, he⟩ := ok_bind he
  refine ⟨r1_, hr, ?_⟩
  refine And.intro (fun hb => ?_) (fun hb => ?_)
  · have he := ok_f he hb
    refine And.intro (fun hb => ?_) (fun hb => ?_)
    · have he := ok_t he hb
      have he := ok_some he
      exact ⟨rfl, _, _, (leads_ren [(900, 20)] (l := [(4, .c (.own 900)), (5, .c (.int .i64 (0:Int))), (6, .c (.bool false))]) (st' := [(900, .sl 4 .bool ([] : List Bool) .shallow)]) rfl rfl ⟨⟨rfl, rfl⟩, trivial⟩ ⟨⟨rfl, rfl⟩, rfl, .inr rfl, trivial⟩), he⟩
    · have he := ok_f he hb
      refine seq_model mixed tys_ok t_spec_FlipBest (S := Int × (List Bool)) (I := (fun (best1, out1) => (envOf [(7, .c (.int .i64 best1)), (8, .c (.own 10001000))], [(10001000, .sl 4 .bool out1 .shallow)]))) (B := fun s => Ok (spec_FlipBest_j1 s) (fun r => k (.tup [.c (.own 900), .c (.int .i64 r.1), .c (.bool r.2.1)]) [(900, .sl 4 .bool r.2.2 .shallow)])) ?_ ?_
      · rintro ⟨best1, out1⟩ he
        have he := ok_some he
        exact ⟨rfl, _, _, (leads_ren [(900, 10001000)] (l := [(4, .c (.own 900)), (5, .c (.int .i64 best1)), (6, .c (.bool true))]) (st' := [(900, .sl 4 .bool out1 .shallow)]) rfl rfl ⟨⟨rfl, rfl⟩, trivial⟩ ⟨⟨rfl, rfl⟩, rfl, .inr rfl, trivial⟩), he⟩
      · skip
        refine loop_model mixed tys_ok t_spec_FlipBest (S := Int × Int × (List Bool)) (I := (fun (best, v, out) => (envOf [(0, .c (.imm (.pair (.sl (.pair (.int .i64) (.int .i64))) (.int .i64)) list_)), (1, .c (.imm .bool values)), (7, .c (.int .i64 best)), (8, .c (.own 10000000)), (9, .c (.int .i64 v))], [(10000000, .sl 4 .bool out .shallow)]))) (f := spec_FlipBest_l1 list_ values) (K := (fun r => k (.tup [.c (.own 900), .c (.int .i64 r.1), .c (.bool r.2.1)]) [(900, .sl 4 .bool r.2.2 .shallow)])) he (leads_ren [(10000000, 21)] (l := [(0, .c (.imm (.pair (.sl (.pair (.int .i64) (.int .i64))) (.int .i64)) list_)), (1, .c (.imm .bool values)), (7, .c (.int .i64 (-1:Int))), (8, .c (.own 10000000)), (9, .c (.int .i64 (0:Int)))]) (st' := [(10000000, .sl 4 .bool ([] : List Bool) .shallow)]) rfl rfl ⟨⟨rfl, rfl⟩, trivial⟩ ⟨.inl rfl, .inl rfl, rfl, ⟨rfl, rfl⟩, rfl, trivial⟩) ?_
        rintro ⟨best, v, out⟩ J1 he
        refine And.intro (fun hb => ?_) (fun hb => ?_)
        · have he := ok_t he hb
          have he := ok_rq he
          refine And.intro he.1 ?_
          have he := he.2
          have he := ok_rq he
          refine And.intro he.1 ?_
          have he := he.2
          have he := ok_rq he
          refine And.intro he.1 ?_
          have he := he.2
          obtain ⟨r3_, hr, he⟩ := ok_bind he
          refine ⟨r3_, hr, ?_⟩
          refine And.intro (fun hb => ?_) (fun hb => ?_)
          · have he := ok_f he hb
            refine And.intro (fun hb => ?_) (fun hb => ?_)
            · have he := ok_t he hb
              have he := ok_rq he
              refine And.intro he.1 ?_
              have he := he.2
              have he := ok_some he
              exact ⟨(r3_, (v + (1:Int)), ((([] : List Bool) ++ values).set v.toNat (!((([] : List Bool) ++ values).getD v.toNat false)))), he, (leads_ren [(10000000, 28)] (l := [(0, .c (.imm (.pair (.sl (.pair (.int .i64) (.int .i64))) (.int .i64)) list_)), (1, .c (.imm .bool values)), (7, .c (.int .i64 r3_)), (8, .c (.own 10000000)), (9, .c (.int .i64 (v + (1:Int))))]) (st' := [(10000000, .sl 4 .bool ((([] : List Bool) ++ values).set v.toNat (!((([] : List Bool) ++ values).getD v.toNat false))) .shallow)]) rfl rfl ⟨⟨rfl, rfl⟩, trivial⟩ ⟨.inl rfl, .inl rfl, rfl, ⟨rfl, rfl⟩, rfl, trivial⟩)⟩
            · have he := ok_f he hb
              have he := ok_rq he
              refine And.intro he.1 ?_
              have he := he.2
              have he := ok_some he
              exact ⟨(best, (v + (1:Int)), out), he, (leads_ren [] (l := [(0, .c (.imm (.pair (.sl (.pair (.int .i64) (.int .i64))) (.int .i64)) list_)), (1, .c (.imm .bool values)), (7, .c (.int .i64 best)), (8, .c (.own 10000000)), (9, .c (.int .i64 (v + (1:Int))))]) (st' := [(10000000, .sl 4 .bool out .shallow)]) rfl rfl ⟨⟨rfl, rfl⟩, trivial⟩ ⟨.inl rfl, .inl rfl, rfl, ⟨rfl, rfl⟩, rfl, trivial⟩)⟩
          · have he := ok_t he hb
            have he := ok_rq he
            refine And.intro he.1 ?_
            have he := he.2
            have he := ok_some he
            exact ⟨(r3_, (v + (1:Int)), ((([] : List Bool) ++ values).set v.toNat (!((([] : List Bool) ++ values).getD v.toNat false)))), he, (leads_ren [(10000000, 28)] (l := [(0, .c (.imm (.pair (.sl (.pair (.int .i64) (.int .i64))) (.int .i64)) list_)), (1, .c (.imm .bool values)), (7, .c (.int .i64 r3_)), (8, .c (.own 10000000)), (9, .c (.int .i64 (v + (1:Int))))]) (st' := [(10000000, .sl 4 .bool ((([] : List Bool) ++ values).set v.toNat (!((([] : List Bool) ++ values).getD v.toNat false))) .shallow)]) rfl rfl ⟨⟨rfl, rfl⟩, trivial⟩ ⟨.inl rfl, .inl rfl, rfl, ⟨rfl, rfl⟩, rfl, trivial⟩)⟩
        · have he := ok_f he hb
          exact ⟨(best, out), ok_up he, (leads_ren [(10001000, 10000000)] (l := [(7, .c (.int .i64 best)), (8, .c (.own 10001000))]) (st' := [(10001000, .sl 4 .bool out .shallow)]) rfl rfl ⟨⟨rfl, rfl⟩, trivial⟩ ⟨rfl, ⟨rfl, rfl⟩, trivial⟩)⟩
  · have he := ok_t he hb
    have he := ok_some he
    exact ⟨rfl, _, _, (leads_ren [(900, 20)] (l := [(4, .c (.own 900)), (5, .c (.int .i64 (0:Int))), (6, .c (.bool false))]) (st' := [(900, .sl 4 .bool ([] : List Bool) .shallow)]) rfl rfl ⟨⟨rfl, rfl⟩, trivial⟩ ⟨⟨rfl, rfl⟩, rfl, .inr rfl, trivial⟩), he⟩

noncomputable def c_laws_cpBools : Con := fun args st => match args, st with
  | [.c (.imm .bool a), .c (.imm .bool b)], [] => .opt (Bool) (laws_cpBools a b) (fun r => .ret (.c (.bool r)) [])
  | _, _ => .fail

noncomputable def C_laws_cpBools : Cfg := { y := tys, n := 26, h := 0, tab := [], cut := [], hand := [], good := [], deep := [], sched := [] }

theorem t_laws_cpBools : TabOk Try.prog C_laws_cpBools := tabOk_of (fun p h => by cases h)

theorem k_laws_cpBools : Entry Try.prog 40 c_laws_cpBools := by
  refine entry_by (C := C_laws_cpBools) mixed tys_ok t_laws_cpBools (fn := Try.f40) (c := bd Try.f40) (by kernel_rfl) (by kernel_rfl) (by kernel_rfl) (by kernel_rfl) ?_
  intro args st k he
  unfold c_laws_cpBools at he
  split at he
  rotate_left
  · exact he.elim
  rename_i a b
  have he : Ok (laws_cpBools a b) (fun r => k (.c (.bool r)) []) := he
  refine ⟨rfl, rfl, ?_⟩
  refine And.intro (fun hb => ?_) (fun hb => ?_)
  · have he := ok_t he hb
    have he := ok_some he
    exact ⟨rfl, _, _, Leads.refl _ _, he⟩
  · have he := ok_f he hb
    refine loop_model mixed tys_ok t_laws_cpBools (S := Int) (I := (fun i => (envOf [(0, .c (.imm .bool a)), (1, .c (.imm .bool b)), (5, .c (.int .i64 i))], []))) (f := laws_cpBools_l1 a b) (K := (fun r => k (.c (.bool r)) [])) he (leads_ren [] (l := [(0, .c (.imm .bool a)), (1, .c (.imm .bool b)), (5, .c (.int .i64 (0:Int)))]) (st' := []) rfl rfl trivial ⟨.inl rfl, .inl rfl, rfl, trivial⟩) ?_
    rintro i J1 he
    refine And.intro (fun hb => ?_) (fun hb => ?_)
    · have he := ok_t he hb
      refine And.intro (by kernel_rfl) ?_
      have he := ok_rq he
      refine And.intro he.1 ?_
      have he := he.2
      have he := ok_rq he
      refine And.intro he.1 ?_
      have he := he.2
      refine And.intro (fun hb => ?_) (fun hb => ?_)
      · have he := ok_t he hb
        have he := ok_some he
        exact ⟨rfl, _, _, Leads.refl _ _, he⟩
      · have he := ok_f he hb
        have he := ok_rq he
        refine And.intro he.1 ?_
        have he := he.2
        have he := ok_some he
        exact ⟨(i + (1:Int)), he, (leads_ren [] (l := [(0, .c (.imm .bool a)), (1, .c (.imm .bool b)), (5, .c (.int .i64 (i + (1:Int))))]) (st' := []) rfl rfl trivial ⟨.inl rfl, .inl rfl, rfl, trivial⟩)⟩
    · have he := ok_f he hb
      have he := ok_some he
      exact ⟨rfl, _, _, Leads.refl _ _, he⟩

noncomputable def c_laws_FnFlipBest : Con := fun args st => match args, st with
  | [.c (.imm (.int .u8) a0)], [] => .opt (Bool) (laws_FnFlipBest a0) (fun r => .ret (.c (.bool r)) [])
  | _, _ => .fail

noncomputable def C_laws_FnFlipBest : Cfg := { y := tys, n := 126, h := 0, tab := [(31, c_impl_ViolationCount), (37, c_spec_DrawFlipBest), (38, c_impl_FlipBest), (39, c_spec_FlipBest), (40, c_laws_cpBools)], cut := [14], hand := [], good := [], deep := [], sched := [] }

theorem t_laws_FnFlipBest : TabOk Try.prog C_laws_FnFlipBest := by
  refine tabOk_of ?_
  simp only [C_laws_FnFlipBest, List.forall_mem_cons]
  exact ⟨k_impl_ViolationCount, k_spec_DrawFlipBest, k_impl_FlipBest, k_spec_FlipBest, k_laws_cpBools, fun p h => by cases h⟩

theorem k_laws_FnFlipBest : Entry Try.prog 9 c_laws_FnFlipBest := by
  refine entry_by (C := C_laws_FnFlipBest) mixed tys_ok t_laws_FnFlipBest (fn := Try.f9) (c := bd Try.f9) (by kernel_rfl) (by kernel_rfl) (by kernel_rfl) (by kernel_rfl) ?_
  intro args st k he
  unfold c_laws_FnFlipBest at he
  split at he
  rotate_left
  · exact he.elim
  rename_i a0
  have he : Ok (laws_FnFlipBest a0) (fun r => k (.c (.bool r)) []) := he
  refine ⟨rfl, rfl, ?_⟩
  refine And.intro (fun hb => ?_) (fun hb => ?_)
  · have he := ok_t he hb
    have he := ok_some he
    exact ⟨rfl, _, _, Leads.refl _ _, he⟩
  · have he := ok_f he hb
    obtain ⟨r1_, hr, he⟩ := ok_bind he
    refine ⟨r1_, hr, ?_⟩
    obtain ⟨r2_, hr, he⟩ := ok_bind he
    refine ⟨r2_, hr, ?_⟩
    obtain ⟨r3_, hr, he⟩ := ok_bind he
    refine ⟨r3_, hr, ?_⟩
    refine And.intro (fun hb => ?_) (fun hb => ?_)
    · have he := ok_f he hb
      refine And.intro (fun hb => ?_) (fun hb => ?_)
      · have he := ok_f he hb
        obtain ⟨r4_, hr, he⟩ := ok_bind he
        refine ⟨r4_, hr, ?_⟩
        refine And.intro (fun hb => ?_) (fun hb => ?_)
        · have he := ok_f he hb
          refine And.intro (fun hb => ?_) (fun hb => ?_)
          · have he := ok_t he hb
            refine And.intro (fun hb => ?_) (fun hb => ?_)
            · have he := ok_t he hb
              refine And.intro (fun hb => ?_) (fun hb => ?_)
              · have he := ok_t he hb
                obtain ⟨r5_, hr, he⟩ := ok_bind he
                refine ⟨r5_, hr, ?_⟩
                have he := ok_some he
                exact ⟨rfl, _, _, (leads_ren [] (l := [(2, .c (.bool r5_))]) (st' := []) rfl rfl trivial ⟨.inl rfl, trivial⟩), he⟩
              · have he := ok_f he hb
                have he := ok_some he
                exact ⟨rfl, _, _, (leads_ren [] (l := [(2, .c (.bool false))]) (st' := []) rfl rfl trivial ⟨.inr rfl, trivial⟩), he⟩
            · have he := ok_f he hb
              have he := ok_some he
              exact ⟨rfl, _, _, (leads_ren [] (l := [(2, .c (.bool false))]) (st' := []) rfl rfl trivial ⟨.inr rfl, trivial⟩), he⟩
          · have he := ok_f he hb
            refine loop_model mixed tys_ok t_laws_FnFlipBest (S := Int × Int) (I := (fun (i, i1) => (envOf [(3, .c (.own 10000000)), (4, .c (.own 10000001)), (5, .c (.own 10000002)), (6, .c (.int .i64 r2_.1)), (11, .c (.int .i64 i)), (12, .c (.int .i64 i1))], [(10000000, .sl 81 (.pair (.sl (.pair (.int .i64) (.int .i64))) (.int .i64)) r1_.1 .shallow), (10000001, .sl 4 .bool r1_.2 .shallow), (10000002, .sl 4 .bool r2_.2.2 .shallow)]))) (f := laws_FnFlipBest_l1 r1_ r2_) (K := (fun r => k (.c (.bool r)) [])) he (leads_ren [(10000000, 24900), (10000001, 24901), (10000002, 30900)] (l := [(3, .c (.own 10000000)), (4, .c (.own 10000001)), (5, .c (.own 10000002)), (6, .c (.int .i64 r2_.1)), (11, .c (.int .i64 (0:Int))), (12, .c (.int .i64 (0:Int)))]) (st' := [(10000000, .sl 81 (.pair (.sl (.pair (.int .i64) (.int .i64))) (.int .i64)) r1_.1 .shallow), (10000001, .sl 4 .bool r1_.2 .shallow), (10000002, .sl 4 .bool r2_.2.2 .shallow)]) rfl rfl ⟨⟨rfl, rfl⟩, ⟨rfl, rfl⟩, ⟨rfl, rfl⟩, trivial⟩ ⟨⟨rfl, rfl⟩, ⟨rfl, rfl⟩, ⟨rfl, rfl⟩, rfl, rfl, rfl, trivial⟩) ?_
            rintro ⟨i, i1⟩ J1 he
            refine And.intro (fun hb => ?_) (fun hb => ?_)
            · have he := ok_t he hb
              refine seq_model mixed tys_ok t_laws_FnFlipBest (S := Int) (I := (fun i2 => (envOf [(3, .c (.own 10001000)), (4, .c (.own 10001001)), (5, .c (.own 10001002)), (6, .c (.int .i64 r2_.1)), (11, .c (.int .i64 i2)), (12, .c (.int .i64 i1))], [(10001000, .sl 81 (.pair (.sl (.pair (.int .i64) (.int .i64))) (.int .i64)) r1_.1 .shallow), (10001001, .sl 4 .bool r1_.2 .shallow), (10001002, .sl 4 .bool r2_.2.2 .shallow)]))) (B := fun s => Ok (laws_FnFlipBest_j1 r1_ r2_ i1 s) (LK J1 (fun r => k (.c (.bool r)) []))) ?_ ?_
              · rintro i2 he
                have he := ok_rq he
                refine And.intro he.1 ?_
                have he := he.2
                have he := ok_rq he
                refine And.intro he.1 ?_
                have he := he.2
                have he := ok_rq he
                refine And.intro he.1 ?_
                have he := he.2
                obtain ⟨r9_, hr, he⟩ := ok_bind he
                refine ⟨r9_, hr, ?_⟩
                refine And.intro (fun hb => ?_) (fun hb => ?_)
                · have he := ok_f he hb
                  refine And.intro (fun hb => ?_) (fun hb => ?_)
                  · have he := ok_t he hb
                    have he := ok_some he
                    exact ⟨rfl, _, _, (leads_ren [] (l := [(2, .c (.bool false))]) (st' := []) rfl rfl trivial ⟨.inr rfl, trivial⟩), he⟩
                  · have he := ok_f he hb
                    have he := ok_rq he
                    refine And.intro he.1 ?_
                    have he := he.2
                    have he := ok_some he
                    exact ⟨(i2, (i1 + (1:Int))), he, (leads_ren [(10000000, 10001000), (10000001, 10001001), (10000002, 10001002)] (l := [(3, .c (.own 10000000)), (4, .c (.own 10000001)), (5, .c (.own 10000002)), (6, .c (.int .i64 r2_.1)), (11, .c (.int .i64 i2)), (12, .c (.int .i64 (i1 + (1:Int))))]) (st' := [(10000000, .sl 81 (.pair (.sl (.pair (.int .i64) (.int .i64))) (.int .i64)) r1_.1 .shallow), (10000001, .sl 4 .bool r1_.2 .shallow), (10000002, .sl 4 .bool r2_.2.2 .shallow)]) rfl rfl ⟨⟨rfl, rfl⟩, ⟨rfl, rfl⟩, ⟨rfl, rfl⟩, trivial⟩ ⟨⟨rfl, rfl⟩, ⟨rfl, rfl⟩, ⟨rfl, rfl⟩, rfl, rfl, rfl, trivial⟩)⟩
                · have he := ok_t he hb
                  have he := ok_some he
                  exact ⟨rfl, _, _, (leads_ren [] (l := [(2, .c (.bool false))]) (st' := []) rfl rfl trivial ⟨.inr rfl, trivial⟩), he⟩
              · skip
                refine And.intro (by kernel_rfl) ?_
                have he := ok_rq he
                refine And.intro he.1 ?_
                have he := he.2
                have he := ok_rq he
                refine And.intro he.1 ?_
                have he := he.2
                refine And.intro (fun hb => ?_) (fun hb => ?_)
                · have he := ok_t he hb
                  have he := ok_rq he
                  refine And.intro he.1 ?_
                  have he := he.2
                  exact ⟨(i + (1:Int)), he, (leads_ren [(10001000, 10000000), (10001001, 10000001), (10001002, 10000002)] (l := [(3, .c (.own 10001000)), (4, .c (.own 10001001)), (5, .c (.own 10001002)), (6, .c (.int .i64 r2_.1)), (11, .c (.int .i64 (i + (1:Int)))), (12, .c (.int .i64 i1))]) (st' := [(10001000, .sl 81 (.pair (.sl (.pair (.int .i64) (.int .i64))) (.int .i64)) r1_.1 .shallow), (10001001, .sl 4 .bool r1_.2 .shallow), (10001002, .sl 4 .bool r2_.2.2 .shallow)]) rfl rfl ⟨⟨rfl, rfl⟩, ⟨rfl, rfl⟩, ⟨rfl, rfl⟩, trivial⟩ ⟨⟨rfl, rfl⟩, ⟨rfl, rfl⟩, ⟨rfl, rfl⟩, rfl, rfl, rfl, trivial⟩)⟩
                · have he := ok_f he hb
                  exact ⟨i, he, (leads_ren [(10001000, 10000000), (10001001, 10000001), (10001002, 10000002)] (l := [(3, .c (.own 10001000)), (4, .c (.own 10001001)), (5, .c (.own 10001002)), (6, .c (.int .i64 r2_.1)), (11, .c (.int .i64 i)), (12, .c (.int .i64 i1))]) (st' := [(10001000, .sl 81 (.pair (.sl (.pair (.int .i64) (.int .i64))) (.int .i64)) r1_.1 .shallow), (10001001, .sl 4 .bool r1_.2 .shallow), (10001002, .sl 4 .bool r2_.2.2 .shallow)]) rfl rfl ⟨⟨rfl, rfl⟩, ⟨rfl, rfl⟩, ⟨rfl, rfl⟩, trivial⟩ ⟨⟨rfl, rfl⟩, ⟨rfl, rfl⟩, ⟨rfl, rfl⟩, rfl, rfl, rfl, trivial⟩)⟩
            · have he := ok_f he hb
              obtain ⟨r10_, hr, he⟩ := ok_bind he
              refine ⟨r10_, hr, ?_⟩
              refine And.intro (fun hb => ?_) (fun hb => ?_)
              · have he := ok_t he hb
                refine And.intro (fun hb => ?_) (fun hb => ?_)
                · have he := ok_t he hb
                  have he := ok_some he
                  exact ⟨rfl, _, _, (leads_ren [] (l := [(2, .c (.bool (r10_.1 == r2_.1)))]) (st' := []) rfl rfl trivial ⟨.inl rfl, trivial⟩), he⟩
                · have he := ok_f he hb
                  have he := ok_some he
                  exact ⟨rfl, _, _, (leads_ren [] (l := [(2, .c (.bool false))]) (st' := []) rfl rfl trivial ⟨.inr rfl, trivial⟩), he⟩
              · have he := ok_f he hb
                have he := ok_some he
                exact ⟨rfl, _, _, (leads_ren [] (l := [(2, .c (.bool false))]) (st' := []) rfl rfl trivial ⟨.inr rfl, trivial⟩), he⟩
        · have he := ok_t he hb
          refine And.intro (fun hb => ?_) (fun hb => ?_)
          · have he := ok_t he hb
            refine And.intro (fun hb => ?_) (fun hb => ?_)
            · have he := ok_t he hb
              obtain ⟨r6_, hr, he⟩ := ok_bind he
              refine ⟨r6_, hr, ?_⟩
              have he := ok_some he
              exact ⟨rfl, _, _, (leads_ren [] (l := [(2, .c (.bool r6_))]) (st' := []) rfl rfl trivial ⟨.inl rfl, trivial⟩), he⟩
            · have he := ok_f he hb
              have he := ok_some he
              exact ⟨rfl, _, _, (leads_ren [] (l := [(2, .c (.bool false))]) (st' := []) rfl rfl trivial ⟨.inr rfl, trivial⟩), he⟩
          · have he := ok_f he hb
            have he := ok_some he
            exact ⟨rfl, _, _, (leads_ren [] (l := [(2, .c (.bool false))]) (st' := []) rfl rfl trivial ⟨.inr rfl, trivial⟩), he⟩
      · have he := ok_t he hb
        refine And.intro (fun hb => ?_) (fun hb => ?_)
        · have he := ok_t he hb
          refine And.intro (fun hb => ?_) (fun hb => ?_)
          · have he := ok_t he hb
            obtain ⟨r7_, hr, he⟩ := ok_bind he
            refine ⟨r7_, hr, ?_⟩
            have he := ok_some he
            exact ⟨rfl, _, _, (leads_ren [] (l := [(2, .c (.bool r7_))]) (st' := []) rfl rfl trivial ⟨.inl rfl, trivial⟩), he⟩
          · have he := ok_f he hb
            have he := ok_some he
            exact ⟨rfl, _, _, (leads_ren [] (l := [(2, .c (.bool false))]) (st' := []) rfl rfl trivial ⟨.inr rfl, trivial⟩), he⟩
        · have he := ok_f he hb
          have he := ok_some he
          exact ⟨rfl, _, _, (leads_ren [] (l := [(2, .c (.bool false))]) (st' := []) rfl rfl trivial ⟨.inr rfl, trivial⟩), he⟩
    · have he := ok_t he hb
      refine And.intro (fun hb => ?_) (fun hb => ?_)
      · have he := ok_t he hb
        refine And.intro (fun hb => ?_) (fun hb => ?_)
        · have he := ok_t he hb
          obtain ⟨r8_, hr, he⟩ := ok_bind he
          refine ⟨r8_, hr, ?_⟩
          have he := ok_some he
          exact ⟨rfl, _, _, (leads_ren [] (l := [(2, .c (.bool r8_))]) (st' := []) rfl rfl trivial ⟨.inl rfl, trivial⟩), he⟩
        · have he := ok_f he hb
          have he := ok_some he
          exact ⟨rfl, _, _, (leads_ren [] (l := [(2, .c (.bool false))]) (st' := []) rfl rfl trivial ⟨.inr rfl, trivial⟩), he⟩
      · have he := ok_f he hb
        have he := ok_some he
        exact ⟨rfl, _, _, (leads_ren [] (l := [(2, .c (.bool false))]) (st' := []) rfl rfl trivial ⟨.inr rfl, trivial⟩), he⟩

noncomputable def c_spec_l11Keep : Con := fun args st => match args, st with
  | [.c (.imm (.int .i64) keep), .c (.int .i64 n)], [] => .opt (Bool) (spec_l11Keep keep n) (fun r => .ret (.c (.bool r)) [])
  | _, _ => .fail

noncomputable def C_spec_l11Keep : Cfg := { y := tys, n := 41, h := 0, tab := [], cut := [], hand := [], good := [], deep := [], sched := [] }

theorem t_spec_l11Keep : TabOk Try.prog C_spec_l11Keep := tabOk_of (fun p h => by cases h)

theorem k_spec_l11Keep : Entry Try.prog 87 c_spec_l11Keep := by
  refine entry_by (C := C_spec_l11Keep) mixed tys_ok t_spec_l11Keep (fn := Try.f87) (c := bd Try.f87) (by kernel_rfl) (by kernel_rfl) (by kernel_rfl) (by kernel_rfl) ?_
  intro args st k he
  unfold c_spec_l11Keep at he
  split at he
  rotate_left
  · exact he.elim
  rename_i keep n
  have he : Ok (spec_l11Keep keep n) (fun r => k (.c (.bool r)) []) := he
  refine ⟨rfl, rfl, ?_⟩
  refine loop_model mixed tys_ok t_spec_l11Keep (S := Int) (I := (fun i => (envOf [(0, .c (.imm (.int .i64) keep)), (1, .c (.int .i64 n)), (5, .c (.int .i64 i))], []))) (f := spec_l11Keep_l1 keep n) (K := (fun r => k (.c (.bool r)) [])) he (leads_ren [] (l := [(0, .c (.imm (.int .i64) keep)), (1, .c (.int .i64 n)), (5, .c (.int .i64 (0:Int)))]) (st' := []) rfl rfl trivial ⟨.inl rfl, rfl, rfl, trivial⟩) ?_
  rintro i J1 he
  refine And.intro (fun hb => ?_) (fun hb => ?_)
  · have he := ok_t he hb
    refine And.intro (by kernel_rfl) ?_
    have he := ok_rq he
    refine And.intro he.1 ?_
    have he := he.2
    refine And.intro (fun hb => ?_) (fun hb => ?_)
    · have he := ok_f he hb
      have he := ok_rq he
      refine And.intro he.1 ?_
      have he := he.2
      refine And.intro (fun hb => ?_) (fun hb => ?_)
      · have he := ok_f he hb
        refine And.intro (fun hb => ?_) (fun hb => ?_)
        · have he := ok_t he hb
          have he := ok_rq he
          refine And.intro he.1 ?_
          have he := he.2
          have he := ok_rq he
          refine And.intro he.1 ?_
          have he := he.2
          have he := ok_rq he
          refine And.intro he.1 ?_
          have he := he.2
          refine And.intro (fun hb => ?_) (fun hb => ?_)
          · have he := ok_t he hb
            have he := ok_some he
            exact ⟨rfl, _, _, Leads.refl _ _, he⟩
          · have he := ok_f he hb
            have he := ok_rq he
            refine And.intro he.1 ?_
            have he := he.2
            have he := ok_some he
            exact ⟨(i + (1:Int)), he, (leads_ren [] (l := [(0, .c (.imm (.int .i64) keep)), (1, .c (.int .i64 n)), (5, .c (.int .i64 (i + (1:Int))))]) (st' := []) rfl rfl trivial ⟨.inl rfl, rfl, rfl, trivial⟩)⟩
        · have he := ok_f he hb
          have he := ok_rq he
          refine And.intro he.1 ?_
          have he := he.2
          have he := ok_some he
          exact ⟨(i + (1:Int)), he, (leads_ren [] (l := [(0, .c (.imm (.int .i64) keep)), (1, .c (.int .i64 n)), (5, .c (.int .i64 (i + (1:Int))))]) (st' := []) rfl rfl trivial ⟨.inl rfl, rfl, rfl, trivial⟩)⟩
      · have he := ok_t he hb
        have he := ok_some he
        exact ⟨rfl, _, _, Leads.refl _ _, he⟩
    · have he := ok_t he hb
      have he := ok_some he
      exact ⟨rfl, _, _, Leads.refl _ _, he⟩
  · have he := ok_f he hb
    have he := ok_some he
    exact ⟨rfl, _, _, Leads.refl _ _, he⟩

noncomputable def c_spec_l11Sub : Con := fun args st => match args, st with
  | [.c (.imm (.pair (.sl (.pair (.int .i64) (.int .i64))) (.int .i64)) list_), .c (.imm (.int .i64) keep)], [] => .opt ((List ((List (Int × Int)) × Int))) (spec_l11Sub list_ keep) (fun r => .ret (.c (.own 900)) [(900, .sl 81 (.pair (.sl (.pair (.int .i64) (.int .i64))) (.int .i64)) r (.deep true .no))])
  | _, _ => .fail

noncomputable def C_spec_l11Sub : Cfg := { y := tys, n := 26, h := 0, tab := [(113, c_spec_l1Copy)], cut := [], hand := [], good := [], deep := [7, 23], sched := [] }

theorem t_spec_l11Sub : TabOk Try.prog C_spec_l11Sub := by
  refine tabOk_of ?_
  simp only [C_spec_l11Sub, List.forall_mem_cons]
  exact ⟨k_spec_l1Copy, fun p h => by cases h⟩

theorem k_spec_l11Sub : Entry Try.prog 88 c_spec_l11Sub := by
  refine entry_by (C := C_spec_l11Sub) mixed tys_ok t_spec_l11Sub (fn := Try.f88) (c := bd Try.f88) (by kernel_rfl) (by kernel_rfl) (by kernel_rfl) (by kernel_rfl) ?_
  intro args st k he
  unfold c_spec_l11Sub at he
  split at he
  rotate_left
  · exact he.elim
  rename_i list_ keep
  have he : Ok (spec_l11Sub list_ keep) (fun r => k (.c (.own 900)) [(900, .sl 81 (.pair (.sl (.pair (.int .i64) (.int .i64))) (.int .i64)) r (.deep true .no))]) := he
  refine ⟨rfl, rfl, ?_⟩
  refine loop_model mixed tys_ok t_spec_l11Sub (S := Int × (List ((List (Int × Int)) × Int))) (I := (fun (i, out) => (envOf [(0, .c (.imm (.pair (.sl (.pair (.int .i64) (.int .i64))) (.int .i64)) list_)), (1, .c (.imm (.int .i64) keep)), (5, .c (.own 10000000)), (6, .c (.int .i64 i))], [(10000000, .sl 81 (.pair (.sl (.pair (.int .i64) (.int .i64))) (.int .i64)) out (.deep true .no))]))) (f := spec_l11Sub_l1 list_ keep) (K := (fun r => k (.c (.own 900)) [(900, .sl 81 (.pair (.sl (.pair (.int .i64) (.int .i64))) (.int .i64)) r (.deep true .no))])) he (leads_ren [(10000000, 7)] (l := [(0, .c (.imm (.pair (.sl (.pair (.int .i64) (.int .i64))) (.int .i64)) list_)), (1, .c (.imm (.int .i64) keep)), (5, .c (.own 10000000)), (6, .c (.int .i64 (0:Int)))]) (st' := [(10000000, .sl 81 (.pair (.sl (.pair (.int .i64) (.int .i64))) (.int .i64)) ([] : List ((List (Int × Int)) × Int)) (.deep true .no))]) rfl rfl ⟨⟨rfl, rfl⟩, trivial⟩ ⟨.inl rfl, .inl rfl, ⟨rfl, rfl⟩, rfl, trivial⟩) ?_
  rintro ⟨i, out⟩ J1 he
  refine And.intro (fun hb => ?_) (fun hb => ?_)
  · have he := ok_t he hb
    have he := ok_rq he
    refine And.intro he.1 ?_
    have he := he.2
    have he := ok_rq he
    refine And.intro he.1 ?_
    have he := he.2
    obtain ⟨r2_, hr, he⟩ := ok_bind he
    refine ⟨r2_, hr, ?_⟩
    have he := ok_rq he
    refine And.intro he.1 ?_
    have he := he.2
    have he := ok_rq he
    refine And.intro he.1 ?_
    have he := he.2
    have he := ok_some he
    exact ⟨((i + (1:Int)), (out ++ [(r2_.2, r2_.1)])), he, (leads_ren [(10000000, 24)] (l := [(0, .c (.imm (.pair (.sl (.pair (.int .i64) (.int .i64))) (.int .i64)) list_)), (1, .c (.imm (.int .i64) keep)), (5, .c (.own 10000000)), (6, .c (.int .i64 (i + (1:Int))))]) (st' := [(10000000, .sl 81 (.pair (.sl (.pair (.int .i64) (.int .i64))) (.int .i64)) (out ++ [(r2_.2, r2_.1)]) (.deep true .no))]) rfl rfl ⟨⟨rfl, rfl⟩, trivial⟩ ⟨.inl rfl, .inl rfl, ⟨rfl, rfl⟩, rfl, trivial⟩)⟩
  · have he := ok_f he hb
    have he := ok_some he
    exact ⟨rfl, _, _, (leads_ren [(900, 10000000)] (l := [(4, .c (.own 900))]) (st' := [(900, .sl 81 (.pair (.sl (.pair (.int .i64) (.int .i64))) (.int .i64)) out (.deep true .no))]) rfl rfl ⟨⟨rfl, rfl⟩, trivial⟩ ⟨⟨rfl, rfl⟩, trivial⟩), he⟩

noncomputable def c_spec_SubProblem : Con := fun args st => match args, st with
  | [.c (.imm (.pair (.sl (.pair (.int .i64) (.int .i64))) (.int .i64)) list_), .c (.imm (.int .i64) keep)], [] => .opt (Bool × (List ((List (Int × Int)) × Int))) (spec_SubProblem list_ keep) (fun r => .ret (.tup [.c (.own 900), .c (.bool r.1)]) [(900, .sl 81 (.pair (.sl (.pair (.int .i64) (.int .i64))) (.int .i64)) r.2 (.deep true .no))])
  | _, _ => .fail

noncomputable def C_spec_SubProblem : Cfg := { y := tys, n := 20, h := 0, tab := [(74, c_spec_ProblemValid), (87, c_spec_l11Keep), (88, c_spec_l11Sub)], cut := [], hand := [], good := [], deep := [16], sched := [] }

theorem t_spec_SubProblem : TabOk Try.prog C_spec_SubProblem := by
  refine tabOk_of ?_
  simp only [C_spec_SubProblem, List.forall_mem_cons]
  exact ⟨k_spec_ProblemValid, k_spec_l11Keep, k_spec_l11Sub, fun p h => by cases h⟩

theorem k_spec_SubProblem : Entry Try.prog 43 c_spec_SubProblem := by
  refine entry_by (C := C_spec_SubProblem) mixed tys_ok t_spec_SubProblem (fn := Try.f43) (c := bd Try.f43) (by kernel_rfl) (by kernel_rfl) (by kernel_rfl) (by kernel_rfl) ?_
  intro args st k he
  unfold c_spec_SubProblem at he
  split at he
  rotate_left
  · exact he.elim
  rename_i list_ keep
  have he : Ok (spec_SubProblem list_ keep) (fun r => k (.tup [.c (.own 900), .c (.bool r.1)]) [(900, .sl 81 (.pair (.sl (.pair (.int .i64) (.int .i64))) (.int .i64)) r.2 (.deep true .no))]) := he
  refine ⟨rfl, rfl, ?_⟩
  obtain ⟨r1_, hr, he⟩ := ok_bind he
  refine ⟨r1_, hr, ?_⟩
  refine And.intro (fun hb => ?_) (fun hb => ?_)
  · have he := ok_f he hb
    obtain ⟨r2_, hr, he⟩ := ok_bind he
    refine ⟨r2_, hr, ?_⟩
    refine And.intro (fun hb => ?_) (fun hb => ?_)
    · have he := ok_t he hb
      have he := ok_some he
      exact ⟨rfl, _, _, (leads_ren [(900, 16)] (l := [(4, .c (.own 900)), (5, .c (.bool false))]) (st' := [(900, .sl 81 (.pair (.sl (.pair (.int .i64) (.int .i64))) (.int .i64)) ([] : List ((List (Int × Int)) × Int)) (.deep true .no))]) rfl rfl ⟨⟨rfl, rfl⟩, trivial⟩ ⟨⟨rfl, rfl⟩, .inr rfl, trivial⟩), he⟩
    · have he := ok_f he hb
      obtain ⟨r3_, hr, he⟩ := ok_bind he
      refine ⟨r3_, hr, ?_⟩
      have he := ok_some he
      exact ⟨rfl, _, _, (leads_ren [(900, 20900)] (l := [(4, .c (.own 900)), (5, .c (.bool true))]) (st' := [(900, .sl 81 (.pair (.sl (.pair (.int .i64) (.int .i64))) (.int .i64)) r3_ (.deep true .no))]) rfl rfl ⟨⟨rfl, rfl⟩, trivial⟩ ⟨⟨rfl, rfl⟩, .inr rfl, trivial⟩), he⟩
  · have he := ok_t he hb
    have he := ok_some he
    exact ⟨rfl, _, _, (leads_ren [(900, 16)] (l := [(4, .c (.own 900)), (5, .c (.bool false))]) (st' := [(900, .sl 81 (.pair (.sl (.pair (.int .i64) (.int .i64))) (.int .i64)) ([] : List ((List (Int × Int)) × Int)) (.deep true .no))]) rfl rfl ⟨⟨rfl, rfl⟩, trivial⟩ ⟨⟨rfl, rfl⟩, .inr rfl, trivial⟩), he⟩

noncomputable def c_impl_isPart : Con := fun args st => match args, st with
  | [.c (.imm (.int .i64) keep), .c (.int .i64 count)], [] => .opt (Bool) (impl_isPart keep count) (fun r => .ret (.c (.bool r)) [])
  | _, _ => .fail

noncomputable def C_impl_isPart : Cfg := { y := tys, n := 33, h := 0, tab := [(100, c_impl_within)], cut := [], hand := [], good := [], deep := [], sched := [] }

theorem t_impl_isPart : TabOk Try.prog C_impl_isPart := by
  refine tabOk_of ?_
  simp only [C_impl_isPart, List.forall_mem_cons]
  exact ⟨k_impl_within, fun p h => by cases h⟩

theorem k_impl_isPart : Entry Try.prog 84 c_impl_isPart := by
  refine entry_by (C := C_impl_isPart) mixed tys_ok t_impl_isPart (fn := Try.f84) (c := bd Try.f84) (by kernel_rfl) (by kernel_rfl) (by kernel_rfl) (by kernel_rfl) ?_
  intro args st k he
  unfold c_impl_isPart at he
  split at he
  rotate_left
  · exact he.elim
  rename_i keep count
  have he : Ok (impl_isPart keep count) (fun r => k (.c (.bool r)) []) := he
  refine ⟨rfl, rfl, ?_⟩
  refine loop_model mixed tys_ok t_impl_isPart (S := Int) (I := (fun i => (envOf [(0, .c (.imm (.int .i64) keep)), (1, .c (.int .i64 count)), (7, .c (.imm (.int .i64) keep)), (8, .c (.int .i64 (keep.length:Int))), (9, .c (.int .i64 i))], []))) (f := impl_isPart_l1 keep count) (K := (fun r => k (.c (.bool r)) [])) he (leads_ren [] (l := [(0, .c (.imm (.int .i64) keep)), (1, .c (.int .i64 count)), (7, .c (.imm (.int .i64) keep)), (8, .c (.int .i64 (keep.length:Int))), (9, .c (.int .i64 (0:Int)))]) (st' := []) rfl rfl trivial ⟨.inl rfl, rfl, .inl rfl, rfl, rfl, trivial⟩) ?_
  rintro i J1 he
  refine And.intro (fun hb => ?_) (fun hb => ?_)
  · have he := ok_t he hb
    have he := ok_rq he
    refine And.intro he.1 ?_
    have he := he.2
    have he := ok_rq he
    refine And.intro he.1 ?_
    have he := he.2
    obtain ⟨r1_, hr, he⟩ := ok_bind he
    refine ⟨r1_, hr, ?_⟩
    refine And.intro (fun hb => ?_) (fun hb => ?_)
    · have he := ok_f he hb
      refine And.intro (fun hb => ?_) (fun hb => ?_)
      · have he := ok_t he hb
        have he := ok_rq he
        refine And.intro he.1 ?_
        have he := he.2
        have he := ok_rq he
        refine And.intro he.1 ?_
        have he := he.2
        refine And.intro (fun hb => ?_) (fun hb => ?_)
        · have he := ok_t he hb
          have he := ok_some he
          exact ⟨rfl, _, _, Leads.refl _ _, he⟩
        · have he := ok_f he hb
          have he := ok_rq he
          refine And.intro he.1 ?_
          have he := he.2
          have he := ok_some he
          exact ⟨(i + (1:Int)), he, (leads_ren [] (l := [(0, .c (.imm (.int .i64) keep)), (1, .c (.int .i64 count)), (7, .c (.imm (.int .i64) keep)), (8, .c (.int .i64 (keep.length:Int))), (9, .c (.int .i64 (i + (1:Int))))]) (st' := []) rfl rfl trivial ⟨.inl rfl, rfl, .inl rfl, rfl, rfl, trivial⟩)⟩
      · have he := ok_f he hb
        have he := ok_rq he
        refine And.intro he.1 ?_
        have he := he.2
        have he := ok_some he
        exact ⟨(i + (1:Int)), he, (leads_ren [] (l := [(0, .c (.imm (.int .i64) keep)), (1, .c (.int .i64 count)), (7, .c (.imm (.int .i64) keep)), (8, .c (.int .i64 (keep.length:Int))), (9, .c (.int .i64 (i + (1:Int))))]) (st' := []) rfl rfl trivial ⟨.inl rfl, rfl, .inl rfl, rfl, rfl, trivial⟩)⟩
    · have he := ok_t he hb
      have he := ok_some he
      exact ⟨rfl, _, _, Leads.refl _ _, he⟩
  · have he := ok_f he hb
    have he := ok_some he
    exact ⟨rfl, _, _, Leads.refl _ _, he⟩

noncomputable def c_impl_partOf : Con := fun args st => match args, st with
  | [.c (.imm (.pair (.sl (.pair (.int .i64) (.int .i64))) (.int .i64)) list_), .c (.imm (.int .i64) keep)], [] => .opt ((List ((List (Int × Int)) × Int))) (impl_partOf list_ keep) (fun r => .ret (.c (.own 900)) [(900, .sl 81 (.pair (.sl (.pair (.int .i64) (.int .i64))) (.int .i64)) r .shallow)])
  | _, _ => .fail

noncomputable def C_impl_partOf : Cfg := { y := tys, n := 23, h := 0, tab := [], cut := [], hand := [], good := [], deep := [], sched := [] }

theorem t_impl_partOf : TabOk Try.prog C_impl_partOf := tabOk_of (fun p h => by cases h)

theorem k_impl_partOf : Entry Try.prog 86 c_impl_partOf := by
  refine entry_by (C := C_impl_partOf) mixed tys_ok t_impl_partOf (fn := Try.f86) (c := bd Try.f86) (by kernel_rfl) (by kernel_rfl) (by kernel_rfl) (by kernel_rfl) ?_
  intro args st k he
  unfold c_impl_partOf at he
  split at he
  rotate_left
  · exact he.elim
  rename_i list_ keep
  have he : Ok (impl_partOf list_ keep) (fun r => k (.c (.own 900)) [(900, .sl 81 (.pair (.sl (.pair (.int .i64) (.int .i64))) (.int .i64)) r .shallow)]) := he
  refine ⟨rfl, rfl, ?_⟩
  refine loop_model mixed tys_ok t_impl_partOf (S := Int × (List ((List (Int × Int)) × Int))) (I := (fun (i, out) => (envOf [(0, .c (.imm (.pair (.sl (.pair (.int .i64) (.int .i64))) (.int .i64)) list_)), (5, .c (.own 10000000)), (8, .c (.imm (.int .i64) keep)), (9, .c (.int .i64 (keep.length:Int))), (10, .c (.int .i64 i))], [(10000000, .sl 81 (.pair (.sl (.pair (.int .i64) (.int .i64))) (.int .i64)) out .shallow)]))) (f := impl_partOf_l1 list_ keep) (K := (fun r => k (.c (.own 900)) [(900, .sl 81 (.pair (.sl (.pair (.int .i64) (.int .i64))) (.int .i64)) r .shallow)])) he (leads_ren [] (l := [(0, .c (.imm (.pair (.sl (.pair (.int .i64) (.int .i64))) (.int .i64)) list_)), (5, .c (.own 10000000)), (8, .c (.imm (.int .i64) keep)), (9, .c (.int .i64 (keep.length:Int))), (10, .c (.int .i64 (0:Int)))]) (st' := [(10000000, .sl 81 (.pair (.sl (.pair (.int .i64) (.int .i64))) (.int .i64)) ([] : List ((List (Int × Int)) × Int)) .shallow)]) rfl rfl ⟨trivial, trivial⟩ ⟨.inl rfl, ⟨rfl, trivial⟩, .inl rfl, rfl, rfl, trivial⟩) ?_
  rintro ⟨i, out⟩ J1 he
  refine And.intro (fun hb => ?_) (fun hb => ?_)
  · have he := ok_t he hb
    have he := ok_rq he
    refine And.intro he.1 ?_
    have he := he.2
    have he := ok_rq he
    refine And.intro he.1 ?_
    have he := he.2
    have he := ok_rq he
    refine And.intro he.1 ?_
    have he := he.2
    have he := ok_rq he
    refine And.intro he.1 ?_
    have he := he.2
    have he := ok_some he
    exact ⟨((i + (1:Int)), (out ++ [(list_.getD (keep.getD i.toNat 0).toNat ([], 0))])), he, (leads_ren [(10000000, 20)] (l := [(0, .c (.imm (.pair (.sl (.pair (.int .i64) (.int .i64))) (.int .i64)) list_)), (5, .c (.own 10000000)), (8, .c (.imm (.int .i64) keep)), (9, .c (.int .i64 (keep.length:Int))), (10, .c (.int .i64 (i + (1:Int))))]) (st' := [(10000000, .sl 81 (.pair (.sl (.pair (.int .i64) (.int .i64))) (.int .i64)) (out ++ [(list_.getD (keep.getD i.toNat 0).toNat ([], 0))]) .shallow)]) rfl rfl ⟨⟨rfl, rfl⟩, trivial⟩ ⟨.inl rfl, ⟨rfl, rfl⟩, .inl rfl, rfl, rfl, trivial⟩)⟩
  · have he := ok_f he hb
    have he := ok_some he
    exact ⟨rfl, _, _, (leads_ren [(900, 10000000)] (l := [(4, .c (.own 900))]) (st' := [(900, .sl 81 (.pair (.sl (.pair (.int .i64) (.int .i64))) (.int .i64)) out .shallow)]) rfl rfl ⟨⟨rfl, rfl⟩, trivial⟩ ⟨⟨rfl, rfl⟩, trivial⟩), he⟩

noncomputable def c_slices_Clone_impl_Term : Con := fun args st => match args, st with
  | [.c (.imm (.pair (.int .i64) (.int .i64)) s_)], [] => .opt ((List (Int × Int))) (slices_Clone_impl_Term s_) (fun r => .ret (.c (.own 900)) [(900, .sl 93 (.pair (.int .i64) (.int .i64)) r .shallow)])
  | _, _ => .fail

noncomputable def C_slices_Clone_impl_Term : Cfg := { y := tys, n := 8, h := 0, tab := [], cut := [], hand := [], good := [], deep := [], sched := [] }

theorem t_slices_Clone_impl_Term : TabOk Try.prog C_slices_Clone_impl_Term := tabOk_of (fun p h => by cases h)

theorem k_slices_Clone_impl_Term : Entry Try.prog 121 c_slices_Clone_impl_Term := by
  refine entry_by (C := C_slices_Clone_impl_Term) mixed tys_ok t_slices_Clone_impl_Term (fn := Try.f121) (c := bd Try.f121) (by kernel_rfl) (by kernel_rfl) (by kernel_rfl) (by kernel_rfl) ?_
  intro args st k he
  unfold c_slices_Clone_impl_Term at he
  split at he
  rotate_left
  · exact he.elim
  rename_i s_
  have he : Ok (slices_Clone_impl_Term s_) (fun r => k (.c (.own 900)) [(900, .sl 93 (.pair (.int .i64) (.int .i64)) r .shallow)]) := he
  refine ⟨rfl, rfl, ?_⟩
  refine fun b1_ hb1_ => ?_
  have he := ok_nt he hb1_
  refine And.intro (fun hb => ?_) (fun hb => ?_)
  · have he := ok_t he hb
    have he := ok_some he
    exact ⟨rfl, _, _, (leads_ren [] (l := [(2, .c (.own 900))]) (st' := [(900, .sl 93 (.pair (.int .i64) (.int .i64)) ([] : List (Int × Int)) .shallow)]) rfl rfl ⟨trivial, trivial⟩ ⟨⟨rfl, trivial⟩, trivial⟩), he⟩
  · have he := ok_f he hb
    have he := ok_rq he
    refine And.intro he.1 ?_
    have he := he.2
    have he := ok_some he
    exact ⟨rfl, _, _, (leads_ren [(900, 7)] (l := [(2, .c (.own 900))]) (st' := [(900, .sl 93 (.pair (.int .i64) (.int .i64)) (([] : List (Int × Int)) ++ s_) .shallow)]) rfl rfl ⟨⟨rfl, rfl⟩, trivial⟩ ⟨⟨rfl, rfl⟩, trivial⟩), he⟩

noncomputable def c_impl_Constraint_own : Con := fun args st => match args, st with
  | [.agg [.imm (.pair (.int .i64) (.int .i64)) c__0, .int .i64 c__1]], [] => .opt (Int × (List (Int × Int))) (impl_Constraint_own (c__0, c__1)) (fun r => .ret (.agg [.own 901, .int .i64 r.1]) [(900, .rc [.own 901, .int .i64 r.1]), (901, .sl 93 (.pair (.int .i64) (.int .i64)) r.2 .shallow)])
  | _, _ => .fail

noncomputable def C_impl_Constraint_own : Cfg := { y := tys, n := 8, h := 0, tab := [(121, c_slices_Clone_impl_Term)], cut := [], hand := [], good := [], deep := [], sched := [] }

theorem t_impl_Constraint_own : TabOk Try.prog C_impl_Constraint_own := by
  refine tabOk_of ?_
  simp only [C_impl_Constraint_own, List.forall_mem_cons]
  exact ⟨k_slices_Clone_impl_Term, fun p h => by cases h⟩

theorem k_impl_Constraint_own : Entry Try.prog 112 c_impl_Constraint_own := by
  refine entry_by (C := C_impl_Constraint_own) mixed tys_ok t_impl_Constraint_own (fn := Try.f112) (c := bd Try.f112) (by kernel_rfl) (by kernel_rfl) (by kernel_rfl) (by kernel_rfl) ?_
  intro args st k he
  unfold c_impl_Constraint_own at he
  split at he
  rotate_left
  · exact he.elim
  rename_i c__0 c__1
  have he : Ok (impl_Constraint_own (c__0, c__1)) (fun r => k (.agg [.own 901, .int .i64 r.1]) [(900, .rc [.own 901, .int .i64 r.1]), (901, .sl 93 (.pair (.int .i64) (.int .i64)) r.2 .shallow)]) := he
  refine ⟨rfl, rfl, ?_⟩
  obtain ⟨r1_, hr, he⟩ := ok_bind he
  refine ⟨r1_, hr, ?_⟩
  have he := ok_some he
  exact ⟨rfl, _, _, (leads_ren [(900, 2), (901, 6900)] (l := [(2, .c (.ptr 900 0))]) (st' := [(900, .rc [.own 901, .int .i64 (c__0, c__1).2]), (901, .sl 93 (.pair (.int .i64) (.int .i64)) r1_ .shallow)]) rfl rfl ⟨⟨⟨rfl, rfl⟩, rfl, trivial⟩, ⟨rfl, rfl⟩, trivial⟩ ⟨⟨⟨rfl, rfl⟩, rfl⟩, trivial⟩), he⟩

noncomputable def c_impl_ownAll : Con := fun args st => match args, st with
  | [.c (.imm (.pair (.sl (.pair (.int .i64) (.int .i64))) (.int .i64)) list_)], [] => .opt ((List ((List (Int × Int)) × Int))) (impl_ownAll list_) (fun r => .ret (.c (.own 900)) [(900, .sl 81 (.pair (.sl (.pair (.int .i64) (.int .i64))) (.int .i64)) r (.deep true .no))])
  | _, _ => .fail

noncomputable def C_impl_ownAll : Cfg := { y := tys, n := 19, h := 0, tab := [(112, c_impl_Constraint_own)], cut := [], hand := [], good := [], deep := [15], sched := [] }

theorem t_impl_ownAll : TabOk Try.prog C_impl_ownAll := by
  refine tabOk_of ?_
  simp only [C_impl_ownAll, List.forall_mem_cons]
  exact ⟨k_impl_Constraint_own, fun p h => by cases h⟩

theorem k_impl_ownAll : Entry Try.prog 85 c_impl_ownAll := by
  refine entry_by (C := C_impl_ownAll) mixed tys_ok t_impl_ownAll (fn := Try.f85) (c := bd Try.f85) (by kernel_rfl) (by kernel_rfl) (by kernel_rfl) (by kernel_rfl) ?_
  intro args st k he
  unfold c_impl_ownAll at he
  split at he
  rotate_left
  · exact he.elim
  rename_i list_
  have he : Ok (impl_ownAll list_) (fun r => k (.c (.own 900)) [(900, .sl 81 (.pair (.sl (.pair (.int .i64) (.int .i64))) (.int .i64)) r (.deep true .no))]) := he
  refine ⟨rfl, rfl, ?_⟩
  refine loop_model mixed tys_ok t_impl_ownAll (S := Int × (List ((List (Int × Int)) × Int))) (I := (fun (i, out) => (envOf [(3, .c (.own 10000000)), (6, .c (.imm (.pair (.sl (.pair (.int .i64) (.int .i64))) (.int .i64)) list_)), (7, .c (.int .i64 (list_.length:Int))), (8, .c (.int .i64 i))], [(10000000, .sl 81 (.pair (.sl (.pair (.int .i64) (.int .i64))) (.int .i64)) out (.deep true .no))]))) (f := impl_ownAll_l1 list_) (K := (fun r => k (.c (.own 900)) [(900, .sl 81 (.pair (.sl (.pair (.int .i64) (.int .i64))) (.int .i64)) r (.deep true .no))])) he (leads_ren [] (l := [(3, .c (.own 10000000)), (6, .c (.imm (.pair (.sl (.pair (.int .i64) (.int .i64))) (.int .i64)) list_)), (7, .c (.int .i64 (list_.length:Int))), (8, .c (.int .i64 (0:Int)))]) (st' := [(10000000, .sl 81 (.pair (.sl (.pair (.int .i64) (.int .i64))) (.int .i64)) ([] : List ((List (Int × Int)) × Int)) (.deep true .no))]) rfl rfl ⟨trivial, trivial⟩ ⟨⟨rfl, trivial⟩, .inl rfl, rfl, rfl, trivial⟩) ?_
  rintro ⟨i, out⟩ J1 he
  refine And.intro (fun hb => ?_) (fun hb => ?_)
  · have he := ok_t he hb
    have he := ok_rq he
    refine And.intro he.1 ?_
    have he := he.2
    obtain ⟨r2_, hr, he⟩ := ok_bind he
    refine ⟨r2_, hr, ?_⟩
    have he := ok_rq he
    refine And.intro he.1 ?_
    have he := he.2
    have he := ok_rq he
    refine And.intro he.1 ?_
    have he := he.2
    have he := ok_some he
    exact ⟨((i + (1:Int)), (out ++ [(r2_.2, r2_.1)])), he, (leads_ren [(10000000, 16)] (l := [(3, .c (.own 10000000)), (6, .c (.imm (.pair (.sl (.pair (.int .i64) (.int .i64))) (.int .i64)) list_)), (7, .c (.int .i64 (list_.length:Int))), (8, .c (.int .i64 (i + (1:Int))))]) (st' := [(10000000, .sl 81 (.pair (.sl (.pair (.int .i64) (.int .i64))) (.int .i64)) (out ++ [(r2_.2, r2_.1)]) (.deep true .no))]) rfl rfl ⟨⟨rfl, rfl⟩, trivial⟩ ⟨⟨rfl, rfl⟩, .inl rfl, rfl, rfl, trivial⟩)⟩
  · have he := ok_f he hb
    have he := ok_some he
    exact ⟨rfl, _, _, (leads_ren [(900, 10000000)] (l := [(2, .c (.own 900))]) (st' := [(900, .sl 81 (.pair (.sl (.pair (.int .i64) (.int .i64))) (.int .i64)) out (.deep true .no))]) rfl rfl ⟨⟨rfl, rfl⟩, trivial⟩ ⟨⟨rfl, rfl⟩, trivial⟩), he⟩

noncomputable def c_impl_SubProblem : Con := fun args st => match args, st with
  | [.c (.imm (.pair (.sl (.pair (.int .i64) (.int .i64))) (.int .i64)) list_), .c (.imm (.int .i64) keep)], [] => .opt (Bool × (List ((List (Int × Int)) × Int))) (impl_SubProblem list_ keep) (fun r => .ret (.tup [.c (.own 900), .c (.bool r.1)]) [(900, .sl 81 (.pair (.sl (.pair (.int .i64) (.int .i64))) (.int .i64)) r.2 (.deep true .no))])
  | _, _ => .fail

noncomputable def C_impl_SubProblem : Cfg := { y := tys, n := 20, h := 0, tab := [(53, c_impl_ProblemValid), (84, c_impl_isPart), (85, c_impl_ownAll), (86, c_impl_partOf)], cut := [], hand := [], good := [], deep := [], sched := [] }

theorem t_impl_SubProblem : TabOk Try.prog C_impl_SubProblem := by
  refine tabOk_of ?_
  simp only [C_impl_SubProblem, List.forall_mem_cons]
  exact ⟨k_impl_ProblemValid, k_impl_isPart, k_impl_ownAll, k_impl_partOf, fun p h => by cases h⟩

theorem k_impl_SubProblem : Entry Try.prog 42 c_impl_SubProblem := by
  refine entry_by (C := C_impl_SubProblem) mixed tys_ok t_impl_SubProblem (fn := Try.f42) (c := bd Try.f42) (by kernel_rfl) (by kernel_rfl) (by kernel_rfl) (by kernel_rfl) ?_
  intro args st k he
  unfold c_impl_SubProblem at he
  split at he
  rotate_left
  · exact he.elim
  rename_i list_ keep
  have he : Ok (impl_SubProblem list_ keep) (fun r => k (.tup [.c (.own 900), .c (.bool r.1)]) [(900, .sl 81 (.pair (.sl (.pair (.int .i64) (.int .i64))) (.int .i64)) r.2 (.deep true .no))]) := he
  refine ⟨rfl, rfl, ?_⟩
  obtain ⟨r1_, hr, he⟩ := ok_bind he
  refine ⟨r1_, hr, ?_⟩
  refine And.intro (fun hb => ?_) (fun hb => ?_)
  · have he := ok_f he hb
    obtain ⟨r2_, hr, he⟩ := ok_bind he
    refine ⟨r2_, hr, ?_⟩
    refine And.intro (fun hb => ?_) (fun hb => ?_)
    · have he := ok_t he hb
      have he := ok_some he
      exact ⟨rfl, _, _, (leads_ren [] (l := [(4, .c (.own 900)), (5, .c (.bool false))]) (st' := [(900, .sl 81 (.pair (.sl (.pair (.int .i64) (.int .i64))) (.int .i64)) ([] : List ((List (Int × Int)) × Int)) (.deep true .no))]) rfl rfl ⟨trivial, trivial⟩ ⟨⟨rfl, trivial⟩, .inr rfl, trivial⟩), he⟩
    · have he := ok_f he hb
      obtain ⟨r3_, hr, he⟩ := ok_bind he
      refine ⟨r3_, hr, ?_⟩
      obtain ⟨r4_, hr, he⟩ := ok_bind he
      refine ⟨r4_, hr, ?_⟩
      have he := ok_some he
      exact ⟨rfl, _, _, (leads_ren [(900, 20900)] (l := [(4, .c (.own 900)), (5, .c (.bool true))]) (st' := [(900, .sl 81 (.pair (.sl (.pair (.int .i64) (.int .i64))) (.int .i64)) r4_ (.deep true .no))]) rfl rfl ⟨⟨rfl, rfl⟩, trivial⟩ ⟨⟨rfl, rfl⟩, .inr rfl, trivial⟩), he⟩
  · have he := ok_t he hb
    have he := ok_some he
    exact ⟨rfl, _, _, (leads_ren [] (l := [(4, .c (.own 900)), (5, .c (.bool false))]) (st' := [(900, .sl 81 (.pair (.sl (.pair (.int .i64) (.int .i64))) (.int .i64)) ([] : List ((List (Int × Int)) × Int)) (.deep true .no))]) rfl rfl ⟨trivial, trivial⟩ ⟨⟨rfl, trivial⟩, .inr rfl, trivial⟩), he⟩

noncomputable def c_laws_markTermS : Con := fun args st => match args, st with
  | [.c (.own 0), .c (.int .i64 k_)], [(0, .sl 0 (.pair (.int .i64) (.int .i64)) a (.deep false .no))] => .opt (Int × (List (Int × Int))) (laws_markTermS k_ a) (fun r => .ret (.c (.int .i64 r.1)) [(0, .sl 0 (.pair (.int .i64) (.int .i64)) r.2 (.deep false .no))])
  | _, _ => .fail

noncomputable def C_laws_markTermS : Cfg := { y := tys, n := 27, h := 1, tab := [], cut := [], hand := [], good := [], deep := [], sched := [] }

theorem t_laws_markTermS : TabOk Try.prog C_laws_markTermS := tabOk_of (fun p h => by cases h)

theorem k_laws_markTermS : Entry Try.prog 91 c_laws_markTermS := by
  refine entry_by (C := C_laws_markTermS) mixed tys_ok t_laws_markTermS (fn := Try.f91) (c := bd Try.f91) (by kernel_rfl) (by kernel_rfl) (by kernel_rfl) (by kernel_rfl) ?_
  intro args st k he
  unfold c_laws_markTermS at he
  split at he
  rotate_left
  · exact he.elim
  rename_i k_ a
  have he : Ok (laws_markTermS k_ a) (fun r => k (.c (.int .i64 r.1)) [(0, .sl 0 (.pair (.int .i64) (.int .i64)) r.2 (.deep false .no))]) := he
  refine ⟨rfl, rfl, ?_⟩
  refine loop_model mixed tys_ok t_laws_markTermS (S := Int × Int × (List (Int × Int))) (I := (fun (k_1, i, a1) => (envOf [(0, .c (.own 0)), (1, .c (.int .i64 k_1)), (5, .c (.int .i64 i))], [(0, .sl 0 (.pair (.int .i64) (.int .i64)) a1 (.deep false .no))]))) (f := laws_markTermS_l1) (K := (fun r => k (.c (.int .i64 r.1)) [(0, .sl 0 (.pair (.int .i64) (.int .i64)) r.2 (.deep false .no))])) he (leads_ren [] (l := [(0, .c (.own 0)), (1, .c (.int .i64 k_)), (5, .c (.int .i64 (0:Int)))]) (st' := [(0, .sl 0 (.pair (.int .i64) (.int .i64)) a (.deep false .no))]) rfl rfl ⟨⟨rfl, rfl⟩, trivial⟩ ⟨⟨rfl, rfl⟩, rfl, rfl, trivial⟩) ?_
  rintro ⟨k_1, i, a1⟩ J1 he
  refine And.intro (fun hb => ?_) (fun hb => ?_)
  · have he := ok_t he hb
    have he := ok_rq he
    refine And.intro he.1 ?_
    have he := he.2
    have he := ok_rq he
    refine And.intro he.1 ?_
    have he := he.2
    have he := ok_rq he
    refine And.intro he.1 ?_
    have he := he.2
    have he := ok_rq he
    refine And.intro he.1 ?_
    have he := he.2
    have he := ok_rq he
    refine And.intro he.1 ?_
    have he := he.2
    have he := ok_some he
    exact ⟨(((k_1 + (1:Int)) + (1:Int)), (i + (1:Int)), ((a1.set i.toNat (k_1, (a1.getD i.toNat (0, 0)).2)).set i.toNat (((a1.set i.toNat (k_1, (a1.getD i.toNat (0, 0)).2)).getD i.toNat (0, 0)).1, (k_1 + (1:Int))))), he, (leads_ren [] (l := [(0, .c (.own 0)), (1, .c (.int .i64 ((k_1 + (1:Int)) + (1:Int)))), (5, .c (.int .i64 (i + (1:Int))))]) (st' := [(0, .sl 0 (.pair (.int .i64) (.int .i64)) ((a1.set i.toNat (k_1, (a1.getD i.toNat (0, 0)).2)).set i.toNat (((a1.set i.toNat (k_1, (a1.getD i.toNat (0, 0)).2)).getD i.toNat (0, 0)).1, (k_1 + (1:Int)))) (.deep false .no))]) rfl rfl ⟨⟨rfl, rfl⟩, trivial⟩ ⟨⟨rfl, rfl⟩, rfl, rfl, trivial⟩)⟩
  · have he := ok_f he hb
    have he := ok_some he
    exact ⟨rfl, _, _, (leads_ren [] (l := [(4, .c (.int .i64 k_1))]) (st' := [(0, .sl 0 (.pair (.int .i64) (.int .i64)) a1 (.deep false .no))]) rfl rfl ⟨⟨rfl, rfl⟩, trivial⟩ ⟨rfl, trivial⟩), he⟩

noncomputable def c_laws_markConstraintS : Con := fun args st => match args, st with
  | [.c (.own 0), .c (.int .i64 k_)], [(0, .sl 81 (.pair (.sl (.pair (.int .i64) (.int .i64))) (.int .i64)) a (.deep true .no))] => .opt (Int × (List ((List (Int × Int)) × Int))) (laws_markConstraintS k_ a) (fun r => .ret (.c (.int .i64 r.1)) [(0, .sl 81 (.pair (.sl (.pair (.int .i64) (.int .i64))) (.int .i64)) r.2 (.deep true .no))])
  | _, _ => .fail

noncomputable def C_laws_markConstraintS : Cfg := { y := tys, n := 27, h := 1, tab := [(91, c_laws_markTermS)], cut := [], hand := [(91, [0])], good := [], deep := [], sched := [] }

theorem t_laws_markConstraintS : TabOk Try.prog C_laws_markConstraintS := by
  refine tabOk_of ?_
  simp only [C_laws_markConstraintS, List.forall_mem_cons]
  exact ⟨k_laws_markTermS, fun p h => by cases h⟩

theorem k_laws_markConstraintS : Entry Try.prog 46 c_laws_markConstraintS := by
  refine entry_by (C := C_laws_markConstraintS) mixed tys_ok t_laws_markConstraintS (fn := Try.f46) (c := bd Try.f46) (by kernel_rfl) (by kernel_rfl) (by kernel_rfl) (by kernel_rfl) ?_
  intro args st k he
  unfold c_laws_markConstraintS at he
  split at he
  rotate_left
  · exact he.elim
  rename_i k_ a
  have he : Ok (laws_markConstraintS k_ a) (fun r => k (.c (.int .i64 r.1)) [(0, .sl 81 (.pair (.sl (.pair (.int .i64) (.int .i64))) (.int .i64)) r.2 (.deep true .no))]) := he
  refine ⟨rfl, rfl, ?_⟩
  refine loop_model mixed tys_ok t_laws_markConstraintS (S := Int × Int × (List ((List (Int × Int)) × Int))) (I := (fun (k_1, i, a1) => (envOf [(0, .c (.own 0)), (1, .c (.int .i64 k_1)), (5, .c (.int .i64 i))], [(0, .sl 81 (.pair (.sl (.pair (.int .i64) (.int .i64))) (.int .i64)) a1 (.deep true .no))]))) (f := laws_markConstraintS_l1) (K := (fun r => k (.c (.int .i64 r.1)) [(0, .sl 81 (.pair (.sl (.pair (.int .i64) (.int .i64))) (.int .i64)) r.2 (.deep true .no))])) he (leads_ren [] (l := [(0, .c (.own 0)), (1, .c (.int .i64 k_)), (5, .c (.int .i64 (0:Int)))]) (st' := [(0, .sl 81 (.pair (.sl (.pair (.int .i64) (.int .i64))) (.int .i64)) a (.deep true .no))]) rfl rfl ⟨⟨rfl, rfl⟩, trivial⟩ ⟨⟨rfl, rfl⟩, rfl, rfl, trivial⟩) ?_
  rintro ⟨k_1, i, a1⟩ J1 he
  refine And.intro (fun hb => ?_) (fun hb => ?_)
  · have he := ok_t he hb
    have he := ok_rq he
    refine And.intro he.1 ?_
    have he := he.2
    obtain ⟨r2_, hr, he⟩ := ok_bind he
    refine ⟨r2_, hr, ?_⟩
    have he := ok_rq he
    refine And.intro he.1 ?_
    have he := he.2
    have he := ok_rq he
    refine And.intro he.1 ?_
    have he := he.2
    have he := ok_rq he
    refine And.intro he.1 ?_
    have he := he.2
    have he := ok_some he
    exact ⟨((r2_.1 + (1:Int)), (i + (1:Int)), ((a1.set i.toNat ((a1.getD i.toNat ([], 0)).1, r2_.1)).set i.toNat (r2_.2, ((a1.set i.toNat ((a1.getD i.toNat ([], 0)).1, r2_.1)).getD i.toNat ([], 0)).2))), he, ((leads_close [0] rfl).trans (leads_ren [] (l := [(0, .c (.own 0)), (1, .c (.int .i64 (r2_.1 + (1:Int)))), (5, .c (.int .i64 (i + (1:Int))))]) (st' := [(0, .sl 81 (.pair (.sl (.pair (.int .i64) (.int .i64))) (.int .i64)) ((a1.set i.toNat ((a1.getD i.toNat ([], 0)).1, r2_.1)).set i.toNat (r2_.2, ((a1.set i.toNat ((a1.getD i.toNat ([], 0)).1, r2_.1)).getD i.toNat ([], 0)).2)) (.deep true .no))]) rfl rfl ⟨⟨rfl, rfl⟩, trivial⟩ ⟨⟨rfl, rfl⟩, rfl, rfl, trivial⟩))⟩
  · have he := ok_f he hb
    have he := ok_some he
    exact ⟨rfl, _, _, (leads_ren [] (l := [(4, .c (.int .i64 k_1))]) (st' := [(0, .sl 81 (.pair (.sl (.pair (.int .i64) (.int .i64))) (.int .i64)) a1 (.deep true .no))]) rfl rfl ⟨⟨rfl, rfl⟩, trivial⟩ ⟨rfl, trivial⟩), he⟩

noncomputable def c_laws_markIntS : Con := fun args st => match args, st with
  | [.c (.own 0), .c (.int .i64 k_)], [(0, .sl 3 (.int .i64) a .shallow)] => .opt (Int × (List Int)) (laws_markIntS k_ a) (fun r => .ret (.c (.int .i64 r.1)) [(0, .sl 3 (.int .i64) r.2 .shallow)])
  | _, _ => .fail

noncomputable def C_laws_markIntS : Cfg := { y := tys, n := 19, h := 1, tab := [], cut := [], hand := [], good := [], deep := [], sched := [] }

theorem t_laws_markIntS : TabOk Try.prog C_laws_markIntS := tabOk_of (fun p h => by cases h)

theorem k_laws_markIntS : Entry Try.prog 24 c_laws_markIntS := by
  refine entry_by (C := C_laws_markIntS) mixed tys_ok t_laws_markIntS (fn := Try.f24) (c := bd Try.f24) (by kernel_rfl) (by kernel_rfl) (by kernel_rfl) (by kernel_rfl) ?_
  intro args st k he
  unfold c_laws_markIntS at he
  split at he
  rotate_left
  · exact he.elim
  rename_i k_ a
  have he : Ok (laws_markIntS k_ a) (fun r => k (.c (.int .i64 r.1)) [(0, .sl 3 (.int .i64) r.2 .shallow)]) := he
  refine ⟨rfl, rfl, ?_⟩
  refine loop_model mixed tys_ok t_laws_markIntS (S := Int × Int × (List Int)) (I := (fun (k_1, i, a1) => (envOf [(0, .c (.own 0)), (1, .c (.int .i64 k_1)), (5, .c (.int .i64 i))], [(0, .sl 3 (.int .i64) a1 .shallow)]))) (f := laws_markIntS_l1) (K := (fun r => k (.c (.int .i64 r.1)) [(0, .sl 3 (.int .i64) r.2 .shallow)])) he (leads_ren [] (l := [(0, .c (.own 0)), (1, .c (.int .i64 k_)), (5, .c (.int .i64 (0:Int)))]) (st' := [(0, .sl 3 (.int .i64) a .shallow)]) rfl rfl ⟨⟨rfl, rfl⟩, trivial⟩ ⟨⟨rfl, rfl⟩, rfl, rfl, trivial⟩) ?_
  rintro ⟨k_1, i, a1⟩ J1 he
  refine And.intro (fun hb => ?_) (fun hb => ?_)
  · have he := ok_t he hb
    have he := ok_rq he
    refine And.intro he.1 ?_
    have he := he.2
    have he := ok_rq he
    refine And.intro he.1 ?_
    have he := he.2
    have he := ok_rq he
    refine And.intro he.1 ?_
    have he := he.2
    have he := ok_some he
    exact ⟨((k_1 + (1:Int)), (i + (1:Int)), (a1.set i.toNat k_1)), he, (leads_ren [] (l := [(0, .c (.own 0)), (1, .c (.int .i64 (k_1 + (1:Int)))), (5, .c (.int .i64 (i + (1:Int))))]) (st' := [(0, .sl 3 (.int .i64) (a1.set i.toNat k_1) .shallow)]) rfl rfl ⟨⟨rfl, rfl⟩, trivial⟩ ⟨⟨rfl, rfl⟩, rfl, rfl, trivial⟩)⟩
  · have he := ok_f he hb
    have he := ok_some he
    exact ⟨rfl, _, _, (leads_ren [] (l := [(4, .c (.int .i64 k_1))]) (st' := [(0, .sl 3 (.int .i64) a1 .shallow)]) rfl rfl ⟨⟨rfl, rfl⟩, trivial⟩ ⟨rfl, trivial⟩), he⟩

noncomputable def c_laws_heldTermS : Con := fun args st => match args, st with
  | [.c (.imm (.pair (.int .i64) (.int .i64)) a), .c (.int .i64 k_)], [] => .opt (Int) (laws_heldTermS a k_) (fun r => .ret (.c (.int .i64 r)) [])
  | _, _ => .fail

noncomputable def C_laws_heldTermS : Cfg := { y := tys, n := 31, h := 0, tab := [], cut := [], hand := [], good := [], deep := [], sched := [] }

theorem t_laws_heldTermS : TabOk Try.prog C_laws_heldTermS := tabOk_of (fun p h => by cases h)

theorem k_laws_heldTermS : Entry Try.prog 92 c_laws_heldTermS := by
  refine entry_by (C := C_laws_heldTermS) mixed tys_ok t_laws_heldTermS (fn := Try.f92) (c := bd Try.f92) (by kernel_rfl) (by kernel_rfl) (by kernel_rfl) (by kernel_rfl) ?_
  intro args st k he
  unfold c_laws_heldTermS at he
  split at he
  rotate_left
  · exact he.elim
  rename_i a k_
  have he : Ok (laws_heldTermS a k_) (fun r => k (.c (.int .i64 r)) []) := he
  refine ⟨rfl, rfl, ?_⟩
  refine loop_model mixed tys_ok t_laws_heldTermS (S := Int × Int) (I := (fun (k_1, i) => (envOf [(0, .c (.imm (.pair (.int .i64) (.int .i64)) a)), (1, .c (.int .i64 k_1)), (5, .c (.int .i64 i))], []))) (f := laws_heldTermS_l1 a) (K := (fun r => k (.c (.int .i64 r)) [])) he (leads_ren [] (l := [(0, .c (.imm (.pair (.int .i64) (.int .i64)) a)), (1, .c (.int .i64 k_)), (5, .c (.int .i64 (0:Int)))]) (st' := []) rfl rfl trivial ⟨.inl rfl, rfl, rfl, trivial⟩) ?_
  rintro ⟨k_1, i⟩ J1 he
  refine And.intro (fun hb => ?_) (fun hb => ?_)
  · have he := ok_t he hb
    have he := ok_rq he
    refine And.intro he.1 ?_
    have he := he.2
    refine And.intro (fun hb => ?_) (fun hb => ?_)
    · have he := ok_t he hb
      have he := ok_some he
      exact ⟨rfl, _, _, Leads.refl _ _, he⟩
    · have he := ok_f he hb
      have he := ok_rq he
      refine And.intro he.1 ?_
      have he := he.2
      have he := ok_rq he
      refine And.intro he.1 ?_
      have he := he.2
      refine And.intro (fun hb => ?_) (fun hb => ?_)
      · have he := ok_t he hb
        have he := ok_some he
        exact ⟨rfl, _, _, Leads.refl _ _, he⟩
      · have he := ok_f he hb
        have he := ok_rq he
        refine And.intro he.1 ?_
        have he := he.2
        have he := ok_rq he
        refine And.intro he.1 ?_
        have he := he.2
        have he := ok_some he
        exact ⟨(((k_1 + (1:Int)) + (1:Int)), (i + (1:Int))), he, (leads_ren [] (l := [(0, .c (.imm (.pair (.int .i64) (.int .i64)) a)), (1, .c (.int .i64 ((k_1 + (1:Int)) + (1:Int)))), (5, .c (.int .i64 (i + (1:Int))))]) (st' := []) rfl rfl trivial ⟨.inl rfl, rfl, rfl, trivial⟩)⟩
  · have he := ok_f he hb
    have he := ok_some he
    exact ⟨rfl, _, _, Leads.refl _ _, he⟩

end Go.AE.Y
