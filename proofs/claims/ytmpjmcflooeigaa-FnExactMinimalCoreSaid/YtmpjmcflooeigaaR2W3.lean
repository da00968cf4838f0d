/-
  Walks: each function keeps the contract that its model gives. No conditions.
-/
import Derived.Test.YtmpjmcflooeigaaR2Tab
import Derived.Test.YtmpjmcflooeigaaR2W2
namespace Go.AE.Y
open Go Go.AE Go.Proofs
set_option linter.unusedVariables false
set_option maxHeartbeats 2000000
set_option maxRecDepth 100000

noncomputable def c_impl_indices : Con := fun args st => match args, st with
  | [.c (.int .i64 count)], [] => .opt ((List Int)) (impl_indices count) (fun r => .ret (.c (.own 900 false)) [(900, .sl 3 (.int .i64) r .shallow)])
  | _, _ => .fail

noncomputable def C_impl_indices : Cfg := { y := tys, n := 15, h := 0, tab := [], cut := [], hand := [], good := [], deep := [], sched := [] }

theorem t_impl_indices : TabOk Try.prog C_impl_indices := tabOk_of (fun p h => by cases h)

theorem k_impl_indices : Entry Try.prog 96 c_impl_indices := by
  refine entry_by (C := C_impl_indices) mixed tys_ok t_impl_indices (fn := Try.f96) (c := bd Try.f96) (by kernel_rfl) (by kernel_rfl) (by kernel_rfl) (by kernel_rfl) ?_
  intro args st k he
  unfold c_impl_indices at he
  split at he
  rotate_left
  · exact he.elim
  rename_i count
  have he : Ok (impl_indices count) (fun r => k (.c (.own 900 false)) [(900, .sl 3 (.int .i64) r .shallow)]) := he
  refine ⟨rfl, rfl, ?_⟩
  refine loop_model mixed tys_ok t_impl_indices (S := Int × (List Int)) (I := (fun (i, out) => (envOf [(3, .c (.own 10000000 false)), (5, .c (.int .i64 count)), (6, .c (.int .i64 i))], [(10000000, .sl 3 (.int .i64) out .shallow)]))) (f := impl_indices_l1 count) (K := (fun r => k (.c (.own 900 false)) [(900, .sl 3 (.int .i64) r .shallow)])) he (leads_ren [] (l := [(3, .c (.own 10000000 false)), (5, .c (.int .i64 count)), (6, .c (.int .i64 (0:Int)))]) (st' := [(10000000, .sl 3 (.int .i64) ([] : List Int) .shallow)]) rfl rfl ⟨trivial, trivial⟩ ⟨⟨rfl, trivial⟩, rfl, rfl, trivial⟩) ?_
  rintro ⟨i, out⟩ J1 he
  refine And.intro (fun hb => ?_) (fun hb => ?_)
  · have he := ok_t he hb
    have he := ok_rq he
    refine And.intro he.1 ?_
    have he := he.2
    have he := ok_rq he
    refine And.intro he.1 ?_
    have he := he.2
    have he := ok_some he
    exact ⟨((i + (1:Int)), (out ++ [i])), he, (leads_ren [(10000000, 12)] (l := [(3, .c (.own 10000000 false)), (5, .c (.int .i64 count)), (6, .c (.int .i64 (i + (1:Int))))]) (st' := [(10000000, .sl 3 (.int .i64) (out ++ [i]) .shallow)]) rfl rfl ⟨⟨rfl, rfl⟩, trivial⟩ ⟨⟨⟨rfl, rfl⟩, trivial⟩, rfl, rfl, trivial⟩)⟩
  · have he := ok_f he hb
    have he := ok_some he
    exact ⟨rfl, _, _, (leads_ren [(900, 10000000)] (l := [(2, .c (.own 900 false))]) (st' := [(900, .sl 3 (.int .i64) out .shallow)]) rfl rfl ⟨⟨rfl, rfl⟩, trivial⟩ ⟨⟨⟨rfl, rfl⟩, trivial⟩, trivial⟩), he⟩

noncomputable def c_slices_Clone_int : Con := fun args st => match args, st with
  | [.c (.imm (.int .i64) s_)], [] => .opt ((List Int)) (slices_Clone_int s_) (fun r => .ret (.c (.own 900 false)) [(900, .sl 3 (.int .i64) r .shallow)])
  | _, _ => .fail

noncomputable def C_slices_Clone_int : Cfg := { y := tys, n := 8, h := 0, tab := [], cut := [], hand := [], good := [], deep := [], sched := [] }

theorem t_slices_Clone_int : TabOk Try.prog C_slices_Clone_int := tabOk_of (fun p h => by cases h)

theorem k_slices_Clone_int : Entry Try.prog 109 c_slices_Clone_int := by
  refine entry_by (C := C_slices_Clone_int) mixed tys_ok t_slices_Clone_int (fn := Try.f109) (c := bd Try.f109) (by kernel_rfl) (by kernel_rfl) (by kernel_rfl) (by kernel_rfl) ?_
  intro args st k he
  unfold c_slices_Clone_int at he
  split at he
  rotate_left
  · exact he.elim
  rename_i s_
  have he : Ok (slices_Clone_int s_) (fun r => k (.c (.own 900 false)) [(900, .sl 3 (.int .i64) r .shallow)]) := he
  refine ⟨rfl, rfl, ?_⟩
  refine fun b1_ hb1_ => ?_
  have he := ok_nt he hb1_
  refine And.intro (fun hb => ?_) (fun hb => ?_)
  · have he := ok_t he hb
    have he := ok_some he
    exact ⟨rfl, _, _, (leads_ren [] (l := [(2, .c (.own 900 false))]) (st' := [(900, .sl 3 (.int .i64) ([] : List Int) .shallow)]) rfl rfl ⟨trivial, trivial⟩ ⟨⟨rfl, trivial⟩, trivial⟩), he⟩
  · have he := ok_f he hb
    have he := ok_rq he
    refine And.intro he.1 ?_
    have he := he.2
    have he := ok_some he
    exact ⟨rfl, _, _, (leads_ren [(900, 7)] (l := [(2, .c (.own 900 false))]) (st' := [(900, .sl 3 (.int .i64) (([] : List Int) ++ s_) .shallow)]) rfl rfl ⟨⟨rfl, rfl⟩, trivial⟩ ⟨⟨⟨rfl, rfl⟩, trivial⟩, trivial⟩), he⟩

noncomputable def c_impl_without_1 : Con := fun args st => match args, st with
  | [.c (.int .i64 n), .c (.ptr 0 0)], [(0, .rc [.int .i64 o0])] => .opt (Bool) (impl_without_1 n o0) (fun r => .ret (.c (.bool r)) [(0, .rc [.int .i64 o0])])
  | _, _ => .fail

noncomputable def C_impl_without_1 : Cfg := { y := tys, n := 7, h := 1, tab := [], cut := [], hand := [], good := [], deep := [], sched := [] }

theorem t_impl_without_1 : TabOk Try.prog C_impl_without_1 := tabOk_of (fun p h => by cases h)

theorem k_impl_without_1 : Entry Try.prog 147 c_impl_without_1 := by
  refine entry_by (C := C_impl_without_1) mixed tys_ok t_impl_without_1 (fn := Try.f147) (c := bd Try.f147) (by kernel_rfl) (by kernel_rfl) (by kernel_rfl) (by kernel_rfl) ?_
  intro args st k he
  unfold c_impl_without_1 at he
  split at he
  rotate_left
  · exact he.elim
  rename_i n o0
  have he : Ok (impl_without_1 n o0) (fun r => k (.c (.bool r)) [(0, .rc [.int .i64 o0])]) := he
  refine ⟨rfl, rfl, ?_⟩
  have he := ok_some he
  exact ⟨rfl, _, _, (leads_ren [] (l := [(3, .c (.bool (n == o0)))]) (st' := [(0, .rc [.int .i64 o0])]) rfl rfl ⟨⟨rfl, trivial⟩, trivial⟩ ⟨.inl rfl, trivial⟩), he⟩

noncomputable def c_slices_IndexFunc_int__impl_without_1 : Con := fun args st => match args, st with
  | [.c (.imm (.int .i64) s_), .c (.fn 147 [0])], [(0, .rc [.int .i64 o0])] => .opt (Int) (slices_IndexFunc_int__impl_without_1 s_ o0) (fun r => .ret (.c (.int .i64 r)) [(0, .rc [.int .i64 o0])])
  | _, _ => .fail

noncomputable def C_slices_IndexFunc_int__impl_without_1 : Cfg := { y := tys, n := 19, h := 1, tab := [(147, c_impl_without_1)], cut := [], hand := [], good := [], deep := [], sched := [] }

theorem t_slices_IndexFunc_int__impl_without_1 : TabOk Try.prog C_slices_IndexFunc_int__impl_without_1 := by
  refine tabOk_of ?_
  simp only [C_slices_IndexFunc_int__impl_without_1, List.forall_mem_cons]
  exact ⟨k_impl_without_1, fun p h => by cases h⟩

theorem k_slices_IndexFunc_int__impl_without_1 : Entry Try.prog 145 c_slices_IndexFunc_int__impl_without_1 := by
  refine entry_by (C := C_slices_IndexFunc_int__impl_without_1) mixed tys_ok t_slices_IndexFunc_int__impl_without_1 (fn := Try.f145) (c := bd Try.f145) (by kernel_rfl) (by kernel_rfl) (by kernel_rfl) (by kernel_rfl) ?_
  intro args st k he
  unfold c_slices_IndexFunc_int__impl_without_1 at he
  split at he
  rotate_left
  · exact he.elim
  rename_i s_ o0
  have he : Ok (slices_IndexFunc_int__impl_without_1 s_ o0) (fun r => k (.c (.int .i64 r)) [(0, .rc [.int .i64 o0])]) := he
  refine ⟨rfl, rfl, ?_⟩
  refine loop_model mixed tys_ok t_slices_IndexFunc_int__impl_without_1 (S := Int) (I := (fun i => (envOf [(0, .c (.imm (.int .i64) s_)), (1, .c (.fn 147 [0])), (7, .c (.int .i64 (s_.length:Int))), (8, .c (.int .i64 i))], [(0, .rc [.int .i64 o0])]))) (f := slices_IndexFunc_int__impl_without_1_l1 s_ o0) (K := (fun r => k (.c (.int .i64 r)) [(0, .rc [.int .i64 o0])])) he (leads_ren [] (l := [(0, .c (.imm (.int .i64) s_)), (1, .c (.fn 147 [0])), (7, .c (.int .i64 (s_.length:Int))), (8, .c (.int .i64 (0:Int)))]) (st' := [(0, .rc [.int .i64 o0])]) rfl rfl ⟨⟨rfl, trivial⟩, trivial⟩ ⟨.inl rfl, ⟨rfl, ⟨⟨rfl, rfl⟩, trivial⟩⟩, rfl, rfl, trivial⟩) ?_
  rintro i J1 he
  refine And.intro (fun hb => ?_) (fun hb => ?_)
  · have he := ok_t he hb
    have he := ok_rq he
    refine And.intro he.1 ?_
    have he := he.2
    obtain ⟨r1_, hr, he⟩ := ok_bind he
    refine ⟨r1_, hr, ?_⟩
    refine And.intro (fun hb => ?_) (fun hb => ?_)
    · have he := ok_t he hb
      have he := ok_some he
      exact ⟨rfl, _, _, (leads_ren [] (l := [(4, .c (.int .i64 i))]) (st' := [(0, .rc [.int .i64 o0])]) rfl rfl ⟨⟨rfl, trivial⟩, trivial⟩ ⟨rfl, trivial⟩), he⟩
    · have he := ok_f he hb
      have he := ok_rq he
      refine And.intro he.1 ?_
      have he := he.2
      have he := ok_some he
      exact ⟨(i + (1:Int)), he, (leads_ren [] (l := [(0, .c (.imm (.int .i64) s_)), (1, .c (.fn 147 [0])), (7, .c (.int .i64 (s_.length:Int))), (8, .c (.int .i64 (i + (1:Int))))]) (st' := [(0, .rc [.int .i64 o0])]) rfl rfl ⟨⟨rfl, trivial⟩, trivial⟩ ⟨.inl rfl, ⟨rfl, ⟨⟨rfl, rfl⟩, trivial⟩⟩, rfl, rfl, trivial⟩)⟩
  · have he := ok_f he hb
    have he := ok_some he
    exact ⟨rfl, _, _, (leads_ren [] (l := [(4, .c (.int .i64 (-1:Int)))]) (st' := [(0, .rc [.int .i64 o0])]) rfl rfl ⟨⟨rfl, trivial⟩, trivial⟩ ⟨rfl, trivial⟩), he⟩

noncomputable def c_slices_DeleteFunc_int__impl_without_1 : Con := fun args st => match args, st with
  | [.c (.own 1 false), .c (.fn 147 [0])], [(0, .rc [.int .i64 o0]), (1, .sl 3 (.int .i64) s_ .shallow)] => .opt ((List Int)) (slices_DeleteFunc_int__impl_without_1 o0 s_) (fun r => .ret (.c (.own 900 false)) [(0, .rc [.int .i64 o0]), (1, .dead), (900, .sl 3 (.int .i64) r .shallow)])
  | _, _ => .fail

noncomputable def C_slices_DeleteFunc_int__impl_without_1 : Cfg := { y := tys, n := 42, h := 2, tab := [(145, c_slices_IndexFunc_int__impl_without_1), (147, c_impl_without_1)], cut := [11], hand := [], good := [], deep := [], sched := [] }

theorem t_slices_DeleteFunc_int__impl_without_1 : TabOk Try.prog C_slices_DeleteFunc_int__impl_without_1 := by
  refine tabOk_of ?_
  simp only [C_slices_DeleteFunc_int__impl_without_1, List.forall_mem_cons]
  exact ⟨k_slices_IndexFunc_int__impl_without_1, k_impl_without_1, fun p h => by cases h⟩

theorem k_slices_DeleteFunc_int__impl_without_1 : Entry Try.prog 146 c_slices_DeleteFunc_int__impl_without_1 := by
  refine entry_by (C := C_slices_DeleteFunc_int__impl_without_1) mixed tys_ok t_slices_DeleteFunc_int__impl_without_1 (fn := Try.f146) (c := bd Try.f146) (by kernel_rfl) (by kernel_rfl) (by kernel_rfl) (by kernel_rfl) ?_
  intro args st k he
  unfold c_slices_DeleteFunc_int__impl_without_1 at he
  split at he
  rotate_left
  · exact he.elim
  rename_i o0 s_
  have he : Ok (slices_DeleteFunc_int__impl_without_1 o0 s_) (fun r => k (.c (.own 900 false)) [(0, .rc [.int .i64 o0]), (1, .dead), (900, .sl 3 (.int .i64) r .shallow)]) := he
  refine ⟨rfl, rfl, ?_⟩
  obtain ⟨r1_, hr, he⟩ := ok_bind he
  refine ⟨r1_, hr, ?_⟩
  refine And.intro (fun hb => ?_) (fun hb => ?_)
  · have he := ok_t he hb
    have he := ok_some he
    exact ⟨rfl, _, _, (leads_ren [(900, 1)] (l := [(4, .c (.own 900 false))]) (st' := [(0, .rc [.int .i64 o0]), (1, .dead), (900, .sl 3 (.int .i64) s_ .shallow)]) rfl rfl ⟨⟨rfl, trivial⟩, trivial, ⟨rfl, rfl⟩, trivial⟩ ⟨⟨⟨rfl, rfl⟩, trivial⟩, trivial⟩), he⟩
  · have he := ok_f he hb
    refine seq_model mixed tys_ok t_slices_DeleteFunc_int__impl_without_1 (S := Int × (List Int)) (I := (fun (i1, s_2) => (envOf [(0, .c (.own 1 false)), (5, .c (.int .i64 i1))], [(0, .rc [.int .i64 o0]), (1, .sl 3 (.int .i64) s_2 .shallow)]))) (B := fun s => Ok (slices_DeleteFunc_int__impl_without_1_j1 s) (fun r => k (.c (.own 900 false)) [(0, .rc [.int .i64 o0]), (1, .dead), (900, .sl 3 (.int .i64) r .shallow)])) ?_ ?_
    · rintro ⟨i1, s_2⟩ he
      have he := ok_rq he
      refine And.intro he.1 ?_
      have he := he.2
      have he := ok_rq he
      refine And.intro he.1 ?_
      have he := he.2
      have he := ok_some he
      exact ⟨rfl, _, _, (leads_ren [(900, 41)] (l := [(4, .c (.own 900 false))]) (st' := [(0, .rc [.int .i64 o0]), (1, .dead), (900, .sl 3 (.int .i64) ((s_2.take i1.toNat ++ List.replicate (s_2.length - i1.toNat) (0:Int)).take i1.toNat) .shallow)]) rfl rfl ⟨⟨rfl, trivial⟩, trivial, ⟨rfl, rfl⟩, trivial⟩ ⟨⟨⟨rfl, rfl⟩, trivial⟩, trivial⟩), he⟩
    · skip
      have he := ok_rq he
      refine And.intro he.1 ?_
      have he := he.2
      refine loop_model mixed tys_ok t_slices_DeleteFunc_int__impl_without_1 (S := Int × Int × (List Int)) (I := (fun (i, j, s_1) => (envOf [(0, .c (.own 1 false)), (1, .c (.fn 147 [0])), (5, .c (.int .i64 i)), (6, .c (.int .i64 j))], [(0, .rc [.int .i64 o0]), (1, .sl 3 (.int .i64) s_1 .shallow)]))) (f := slices_DeleteFunc_int__impl_without_1_l1 o0) (K := (fun r => k (.c (.own 900 false)) [(0, .rc [.int .i64 o0]), (1, .dead), (900, .sl 3 (.int .i64) r .shallow)])) he (leads_ren [] (l := [(0, .c (.own 1 false)), (1, .c (.fn 147 [0])), (5, .c (.int .i64 r1_)), (6, .c (.int .i64 (r1_ + (1:Int))))]) (st' := [(0, .rc [.int .i64 o0]), (1, .sl 3 (.int .i64) s_ .shallow)]) rfl rfl ⟨⟨rfl, trivial⟩, ⟨rfl, rfl⟩, trivial⟩ ⟨⟨⟨rfl, rfl⟩, trivial⟩, ⟨rfl, ⟨⟨rfl, rfl⟩, trivial⟩⟩, rfl, rfl, trivial⟩) ?_
      rintro ⟨i, j, s_1⟩ J1 he
      refine And.intro (fun hb => ?_) (fun hb => ?_)
      · have he := ok_t he hb
        have he := ok_rq he
        refine And.intro he.1 ?_
        have he := he.2
        obtain ⟨r3_, hr, he⟩ := ok_bind he
        refine ⟨r3_, hr, ?_⟩
        refine And.intro (fun hb => ?_) (fun hb => ?_)
        · have he := ok_t he hb
          have he := ok_rq he
          refine And.intro he.1 ?_
          have he := he.2
          have he := ok_rq he
          refine And.intro he.1 ?_
          have he := he.2
          have he := ok_rq he
          refine And.intro he.1 ?_
          have he := he.2
          have he := ok_some he
          exact ⟨((i + (1:Int)), (j + (1:Int)), (s_1.set i.toNat (s_1.getD j.toNat 0))), he, (leads_ren [] (l := [(0, .c (.own 1 false)), (1, .c (.fn 147 [0])), (5, .c (.int .i64 (i + (1:Int)))), (6, .c (.int .i64 (j + (1:Int))))]) (st' := [(0, .rc [.int .i64 o0]), (1, .sl 3 (.int .i64) (s_1.set i.toNat (s_1.getD j.toNat 0)) .shallow)]) rfl rfl ⟨⟨rfl, trivial⟩, ⟨rfl, rfl⟩, trivial⟩ ⟨⟨⟨rfl, rfl⟩, trivial⟩, ⟨rfl, ⟨⟨rfl, rfl⟩, trivial⟩⟩, rfl, rfl, trivial⟩)⟩
        · have he := ok_f he hb
          have he := ok_rq he
          refine And.intro he.1 ?_
          have he := he.2
          have he := ok_some he
          exact ⟨(i, (j + (1:Int)), s_1), he, (leads_ren [] (l := [(0, .c (.own 1 false)), (1, .c (.fn 147 [0])), (5, .c (.int .i64 i)), (6, .c (.int .i64 (j + (1:Int))))]) (st' := [(0, .rc [.int .i64 o0]), (1, .sl 3 (.int .i64) s_1 .shallow)]) rfl rfl ⟨⟨rfl, trivial⟩, ⟨rfl, rfl⟩, trivial⟩ ⟨⟨⟨rfl, rfl⟩, trivial⟩, ⟨rfl, ⟨⟨rfl, rfl⟩, trivial⟩⟩, rfl, rfl, trivial⟩)⟩
      · have he := ok_f he hb
        exact ⟨(i, s_1), ok_up he, (leads_ren [] (l := [(0, .c (.own 1 false)), (5, .c (.int .i64 i))]) (st' := [(0, .rc [.int .i64 o0]), (1, .sl 3 (.int .i64) s_1 .shallow)]) rfl rfl ⟨⟨rfl, trivial⟩, ⟨rfl, rfl⟩, trivial⟩ ⟨⟨⟨rfl, rfl⟩, trivial⟩, rfl, trivial⟩)⟩

noncomputable def c_impl_without : Con := fun args st => match args, st with
  | [.c (.imm (.int .i64) list_), .c (.int .i64 k_)], [] => .opt ((List Int)) (impl_without list_ k_) (fun r => .ret (.c (.own 900 false)) [(900, .sl 3 (.int .i64) r .shallow)])
  | _, _ => .fail

noncomputable def C_impl_without : Cfg := { y := tys, n := 9, h := 0, tab := [(109, c_slices_Clone_int), (146, c_slices_DeleteFunc_int__impl_without_1)], cut := [], hand := [(146, [0])], good := [], deep := [], sched := [] }

theorem t_impl_without : TabOk Try.prog C_impl_without := by
  refine tabOk_of ?_
  simp only [C_impl_without, List.forall_mem_cons]
  exact ⟨k_slices_Clone_int, k_slices_DeleteFunc_int__impl_without_1, fun p h => by cases h⟩

theorem k_impl_without : Entry Try.prog 99 c_impl_without := by
  refine entry_by (C := C_impl_without) mixed tys_ok t_impl_without (fn := Try.f99) (c := bd Try.f99) (by kernel_rfl) (by kernel_rfl) (by kernel_rfl) (by kernel_rfl) ?_
  intro args st k he
  unfold c_impl_without at he
  split at he
  rotate_left
  · exact he.elim
  rename_i list_ k_
  have he : Ok (impl_without list_ k_) (fun r => k (.c (.own 900 false)) [(900, .sl 3 (.int .i64) r .shallow)]) := he
  refine ⟨rfl, rfl, ?_⟩
  obtain ⟨r1_, hr, he⟩ := ok_bind he
  refine ⟨r1_, hr, ?_⟩
  obtain ⟨r2_, hr, he⟩ := ok_bind he
  refine ⟨r2_, hr, ?_⟩
  have he := ok_some he
  exact ⟨rfl, _, _, (leads_ren [(900, 9900)] (l := [(4, .c (.own 900 false))]) (st' := [(900, .sl 3 (.int .i64) r2_ .shallow)]) rfl rfl ⟨⟨rfl, rfl⟩, trivial⟩ ⟨⟨⟨rfl, rfl⟩, trivial⟩, trivial⟩), he⟩

noncomputable def c_impl_partOf__s : Con := fun args st => match args, st with
  | [.c (.imm (.pair (.sl (.pair (.int .i64) (.int .i64))) (.int .i64)) list_), .c (.own 0 false)], [(0, .sl 3 (.int .i64) keep .shallow)] => .opt ((List ((List (Int × Int)) × Int))) (impl_partOf__s list_ keep) (fun r => .ret (.c (.own 900 false)) [(0, .sl 3 (.int .i64) keep .shallow), (900, .sl 73 (.pair (.sl (.pair (.int .i64) (.int .i64))) (.int .i64)) r .shallow)])
  | _, _ => .fail

noncomputable def C_impl_partOf__s : Cfg := { y := tys, n := 23, h := 1, tab := [], cut := [], hand := [], good := [], deep := [], sched := [] }

theorem t_impl_partOf__s : TabOk Try.prog C_impl_partOf__s := tabOk_of (fun p h => by cases h)

theorem k_impl_partOf__s : Entry Try.prog 73 c_impl_partOf__s := by
  refine entry_by (C := C_impl_partOf__s) mixed tys_ok t_impl_partOf__s (fn := Try.f73) (c := bd Try.f73) (by kernel_rfl) (by kernel_rfl) (by kernel_rfl) (by kernel_rfl) ?_
  intro args st k he
  unfold c_impl_partOf__s at he
  split at he
  rotate_left
  · exact he.elim
  rename_i list_ keep
  have he : Ok (impl_partOf__s list_ keep) (fun r => k (.c (.own 900 false)) [(0, .sl 3 (.int .i64) keep .shallow), (900, .sl 73 (.pair (.sl (.pair (.int .i64) (.int .i64))) (.int .i64)) r .shallow)]) := he
  refine ⟨rfl, rfl, ?_⟩
  refine loop_model mixed tys_ok t_impl_partOf__s (S := Int × (List ((List (Int × Int)) × Int))) (I := (fun (i, out) => (envOf [(0, .c (.imm (.pair (.sl (.pair (.int .i64) (.int .i64))) (.int .i64)) list_)), (5, .c (.own 10000000 false)), (8, .c (.own 0 false)), (9, .c (.int .i64 (keep.length:Int))), (10, .c (.int .i64 i))], [(0, .sl 3 (.int .i64) keep .shallow), (10000000, .sl 73 (.pair (.sl (.pair (.int .i64) (.int .i64))) (.int .i64)) out .shallow)]))) (f := impl_partOf__s_l1 list_ keep) (K := (fun r => k (.c (.own 900 false)) [(0, .sl 3 (.int .i64) keep .shallow), (900, .sl 73 (.pair (.sl (.pair (.int .i64) (.int .i64))) (.int .i64)) r .shallow)])) he (leads_ren [] (l := [(0, .c (.imm (.pair (.sl (.pair (.int .i64) (.int .i64))) (.int .i64)) list_)), (5, .c (.own 10000000 false)), (8, .c (.own 0 false)), (9, .c (.int .i64 (keep.length:Int))), (10, .c (.int .i64 (0:Int)))]) (st' := [(0, .sl 3 (.int .i64) keep .shallow), (10000000, .sl 73 (.pair (.sl (.pair (.int .i64) (.int .i64))) (.int .i64)) ([] : List ((List (Int × Int)) × Int)) .shallow)]) rfl rfl ⟨⟨rfl, rfl⟩, trivial, trivial⟩ ⟨.inl rfl, ⟨rfl, trivial⟩, ⟨⟨rfl, rfl⟩, trivial⟩, rfl, rfl, trivial⟩) ?_
  rintro ⟨i, out⟩ J1 he
  refine And.intro (fun hb => ?_) (fun hb => ?_)
  · have he := ok_t he hb
    have he := ok_rq he
    refine And.intro he.1 ?_
    have he := he.2
    have he := ok_rq he
    refine And.intro he.1 ?_
    have he := he.2
    have he := ok_rq he
    refine And.intro he.1 ?_
    have he := he.2
    have he := ok_rq he
    refine And.intro he.1 ?_
    have he := he.2
    have he := ok_some he
    exact ⟨((i + (1:Int)), (out ++ [(list_.getD (keep.getD i.toNat 0).toNat ([], 0))])), he, (leads_ren [(10000000, 20)] (l := [(0, .c (.imm (.pair (.sl (.pair (.int .i64) (.int .i64))) (.int .i64)) list_)), (5, .c (.own 10000000 false)), (8, .c (.own 0 false)), (9, .c (.int .i64 (keep.length:Int))), (10, .c (.int .i64 (i + (1:Int))))]) (st' := [(0, .sl 3 (.int .i64) keep .shallow), (10000000, .sl 73 (.pair (.sl (.pair (.int .i64) (.int .i64))) (.int .i64)) (out ++ [(list_.getD (keep.getD i.toNat 0).toNat ([], 0))]) .shallow)]) rfl rfl ⟨⟨rfl, rfl⟩, ⟨rfl, rfl⟩, trivial⟩ ⟨.inl rfl, ⟨⟨rfl, rfl⟩, trivial⟩, ⟨⟨rfl, rfl⟩, trivial⟩, rfl, rfl, trivial⟩)⟩
  · have he := ok_f he hb
    have he := ok_some he
    exact ⟨rfl, _, _, (leads_ren [(900, 10000000)] (l := [(4, .c (.own 900 false))]) (st' := [(0, .sl 3 (.int .i64) keep .shallow), (900, .sl 73 (.pair (.sl (.pair (.int .i64) (.int .i64))) (.int .i64)) out .shallow)]) rfl rfl ⟨⟨rfl, rfl⟩, ⟨rfl, rfl⟩, trivial⟩ ⟨⟨⟨rfl, rfl⟩, trivial⟩, trivial⟩), he⟩

noncomputable def c_impl_MinimalCore : Con := fun args st => match args, st with
  | [.c (.imm (.pair (.sl (.pair (.int .i64) (.int .i64))) (.int .i64)) list_)], [] => .opt (Bool × (List Int)) (impl_MinimalCore list_) (fun r => .ret (.tup [.c (.own 900 false), .c (.bool r.1)]) [(900, .sl 3 (.int .i64) r.2 .shallow)])
  | _, _ => .fail

noncomputable def C_impl_MinimalCore : Cfg := { y := tys, n := 34, h := 0, tab := [(61, c_impl_ProblemValid), (73, c_impl_partOf__s), (95, c_impl_solvable), (96, c_impl_indices), (99, c_impl_without)], cut := [], hand := [(73, [1])], good := [], deep := [], sched := [] }

theorem t_impl_MinimalCore : TabOk Try.prog C_impl_MinimalCore := by
  refine tabOk_of ?_
  simp only [C_impl_MinimalCore, List.forall_mem_cons]
  exact ⟨k_impl_ProblemValid, k_impl_partOf__s, k_impl_solvable, k_impl_indices, k_impl_without, fun p h => by cases h⟩

theorem k_impl_MinimalCore : Entry Try.prog 57 c_impl_MinimalCore := by
  refine entry_by (C := C_impl_MinimalCore) mixed tys_ok t_impl_MinimalCore (fn := Try.f57) (c := bd Try.f57) (by kernel_rfl) (by kernel_rfl) (by kernel_rfl) (by kernel_rfl) ?_
  intro args st k he
  unfold c_impl_MinimalCore at he
  split at he
  rotate_left
  · exact he.elim
  rename_i list_
  have he : Ok (impl_MinimalCore list_) (fun r => k (.tup [.c (.own 900 false), .c (.bool r.1)]) [(900, .sl 3 (.int .i64) r.2 .shallow)]) := he
  refine ⟨rfl, rfl, ?_⟩
  obtain ⟨r1_, hr, he⟩ := ok_bind he
  refine ⟨r1_, hr, ?_⟩
  refine And.intro (fun hb => ?_) (fun hb => ?_)
  · have he := ok_f he hb
    obtain ⟨r2_, hr, he⟩ := ok_bind he
    refine ⟨r2_, hr, ?_⟩
    refine And.intro (fun hb => ?_) (fun hb => ?_)
    · have he := ok_t he hb
      have he := ok_some he
      exact ⟨rfl, _, _, (leads_ren [] (l := [(2, .c (.own 900 false)), (3, .c (.bool false))]) (st' := [(900, .sl 3 (.int .i64) ([] : List Int) .shallow)]) rfl rfl ⟨trivial, trivial⟩ ⟨⟨rfl, trivial⟩, .inr rfl, trivial⟩), he⟩
    · have he := ok_f he hb
      obtain ⟨r3_, hr, he⟩ := ok_bind he
      refine ⟨r3_, hr, ?_⟩
      have he := ok_rq he
      refine And.intro he.1 ?_
      have he := he.2
      refine loop_model mixed tys_ok t_impl_MinimalCore (S := Int × (List Int)) (I := (fun (k_, out) => (envOf [(0, .c (.imm (.pair (.sl (.pair (.int .i64) (.int .i64))) (.int .i64)) list_)), (4, .c (.own 10000000 false)), (5, .c (.int .i64 k_))], [(10000000, .sl 3 (.int .i64) out .shallow)]))) (f := impl_MinimalCore_l1 list_) (K := (fun r => k (.tup [.c (.own 900 false), .c (.bool r.1)]) [(900, .sl 3 (.int .i64) r.2 .shallow)])) he (leads_ren [(10000000, 17900)] (l := [(0, .c (.imm (.pair (.sl (.pair (.int .i64) (.int .i64))) (.int .i64)) list_)), (4, .c (.own 10000000 false)), (5, .c (.int .i64 ((list_.length:Int) - (1:Int))))]) (st' := [(10000000, .sl 3 (.int .i64) r3_ .shallow)]) rfl rfl ⟨⟨rfl, rfl⟩, trivial⟩ ⟨.inl rfl, ⟨⟨rfl, rfl⟩, trivial⟩, rfl, trivial⟩) ?_
      rintro ⟨k_, out⟩ J1 he
      refine And.intro (fun hb => ?_) (fun hb => ?_)
      · have he := ok_t he hb
        obtain ⟨r7_, hr, he⟩ := ok_bind he
        refine ⟨r7_, hr, ?_⟩
        obtain ⟨r8_, hr, he⟩ := ok_bind he
        refine ⟨r8_, hr, ?_⟩
        obtain ⟨r9_, hr, he⟩ := ok_bind he
        refine ⟨r9_, hr, ?_⟩
        refine And.intro (fun hb => ?_) (fun hb => ?_)
        · have he := ok_t he hb
          have he := ok_rq he
          refine And.intro he.1 ?_
          have he := he.2
          have he := ok_some he
          exact ⟨((k_ - (1:Int)), r7_), he, (leads_ren [(10000000, 27900)] (l := [(0, .c (.imm (.pair (.sl (.pair (.int .i64) (.int .i64))) (.int .i64)) list_)), (4, .c (.own 10000000 false)), (5, .c (.int .i64 (k_ - (1:Int))))]) (st' := [(10000000, .sl 3 (.int .i64) r7_ .shallow)]) rfl rfl ⟨⟨rfl, rfl⟩, trivial⟩ ⟨.inl rfl, ⟨⟨rfl, rfl⟩, trivial⟩, rfl, trivial⟩)⟩
        · have he := ok_f he hb
          have he := ok_rq he
          refine And.intro he.1 ?_
          have he := he.2
          have he := ok_some he
          exact ⟨((k_ - (1:Int)), out), he, (leads_ren [] (l := [(0, .c (.imm (.pair (.sl (.pair (.int .i64) (.int .i64))) (.int .i64)) list_)), (4, .c (.own 10000000 false)), (5, .c (.int .i64 (k_ - (1:Int))))]) (st' := [(10000000, .sl 3 (.int .i64) out .shallow)]) rfl rfl ⟨⟨rfl, rfl⟩, trivial⟩ ⟨.inl rfl, ⟨⟨rfl, rfl⟩, trivial⟩, rfl, trivial⟩)⟩
      · have he := ok_f he hb
        have he := ok_some he
        exact ⟨rfl, _, _, (leads_ren [(900, 10000000)] (l := [(2, .c (.own 900 false)), (3, .c (.bool true))]) (st' := [(900, .sl 3 (.int .i64) out .shallow)]) rfl rfl ⟨⟨rfl, rfl⟩, trivial⟩ ⟨⟨⟨rfl, rfl⟩, trivial⟩, .inr rfl, trivial⟩), he⟩
  · have he := ok_t he hb
    have he := ok_some he
    exact ⟨rfl, _, _, (leads_ren [] (l := [(2, .c (.own 900 false)), (3, .c (.bool false))]) (st' := [(900, .sl 3 (.int .i64) ([] : List Int) .shallow)]) rfl rfl ⟨trivial, trivial⟩ ⟨⟨rfl, trivial⟩, .inr rfl, trivial⟩), he⟩

noncomputable def c_laws_eqIntS : Con := fun args st => match args, st with
  | [.c (.imm (.int .i64) a), .c (.imm (.int .i64) b)], [] => .opt (Bool) (laws_eqIntS a b) (fun r => .ret (.c (.bool r)) [])
  | _, _ => .fail

noncomputable def C_laws_eqIntS : Cfg := { y := tys, n := 26, h := 0, tab := [], cut := [], hand := [], good := [], deep := [], sched := [] }

theorem t_laws_eqIntS : TabOk Try.prog C_laws_eqIntS := tabOk_of (fun p h => by cases h)

theorem k_laws_eqIntS : Entry Try.prog 39 c_laws_eqIntS := by
  refine entry_by (C := C_laws_eqIntS) mixed tys_ok t_laws_eqIntS (fn := Try.f39) (c := bd Try.f39) (by kernel_rfl) (by kernel_rfl) (by kernel_rfl) (by kernel_rfl) ?_
  intro args st k he
  unfold c_laws_eqIntS at he
  split at he
  rotate_left
  · exact he.elim
  rename_i a b
  have he : Ok (laws_eqIntS a b) (fun r => k (.c (.bool r)) []) := he
  refine ⟨rfl, rfl, ?_⟩
  refine And.intro (fun hb => ?_) (fun hb => ?_)
  · have he := ok_t he hb
    have he := ok_some he
    exact ⟨rfl, _, _, Leads.refl _ _, he⟩
  · have he := ok_f he hb
    refine loop_model mixed tys_ok t_laws_eqIntS (S := Int) (I := (fun i => (envOf [(0, .c (.imm (.int .i64) a)), (1, .c (.imm (.int .i64) b)), (5, .c (.int .i64 i))], []))) (f := laws_eqIntS_l1 a b) (K := (fun r => k (.c (.bool r)) [])) he (leads_ren [] (l := [(0, .c (.imm (.int .i64) a)), (1, .c (.imm (.int .i64) b)), (5, .c (.int .i64 (0:Int)))]) (st' := []) rfl rfl trivial ⟨.inl rfl, .inl rfl, rfl, trivial⟩) ?_
    rintro i J1 he
    refine And.intro (fun hb => ?_) (fun hb => ?_)
    · have he := ok_t he hb
      refine And.intro (by kernel_rfl) ?_
      have he := ok_rq he
      refine And.intro he.1 ?_
      have he := he.2
      have he := ok_rq he
      refine And.intro he.1 ?_
      have he := he.2
      refine And.intro (fun hb => ?_) (fun hb => ?_)
      · have he := ok_t he hb
        have he := ok_some he
        exact ⟨rfl, _, _, Leads.refl _ _, he⟩
      · have he := ok_f he hb
        have he := ok_rq he
        refine And.intro he.1 ?_
        have he := he.2
        have he := ok_some he
        exact ⟨(i + (1:Int)), he, (leads_ren [] (l := [(0, .c (.imm (.int .i64) a)), (1, .c (.imm (.int .i64) b)), (5, .c (.int .i64 (i + (1:Int))))]) (st' := []) rfl rfl trivial ⟨.inl rfl, .inl rfl, rfl, trivial⟩)⟩
    · have he := ok_f he hb
      have he := ok_some he
      exact ⟨rfl, _, _, Leads.refl _ _, he⟩

noncomputable def c_laws_eqTerm : Con := fun args st => match args, st with
  | [.agg [.int .i64 a_0, .int .i64 a_1], .agg [.int .i64 b_0, .int .i64 b_1]], [] => .opt (Bool) (laws_eqTerm (a_0, a_1) (b_0, b_1)) (fun r => .ret (.c (.bool r)) [])
  | _, _ => .fail

noncomputable def C_laws_eqTerm : Cfg := { y := tys, n := 15, h := 0, tab := [], cut := [], hand := [], good := [], deep := [], sched := [] }

theorem t_laws_eqTerm : TabOk Try.prog C_laws_eqTerm := tabOk_of (fun p h => by cases h)

theorem k_laws_eqTerm : Entry Try.prog 163 c_laws_eqTerm := by
  refine entry_by (C := C_laws_eqTerm) mixed tys_ok t_laws_eqTerm (fn := Try.f163) (c := bd Try.f163) (by kernel_rfl) (by kernel_rfl) (by kernel_rfl) (by kernel_rfl) ?_
  intro args st k he
  unfold c_laws_eqTerm at he
  split at he
  rotate_left
  · exact he.elim
  rename_i a_0 a_1 b_0 b_1
  have he : Ok (laws_eqTerm (a_0, a_1) (b_0, b_1)) (fun r => k (.c (.bool r)) []) := he
  refine ⟨rfl, rfl, ?_⟩
  refine And.intro (fun hb => ?_) (fun hb => ?_)
  · have he := ok_t he hb
    have he := ok_some he
    exact ⟨rfl, _, _, (leads_ren [] (l := [(4, .c (.bool false))]) (st' := []) rfl rfl trivial ⟨.inr rfl, trivial⟩), he⟩
  · have he := ok_f he hb
    refine And.intro (fun hb => ?_) (fun hb => ?_)
    · have he := ok_t he hb
      have he := ok_some he
      exact ⟨rfl, _, _, (leads_ren [] (l := [(4, .c (.bool false))]) (st' := []) rfl rfl trivial ⟨.inr rfl, trivial⟩), he⟩
    · have he := ok_f he hb
      have he := ok_some he
      exact ⟨rfl, _, _, (leads_ren [] (l := [(4, .c (.bool true))]) (st' := []) rfl rfl trivial ⟨.inr rfl, trivial⟩), he⟩

noncomputable def c_laws_eqTermS : Con := fun args st => match args, st with
  | [.c (.imm (.pair (.int .i64) (.int .i64)) a), .c (.imm (.pair (.int .i64) (.int .i64)) b)], [] => .opt (Bool) (laws_eqTermS a b) (fun r => .ret (.c (.bool r)) [])
  | _, _ => .fail

noncomputable def C_laws_eqTermS : Cfg := { y := tys, n := 27, h := 0, tab := [(163, c_laws_eqTerm)], cut := [], hand := [], good := [], deep := [], sched := [(6, (.first 0 (.first 1 (.first 2 (.first 3 (.first 4 (.first 5 (.first 6 (.first 7 (.alt 8 (.first 9 .done) .stop))))))))))] }

theorem t_laws_eqTermS : TabOk Try.prog C_laws_eqTermS := by
  refine tabOk_of ?_
  simp only [C_laws_eqTermS, List.forall_mem_cons]
  exact ⟨k_laws_eqTerm, fun p h => by cases h⟩

theorem k_laws_eqTermS : Entry Try.prog 135 c_laws_eqTermS := by
  refine entry_by (C := C_laws_eqTermS) mixed tys_ok t_laws_eqTermS (fn := Try.f135) (c := bd Try.f135) (by kernel_rfl) (by kernel_rfl) (by kernel_rfl) (by kernel_rfl) ?_
  intro args st k he
  unfold c_laws_eqTermS at he
  split at he
  rotate_left
  · exact he.elim
  rename_i a b
  have he : Ok (laws_eqTermS a b) (fun r => k (.c (.bool r)) []) := he
  refine ⟨rfl, rfl, ?_⟩
  refine And.intro (fun hb => ?_) (fun hb => ?_)
  · have he := ok_t he hb
    have he := ok_some he
    exact ⟨rfl, _, _, Leads.refl _ _, he⟩
  · have he := ok_f he hb
    refine loop_model mixed tys_ok t_laws_eqTermS (S := Int) (I := (fun i => (envOf [(0, .c (.imm (.pair (.int .i64) (.int .i64)) a)), (1, .c (.imm (.pair (.int .i64) (.int .i64)) b)), (5, .c (.int .i64 i))], []))) (f := laws_eqTermS_l1 a b) (K := (fun r => k (.c (.bool r)) [])) he (leads_ren [] (l := [(0, .c (.imm (.pair (.int .i64) (.int .i64)) a)), (1, .c (.imm (.pair (.int .i64) (.int .i64)) b)), (5, .c (.int .i64 (0:Int)))]) (st' := []) rfl rfl trivial ⟨.inl rfl, .inl rfl, rfl, trivial⟩) ?_
    rintro i J1 he
    refine And.intro (fun hb => ?_) (fun hb => ?_)
    · have he := ok_t he hb
      refine And.intro (by kernel_rfl) ?_
      have he := ok_rq he
      refine And.intro he.1 ?_
      have he := he.2
      have he := ok_rq he
      refine And.intro he.1 ?_
      have he := he.2
      refine And.intro ?_ trivial
      obtain ⟨r2_, hr, he⟩ := ok_bind he
      refine ⟨r2_, hr, ?_⟩
      refine And.intro (fun hb => ?_) (fun hb => ?_)
      · have he := ok_t he hb
        have he := ok_some he
        exact ⟨rfl, _, _, Leads.refl _ _, he⟩
      · have he := ok_f he hb
        have he := ok_rq he
        refine And.intro he.1 ?_
        have he := he.2
        have he := ok_some he
        exact ⟨(i + (1:Int)), he, (leads_ren [] (l := [(0, .c (.imm (.pair (.int .i64) (.int .i64)) a)), (1, .c (.imm (.pair (.int .i64) (.int .i64)) b)), (5, .c (.int .i64 (i + (1:Int))))]) (st' := []) rfl rfl trivial ⟨.inl rfl, .inl rfl, rfl, trivial⟩)⟩
    · have he := ok_f he hb
      have he := ok_some he
      exact ⟨rfl, _, _, Leads.refl _ _, he⟩

noncomputable def c_laws_eqConstraint : Con := fun args st => match args, st with
  | [.agg [.imm (.pair (.int .i64) (.int .i64)) a_0, .int .i64 a_1], .agg [.imm (.pair (.int .i64) (.int .i64)) b_0, .int .i64 b_1]], [] => .opt (Bool) (laws_eqConstraint (a_0, a_1) (b_0, b_1)) (fun r => .ret (.c (.bool r)) [])
  | _, _ => .fail

noncomputable def C_laws_eqConstraint : Cfg := { y := tys, n := 16, h := 0, tab := [(135, c_laws_eqTermS)], cut := [], hand := [], good := [], deep := [], sched := [] }

theorem t_laws_eqConstraint : TabOk Try.prog C_laws_eqConstraint := by
  refine tabOk_of ?_
  simp only [C_laws_eqConstraint, List.forall_mem_cons]
  exact ⟨k_laws_eqTermS, fun p h => by cases h⟩

theorem k_laws_eqConstraint : Entry Try.prog 81 c_laws_eqConstraint := by
  refine entry_by (C := C_laws_eqConstraint) mixed tys_ok t_laws_eqConstraint (fn := Try.f81) (c := bd Try.f81) (by kernel_rfl) (by kernel_rfl) (by kernel_rfl) (by kernel_rfl) ?_
  intro args st k he
  unfold c_laws_eqConstraint at he
  split at he
  rotate_left
  · exact he.elim
  rename_i a_0 a_1 b_0 b_1
  have he : Ok (laws_eqConstraint (a_0, a_1) (b_0, b_1)) (fun r => k (.c (.bool r)) []) := he
  refine ⟨rfl, rfl, ?_⟩
  obtain ⟨r1_, hr, he⟩ := ok_bind he
  refine ⟨r1_, hr, ?_⟩
  refine And.intro (fun hb => ?_) (fun hb => ?_)
  · have he := ok_t he hb
    have he := ok_some he
    exact ⟨rfl, _, _, (leads_ren [] (l := [(4, .c (.bool false))]) (st' := []) rfl rfl trivial ⟨.inr rfl, trivial⟩), he⟩
  · have he := ok_f he hb
    refine And.intro (fun hb => ?_) (fun hb => ?_)
    · have he := ok_t he hb
      have he := ok_some he
      exact ⟨rfl, _, _, (leads_ren [] (l := [(4, .c (.bool false))]) (st' := []) rfl rfl trivial ⟨.inr rfl, trivial⟩), he⟩
    · have he := ok_f he hb
      have he := ok_some he
      exact ⟨rfl, _, _, (leads_ren [] (l := [(4, .c (.bool true))]) (st' := []) rfl rfl trivial ⟨.inr rfl, trivial⟩), he⟩

noncomputable def c_laws_eqConstraintS : Con := fun args st => match args, st with
  | [.c (.imm (.pair (.sl (.pair (.int .i64) (.int .i64))) (.int .i64)) a), .c (.imm (.pair (.sl (.pair (.int .i64) (.int .i64))) (.int .i64)) b)], [] => .opt (Bool) (laws_eqConstraintS a b) (fun r => .ret (.c (.bool r)) [])
  | _, _ => .fail

noncomputable def C_laws_eqConstraintS : Cfg := { y := tys, n := 27, h := 0, tab := [(81, c_laws_eqConstraint)], cut := [], hand := [], good := [], deep := [], sched := [(6, (.first 0 (.first 1 (.first 2 (.first 3 (.first 4 (.first 5 (.first 6 (.first 7 (.alt 8 (.first 9 .done) .stop))))))))))] }

theorem t_laws_eqConstraintS : TabOk Try.prog C_laws_eqConstraintS := by
  refine tabOk_of ?_
  simp only [C_laws_eqConstraintS, List.forall_mem_cons]
  exact ⟨k_laws_eqConstraint, fun p h => by cases h⟩

theorem k_laws_eqConstraintS : Entry Try.prog 29 c_laws_eqConstraintS := by
  refine entry_by (C := C_laws_eqConstraintS) mixed tys_ok t_laws_eqConstraintS (fn := Try.f29) (c := bd Try.f29) (by kernel_rfl) (by kernel_rfl) (by kernel_rfl) (by kernel_rfl) ?_
  intro args st k he
  unfold c_laws_eqConstraintS at he
  split at he
  rotate_left
  · exact he.elim
  rename_i a b
  have he : Ok (laws_eqConstraintS a b) (fun r => k (.c (.bool r)) []) := he
  refine ⟨rfl, rfl, ?_⟩
  refine And.intro (fun hb => ?_) (fun hb => ?_)
  · have he := ok_t he hb
    have he := ok_some he
    exact ⟨rfl, _, _, Leads.refl _ _, he⟩
  · have he := ok_f he hb
    refine loop_model mixed tys_ok t_laws_eqConstraintS (S := Int) (I := (fun i => (envOf [(0, .c (.imm (.pair (.sl (.pair (.int .i64) (.int .i64))) (.int .i64)) a)), (1, .c (.imm (.pair (.sl (.pair (.int .i64) (.int .i64))) (.int .i64)) b)), (5, .c (.int .i64 i))], []))) (f := laws_eqConstraintS_l1 a b) (K := (fun r => k (.c (.bool r)) [])) he (leads_ren [] (l := [(0, .c (.imm (.pair (.sl (.pair (.int .i64) (.int .i64))) (.int .i64)) a)), (1, .c (.imm (.pair (.sl (.pair (.int .i64) (.int .i64))) (.int .i64)) b)), (5, .c (.int .i64 (0:Int)))]) (st' := []) rfl rfl trivial ⟨.inl rfl, .inl rfl, rfl, trivial⟩) ?_
    rintro i J1 he
    refine And.intro (fun hb => ?_) (fun hb => ?_)
    · have he := ok_t he hb
      refine And.intro (by kernel_rfl) ?_
      have he := ok_rq he
      refine And.intro he.1 ?_
      have he := he.2
      have he := ok_rq he
      refine And.intro he.1 ?_
      have he := he.2
      refine And.intro ?_ trivial
      obtain ⟨r2_, hr, he⟩ := ok_bind he
      refine ⟨r2_, hr, ?_⟩
      refine And.intro (fun hb => ?_) (fun hb => ?_)
      · have he := ok_t he hb
        have he := ok_some he
        exact ⟨rfl, _, _, Leads.refl _ _, he⟩
      · have he := ok_f he hb
        have he := ok_rq he
        refine And.intro he.1 ?_
        have he := he.2
        have he := ok_some he
        exact ⟨(i + (1:Int)), he, (leads_ren [] (l := [(0, .c (.imm (.pair (.sl (.pair (.int .i64) (.int .i64))) (.int .i64)) a)), (1, .c (.imm (.pair (.sl (.pair (.int .i64) (.int .i64))) (.int .i64)) b)), (5, .c (.int .i64 (i + (1:Int))))]) (st' := []) rfl rfl trivial ⟨.inl rfl, .inl rfl, rfl, trivial⟩)⟩
    · have he := ok_f he hb
      have he := ok_some he
      exact ⟨rfl, _, _, Leads.refl _ _, he⟩

noncomputable def c_laws_markTermS__d : Con := fun args st => match args, st with
  | [.c (.own 0 false), .c (.int .i64 k_)], [(0, .sl 0 (.pair (.int .i64) (.int .i64)) a (.deep false .no))] => .opt (Int × (List (Int × Int))) (laws_markTermS__d k_ a) (fun r => .ret (.c (.int .i64 r.1)) [(0, .sl 0 (.pair (.int .i64) (.int .i64)) r.2 (.deep false .no))])
  | _, _ => .fail

noncomputable def C_laws_markTermS__d : Cfg := { y := tys, n := 27, h := 1, tab := [], cut := [], hand := [], good := [], deep := [], sched := [] }

theorem t_laws_markTermS__d : TabOk Try.prog C_laws_markTermS__d := tabOk_of (fun p h => by cases h)

theorem k_laws_markTermS__d : Entry Try.prog 82 c_laws_markTermS__d := by
  refine entry_by (C := C_laws_markTermS__d) mixed tys_ok t_laws_markTermS__d (fn := Try.f82) (c := bd Try.f82) (by kernel_rfl) (by kernel_rfl) (by kernel_rfl) (by kernel_rfl) ?_
  intro args st k he
  unfold c_laws_markTermS__d at he
  split at he
  rotate_left
  · exact he.elim
  rename_i k_ a
  have he : Ok (laws_markTermS__d k_ a) (fun r => k (.c (.int .i64 r.1)) [(0, .sl 0 (.pair (.int .i64) (.int .i64)) r.2 (.deep false .no))]) := he
  refine ⟨rfl, rfl, ?_⟩
  refine loop_model mixed tys_ok t_laws_markTermS__d (S := Int × Int × (List (Int × Int))) (I := (fun (k_1, i, a1) => (envOf [(0, .c (.own 0 false)), (1, .c (.int .i64 k_1)), (5, .c (.int .i64 i))], [(0, .sl 0 (.pair (.int .i64) (.int .i64)) a1 (.deep false .no))]))) (f := laws_markTermS__d_l1) (K := (fun r => k (.c (.int .i64 r.1)) [(0, .sl 0 (.pair (.int .i64) (.int .i64)) r.2 (.deep false .no))])) he (leads_ren [] (l := [(0, .c (.own 0 false)), (1, .c (.int .i64 k_)), (5, .c (.int .i64 (0:Int)))]) (st' := [(0, .sl 0 (.pair (.int .i64) (.int .i64)) a (.deep false .no))]) rfl rfl ⟨⟨rfl, rfl⟩, trivial⟩ ⟨⟨⟨rfl, rfl⟩, trivial⟩, rfl, rfl, trivial⟩) ?_
  rintro ⟨k_1, i, a1⟩ J1 he
  refine And.intro (fun hb => ?_) (fun hb => ?_)
  · have he := ok_t he hb
    have he := ok_rq he
    refine And.intro he.1 ?_
    have he := he.2
    have he := ok_rq he
    refine And.intro he.1 ?_
    have he := he.2
    have he := ok_rq he
    refine And.intro he.1 ?_
    have he := he.2
    have he := ok_rq he
    refine And.intro he.1 ?_
    have he := he.2
    have he := ok_rq he
    refine And.intro he.1 ?_
    have he := he.2
    have he := ok_some he
    exact ⟨(((k_1 + (1:Int)) + (1:Int)), (i + (1:Int)), ((a1.set i.toNat (k_1, (a1.getD i.toNat (0, 0)).2)).set i.toNat (((a1.set i.toNat (k_1, (a1.getD i.toNat (0, 0)).2)).getD i.toNat (0, 0)).1, (k_1 + (1:Int))))), he, (leads_ren [] (l := [(0, .c (.own 0 false)), (1, .c (.int .i64 ((k_1 + (1:Int)) + (1:Int)))), (5, .c (.int .i64 (i + (1:Int))))]) (st' := [(0, .sl 0 (.pair (.int .i64) (.int .i64)) ((a1.set i.toNat (k_1, (a1.getD i.toNat (0, 0)).2)).set i.toNat (((a1.set i.toNat (k_1, (a1.getD i.toNat (0, 0)).2)).getD i.toNat (0, 0)).1, (k_1 + (1:Int)))) (.deep false .no))]) rfl rfl ⟨⟨rfl, rfl⟩, trivial⟩ ⟨⟨⟨rfl, rfl⟩, trivial⟩, rfl, rfl, trivial⟩)⟩
  · have he := ok_f he hb
    have he := ok_some he
    exact ⟨rfl, _, _, (leads_ren [] (l := [(4, .c (.int .i64 k_1))]) (st' := [(0, .sl 0 (.pair (.int .i64) (.int .i64)) a1 (.deep false .no))]) rfl rfl ⟨⟨rfl, rfl⟩, trivial⟩ ⟨rfl, trivial⟩), he⟩

noncomputable def c_laws_markConstraintS : Con := fun args st => match args, st with
  | [.c (.own 0 false), .c (.int .i64 k_)], [(0, .sl 73 (.pair (.sl (.pair (.int .i64) (.int .i64))) (.int .i64)) a (.deep true .no))] => .opt (Int × (List ((List (Int × Int)) × Int))) (laws_markConstraintS k_ a) (fun r => .ret (.c (.int .i64 r.1)) [(0, .sl 73 (.pair (.sl (.pair (.int .i64) (.int .i64))) (.int .i64)) r.2 (.deep true .no))])
  | _, _ => .fail

noncomputable def C_laws_markConstraintS : Cfg := { y := tys, n := 27, h := 1, tab := [(82, c_laws_markTermS__d)], cut := [], hand := [(82, [0])], good := [], deep := [], sched := [] }

theorem t_laws_markConstraintS : TabOk Try.prog C_laws_markConstraintS := by
  refine tabOk_of ?_
  simp only [C_laws_markConstraintS, List.forall_mem_cons]
  exact ⟨k_laws_markTermS__d, fun p h => by cases h⟩

theorem k_laws_markConstraintS : Entry Try.prog 30 c_laws_markConstraintS := by
  refine entry_by (C := C_laws_markConstraintS) mixed tys_ok t_laws_markConstraintS (fn := Try.f30) (c := bd Try.f30) (by kernel_rfl) (by kernel_rfl) (by kernel_rfl) (by kernel_rfl) ?_
  intro args st k he
  unfold c_laws_markConstraintS at he
  split at he
  rotate_left
  · exact he.elim
  rename_i k_ a
  have he : Ok (laws_markConstraintS k_ a) (fun r => k (.c (.int .i64 r.1)) [(0, .sl 73 (.pair (.sl (.pair (.int .i64) (.int .i64))) (.int .i64)) r.2 (.deep true .no))]) := he
  refine ⟨rfl, rfl, ?_⟩
  refine loop_model mixed tys_ok t_laws_markConstraintS (S := Int × Int × (List ((List (Int × Int)) × Int))) (I := (fun (k_1, i, a1) => (envOf [(0, .c (.own 0 false)), (1, .c (.int .i64 k_1)), (5, .c (.int .i64 i))], [(0, .sl 73 (.pair (.sl (.pair (.int .i64) (.int .i64))) (.int .i64)) a1 (.deep true .no))]))) (f := laws_markConstraintS_l1) (K := (fun r => k (.c (.int .i64 r.1)) [(0, .sl 73 (.pair (.sl (.pair (.int .i64) (.int .i64))) (.int .i64)) r.2 (.deep true .no))])) he (leads_ren [] (l := [(0, .c (.own 0 false)), (1, .c (.int .i64 k_)), (5, .c (.int .i64 (0:Int)))]) (st' := [(0, .sl 73 (.pair (.sl (.pair (.int .i64) (.int .i64))) (.int .i64)) a (.deep true .no))]) rfl rfl ⟨⟨rfl, rfl⟩, trivial⟩ ⟨⟨⟨rfl, rfl⟩, trivial⟩, rfl, rfl, trivial⟩) ?_
  rintro ⟨k_1, i, a1⟩ J1 he
  refine And.intro (fun hb => ?_) (fun hb => ?_)
  · have he := ok_t he hb
    have he := ok_rq he
    refine And.intro he.1 ?_
    have he := he.2
    obtain ⟨r2_, hr, he⟩ := ok_bind he
    refine ⟨r2_, hr, ?_⟩
    have he := ok_rq he
    refine And.intro he.1 ?_
    have he := he.2
    have he := ok_rq he
    refine And.intro he.1 ?_
    have he := he.2
    have he := ok_rq he
    refine And.intro he.1 ?_
    have he := he.2
    have he := ok_some he
    exact ⟨((r2_.1 + (1:Int)), (i + (1:Int)), ((a1.set i.toNat ((a1.getD i.toNat ([], 0)).1, r2_.1)).set i.toNat (r2_.2, ((a1.set i.toNat ((a1.getD i.toNat ([], 0)).1, r2_.1)).getD i.toNat ([], 0)).2))), he, ((leads_close [0] rfl).trans (leads_ren [] (l := [(0, .c (.own 0 false)), (1, .c (.int .i64 (r2_.1 + (1:Int)))), (5, .c (.int .i64 (i + (1:Int))))]) (st' := [(0, .sl 73 (.pair (.sl (.pair (.int .i64) (.int .i64))) (.int .i64)) ((a1.set i.toNat ((a1.getD i.toNat ([], 0)).1, r2_.1)).set i.toNat (r2_.2, ((a1.set i.toNat ((a1.getD i.toNat ([], 0)).1, r2_.1)).getD i.toNat ([], 0)).2)) (.deep true .no))]) rfl rfl ⟨⟨rfl, rfl⟩, trivial⟩ ⟨⟨⟨rfl, rfl⟩, trivial⟩, rfl, rfl, trivial⟩))⟩
  · have he := ok_f he hb
    have he := ok_some he
    exact ⟨rfl, _, _, (leads_ren [] (l := [(4, .c (.int .i64 k_1))]) (st' := [(0, .sl 73 (.pair (.sl (.pair (.int .i64) (.int .i64))) (.int .i64)) a1 (.deep true .no))]) rfl rfl ⟨⟨rfl, rfl⟩, trivial⟩ ⟨rfl, trivial⟩), he⟩

noncomputable def c_laws_markIntS : Con := fun args st => match args, st with
  | [.c (.own 0 false), .c (.int .i64 k_)], [(0, .sl 3 (.int .i64) a .shallow)] => .opt (Int × (List Int)) (laws_markIntS k_ a) (fun r => .ret (.c (.int .i64 r.1)) [(0, .sl 3 (.int .i64) r.2 .shallow)])
  | _, _ => .fail

noncomputable def C_laws_markIntS : Cfg := { y := tys, n := 19, h := 1, tab := [], cut := [], hand := [], good := [], deep := [], sched := [] }

theorem t_laws_markIntS : TabOk Try.prog C_laws_markIntS := tabOk_of (fun p h => by cases h)

theorem k_laws_markIntS : Entry Try.prog 50 c_laws_markIntS := by
  refine entry_by (C := C_laws_markIntS) mixed tys_ok t_laws_markIntS (fn := Try.f50) (c := bd Try.f50) (by kernel_rfl) (by kernel_rfl) (by kernel_rfl) (by kernel_rfl) ?_
  intro args st k he
  unfold c_laws_markIntS at he
  split at he
  rotate_left
  · exact he.elim
  rename_i k_ a
  have he : Ok (laws_markIntS k_ a) (fun r => k (.c (.int .i64 r.1)) [(0, .sl 3 (.int .i64) r.2 .shallow)]) := he
  refine ⟨rfl, rfl, ?_⟩
  refine loop_model mixed tys_ok t_laws_markIntS (S := Int × Int × (List Int)) (I := (fun (k_1, i, a1) => (envOf [(0, .c (.own 0 false)), (1, .c (.int .i64 k_1)), (5, .c (.int .i64 i))], [(0, .sl 3 (.int .i64) a1 .shallow)]))) (f := laws_markIntS_l1) (K := (fun r => k (.c (.int .i64 r.1)) [(0, .sl 3 (.int .i64) r.2 .shallow)])) he (leads_ren [] (l := [(0, .c (.own 0 false)), (1, .c (.int .i64 k_)), (5, .c (.int .i64 (0:Int)))]) (st' := [(0, .sl 3 (.int .i64) a .shallow)]) rfl rfl ⟨⟨rfl, rfl⟩, trivial⟩ ⟨⟨⟨rfl, rfl⟩, trivial⟩, rfl, rfl, trivial⟩) ?_
  rintro ⟨k_1, i, a1⟩ J1 he
  refine And.intro (fun hb => ?_) (fun hb => ?_)
  · have he := ok_t he hb
    have he := ok_rq he
    refine And.intro he.1 ?_
    have he := he.2
    have he := ok_rq he
    refine And.intro he.1 ?_
    have he := he.2
    have he := ok_rq he
    refine And.intro he.1 ?_
    have he := he.2
    have he := ok_some he
    exact ⟨((k_1 + (1:Int)), (i + (1:Int)), (a1.set i.toNat k_1)), he, (leads_ren [] (l := [(0, .c (.own 0 false)), (1, .c (.int .i64 (k_1 + (1:Int)))), (5, .c (.int .i64 (i + (1:Int))))]) (st' := [(0, .sl 3 (.int .i64) (a1.set i.toNat k_1) .shallow)]) rfl rfl ⟨⟨rfl, rfl⟩, trivial⟩ ⟨⟨⟨rfl, rfl⟩, trivial⟩, rfl, rfl, trivial⟩)⟩
  · have he := ok_f he hb
    have he := ok_some he
    exact ⟨rfl, _, _, (leads_ren [] (l := [(4, .c (.int .i64 k_1))]) (st' := [(0, .sl 3 (.int .i64) a1 .shallow)]) rfl rfl ⟨⟨rfl, rfl⟩, trivial⟩ ⟨rfl, trivial⟩), he⟩

noncomputable def c_laws_heldIntS : Con := fun args st => match args, st with
  | [.c (.imm (.int .i64) a), .c (.int .i64 k_)], [] => .opt (Int) (laws_heldIntS a k_) (fun r => .ret (.c (.int .i64 r)) [])
  | _, _ => .fail

noncomputable def C_laws_heldIntS : Cfg := { y := tys, n := 21, h := 0, tab := [], cut := [], hand := [], good := [], deep := [], sched := [] }

theorem t_laws_heldIntS : TabOk Try.prog C_laws_heldIntS := tabOk_of (fun p h => by cases h)

theorem k_laws_heldIntS : Entry Try.prog 51 c_laws_heldIntS := by
  refine entry_by (C := C_laws_heldIntS) mixed tys_ok t_laws_heldIntS (fn := Try.f51) (c := bd Try.f51) (by kernel_rfl) (by kernel_rfl) (by kernel_rfl) (by kernel_rfl) ?_
  intro args st k he
  unfold c_laws_heldIntS at he
  split at he
  rotate_left
  · exact he.elim
  rename_i a k_
  have he : Ok (laws_heldIntS a k_) (fun r => k (.c (.int .i64 r)) []) := he
  refine ⟨rfl, rfl, ?_⟩
  refine loop_model mixed tys_ok t_laws_heldIntS (S := Int × Int) (I := (fun (k_1, i) => (envOf [(0, .c (.imm (.int .i64) a)), (1, .c (.int .i64 k_1)), (5, .c (.int .i64 i))], []))) (f := laws_heldIntS_l1 a) (K := (fun r => k (.c (.int .i64 r)) [])) he (leads_ren [] (l := [(0, .c (.imm (.int .i64) a)), (1, .c (.int .i64 k_)), (5, .c (.int .i64 (0:Int)))]) (st' := []) rfl rfl trivial ⟨.inl rfl, rfl, rfl, trivial⟩) ?_
  rintro ⟨k_1, i⟩ J1 he
  refine And.intro (fun hb => ?_) (fun hb => ?_)
  · have he := ok_t he hb
    have he := ok_rq he
    refine And.intro he.1 ?_
    have he := he.2
    refine And.intro (fun hb => ?_) (fun hb => ?_)
    · have he := ok_t he hb
      have he := ok_some he
      exact ⟨rfl, _, _, Leads.refl _ _, he⟩
    · have he := ok_f he hb
      have he := ok_rq he
      refine And.intro he.1 ?_
      have he := he.2
      have he := ok_rq he
      refine And.intro he.1 ?_
      have he := he.2
      have he := ok_some he
      exact ⟨((k_1 + (1:Int)), (i + (1:Int))), he, (leads_ren [] (l := [(0, .c (.imm (.int .i64) a)), (1, .c (.int .i64 (k_1 + (1:Int)))), (5, .c (.int .i64 (i + (1:Int))))]) (st' := []) rfl rfl trivial ⟨.inl rfl, rfl, rfl, trivial⟩)⟩
  · have he := ok_f he hb
    have he := ok_some he
    exact ⟨rfl, _, _, Leads.refl _ _, he⟩

noncomputable def c_laws_FnExactMinimalCore : Con := fun args st => match args, st with
  | [.c (.imm (.pair (.sl (.pair (.int .i64) (.int .i64))) (.int .i64)) a0)], [] => .opt (Bool) (laws_FnExactMinimalCore a0) (fun r => .ret (.c (.bool r)) [])
  | _, _ => .fail

noncomputable def C_laws_FnExactMinimalCore : Cfg := { y := tys, n := 96, h := 0, tab := [(25, c_laws_szConstraintS), (26, c_laws_toConstraintS), (29, c_laws_eqConstraintS), (30, c_laws_markConstraintS), (39, c_laws_eqIntS), (50, c_laws_markIntS), (51, c_laws_heldIntS), (57, c_impl_MinimalCore), (59, c_spec_MinimalCore)], cut := [], hand := [(30, [0]), (50, [0])], good := [], deep := [], sched := [] }

theorem t_laws_FnExactMinimalCore : TabOk Try.prog C_laws_FnExactMinimalCore := by
  refine tabOk_of ?_
  simp only [C_laws_FnExactMinimalCore, List.forall_mem_cons]
  exact ⟨k_laws_szConstraintS, k_laws_toConstraintS, k_laws_eqConstraintS, k_laws_markConstraintS, k_laws_eqIntS, k_laws_markIntS, k_laws_heldIntS, k_impl_MinimalCore, k_spec_MinimalCore, fun p h => by cases h⟩

theorem k_laws_FnExactMinimalCore : Entry Try.prog 14 c_laws_FnExactMinimalCore := by
  refine entry_by (C := C_laws_FnExactMinimalCore) mixed tys_ok t_laws_FnExactMinimalCore (fn := Try.f14) (c := bd Try.f14) (by kernel_rfl) (by kernel_rfl) (by kernel_rfl) (by kernel_rfl) ?_
  intro args st k he
  unfold c_laws_FnExactMinimalCore at he
  split at he
  rotate_left
  · exact he.elim
  rename_i a0
  have he : Ok (laws_FnExactMinimalCore a0) (fun r => k (.c (.bool r)) []) := he
  refine ⟨rfl, rfl, ?_⟩
  obtain ⟨r1_, hr, he⟩ := ok_bind he
  refine ⟨r1_, hr, ?_⟩
  refine And.intro (fun hb => ?_) (fun hb => ?_)
  · have he := ok_t he hb
    have he := ok_some he
    exact ⟨rfl, _, _, Leads.refl _ _, he⟩
  · have he := ok_f he hb
    obtain ⟨r2_, hr, he⟩ := ok_bind he
    refine ⟨r2_, hr, ?_⟩
    obtain ⟨r3_, hr, he⟩ := ok_bind he
    refine ⟨r3_, hr, ?_⟩
    obtain ⟨r4_, hr, he⟩ := ok_bind he
    refine ⟨r4_, hr, ?_⟩
    obtain ⟨r5_, hr, he⟩ := ok_bind he
    refine ⟨r5_, hr, ?_⟩
    obtain ⟨r6_, hr, he⟩ := ok_bind he
    refine ⟨r6_, hr, ?_⟩
    refine And.intro (fun hb => ?_) (fun hb => ?_)
    · have he := ok_f he hb
      refine And.intro (fun hb => ?_) (fun hb => ?_)
      · have he := ok_t he hb
        have he := ok_some he
        exact ⟨rfl, _, _, (leads_ren [] (l := [(2, .c (.bool false))]) (st' := []) rfl rfl trivial ⟨.inr rfl, trivial⟩), he⟩
      · have he := ok_f he hb
        obtain ⟨r7_, hr, he⟩ := ok_bind he
        refine ⟨r7_, hr, ?_⟩
        obtain ⟨r8_, hr, he⟩ := ok_bind he
        refine ⟨r8_, hr, ?_⟩
        refine And.intro (fun hb => ?_) (fun hb => ?_)
        · have he := ok_t he hb
          have he := ok_some he
          exact ⟨rfl, _, _, (leads_ren [] (l := [(2, .c (.bool false))]) (st' := []) rfl rfl trivial ⟨.inr rfl, trivial⟩), he⟩
        · have he := ok_f he hb
          obtain ⟨r9_, hr, he⟩ := ok_bind he
          refine ⟨r9_, hr, ?_⟩
          refine And.intro (fun hb => ?_) (fun hb => ?_)
          · have he := ok_f he hb
            obtain ⟨r10_, hr, he⟩ := ok_bind he
            refine ⟨r10_, hr, ?_⟩
            refine And.intro (fun hb => ?_) (fun hb => ?_)
            · have he := ok_f he hb
              refine And.intro (fun hb => ?_) (fun hb => ?_)
              · have he := ok_t he hb
                have he := ok_some he
                exact ⟨rfl, _, _, (leads_ren [] (l := [(2, .c (.bool false))]) (st' := []) rfl rfl trivial ⟨.inr rfl, trivial⟩), he⟩
              · have he := ok_f he hb
                obtain ⟨r11_, hr, he⟩ := ok_bind he
                refine ⟨r11_, hr, ?_⟩
                obtain ⟨r12_, hr, he⟩ := ok_bind he
                refine ⟨r12_, hr, ?_⟩
                refine And.intro (fun hb => ?_) (fun hb => ?_)
                · have he := ok_t he hb
                  have he := ok_some he
                  exact ⟨rfl, _, _, (leads_ren [] (l := [(2, .c (.bool false))]) (st' := []) rfl rfl trivial ⟨.inr rfl, trivial⟩), he⟩
                · have he := ok_f he hb
                  refine And.intro (fun hb => ?_) (fun hb => ?_)
                  · have he := ok_t he hb
                    have he := ok_some he
                    exact ⟨rfl, _, _, (leads_ren [] (l := [(2, .c (.bool false))]) (st' := []) rfl rfl trivial ⟨.inr rfl, trivial⟩), he⟩
                  · have he := ok_f he hb
                    obtain ⟨r13_, hr, he⟩ := ok_bind he
                    refine ⟨r13_, hr, ?_⟩
                    obtain ⟨r14_, hr, he⟩ := ok_bind he
                    refine ⟨r14_, hr, ?_⟩
                    obtain ⟨r15_, hr, he⟩ := ok_bind he
                    refine ⟨r15_, hr, ?_⟩
                    refine And.intro (fun hb => ?_) (fun hb => ?_)
                    · have he := ok_f he hb
                      refine And.intro (fun hb => ?_) (fun hb => ?_)
                      · have he := ok_t he hb
                        have he := ok_some he
                        exact ⟨rfl, _, _, (leads_ren [] (l := [(2, .c (.bool false))]) (st' := []) rfl rfl trivial ⟨.inr rfl, trivial⟩), he⟩
                      · have he := ok_f he hb
                        obtain ⟨r16_, hr, he⟩ := ok_bind he
                        refine ⟨r16_, hr, ?_⟩
                        refine And.intro (fun hb => ?_) (fun hb => ?_)
                        · have he := ok_t he hb
                          have he := ok_some he
                          exact ⟨rfl, _, _, (leads_ren [] (l := [(2, .c (.bool false))]) (st' := []) rfl rfl trivial ⟨.inr rfl, trivial⟩), he⟩
                        · have he := ok_f he hb
                          refine And.intro (fun hb => ?_) (fun hb => ?_)
                          · have he := ok_t he hb
                            have he := ok_some he
                            exact ⟨rfl, _, _, (leads_ren [] (l := [(2, .c (.bool false))]) (st' := []) rfl rfl trivial ⟨.inr rfl, trivial⟩), he⟩
                          · have he := ok_f he hb
                            have he := ok_some he
                            exact ⟨rfl, _, _, (leads_ren [] (l := [(2, .c (.bool true))]) (st' := []) rfl rfl trivial ⟨.inr rfl, trivial⟩), he⟩
                    · have he := ok_t he hb
                      have he := ok_some he
                      exact ⟨rfl, _, _, (leads_ren [] (l := [(2, .c (.bool false))]) (st' := []) rfl rfl trivial ⟨.inr rfl, trivial⟩), he⟩
            · have he := ok_t he hb
              have he := ok_some he
              exact ⟨rfl, _, _, (leads_ren [] (l := [(2, .c (.bool false))]) (st' := []) rfl rfl trivial ⟨.inr rfl, trivial⟩), he⟩
          · have he := ok_t he hb
            have he := ok_some he
            exact ⟨rfl, _, _, (leads_ren [] (l := [(2, .c (.bool false))]) (st' := []) rfl rfl trivial ⟨.inr rfl, trivial⟩), he⟩
    · have he := ok_t he hb
      have he := ok_some he
      exact ⟨rfl, _, _, (leads_ren [] (l := [(2, .c (.bool false))]) (st' := []) rfl rfl trivial ⟨.inr rfl, trivial⟩), he⟩

end Go.AE.Y
