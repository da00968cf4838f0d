/-
  Walks: each function keeps the contract that its model gives. No conditions.
-/
import Derived.Test.YtkipgkpekkjebaaR1Tab
import Derived.Test.YtkipgkpekkjebaaR1W2
namespace Go.AE.Y
open Go Go.AE Go.Proofs
set_option linter.unusedVariables false
set_option maxHeartbeats 2000000
set_option maxRecDepth 100000

noncomputable def c_laws_FnCubeHolds : Con := fun args st => match args, st with
  | [.c (.imm (.int .u8) a0)], [] => .opt (Bool) (laws_FnCubeHolds a0) (fun r => .ret (.c (.bool r)) [])
  | _, _ => .fail

noncomputable def C_laws_FnCubeHolds : Cfg := { y := tys, n := 71, h := 0, tab := [(15, c_spec_CubeHolds), (18, c_impl_CubeHolds), (27, c_spec_DrawCubeHolds)], cut := [], hand := [], good := [], deep := [], sched := [] }

theorem t_laws_FnCubeHolds : TabOk Try.prog C_laws_FnCubeHolds := by
  refine tabOk_of ?_
  simp only [C_laws_FnCubeHolds, List.forall_mem_cons]
  exact ⟨k_spec_CubeHolds, k_impl_CubeHolds, k_spec_DrawCubeHolds, fun p h => by cases h⟩

theorem k_laws_FnCubeHolds : Entry Try.prog 5 c_laws_FnCubeHolds := by
  refine entry_by (C := C_laws_FnCubeHolds) mixed tys_ok t_laws_FnCubeHolds (fn := Try.f5) (c := bd Try.f5) (by kernel_rfl) (by kernel_rfl) (by kernel_rfl) (by kernel_rfl) ?_
  intro args st k he
  unfold c_laws_FnCubeHolds at he
  split at he
  rotate_left
  · exact he.elim
  rename_i a0
  have he : Ok (laws_FnCubeHolds a0) (fun r => k (.c (.bool r)) []) := he
  refine ⟨rfl, rfl, ?_⟩
  refine And.intro (fun hb => ?_) (fun hb => ?_)
  · have he := ok_t he hb
    have he := ok_some he
    exact ⟨rfl, _, _, Leads.refl _ _, he⟩
  · have he := ok_f he hb
    obtain ⟨r1_, hr, he⟩ := ok_bind he
    refine ⟨r1_, hr, ?_⟩
    obtain ⟨r2_, hr, he⟩ := ok_bind he
    refine ⟨r2_, hr, ?_⟩
    obtain ⟨r3_, hr, he⟩ := ok_bind he
    refine ⟨r3_, hr, ?_⟩
    refine And.intro (fun hb => ?_) (fun hb => ?_)
    · have he := ok_f he hb
      obtain ⟨r4_, hr, he⟩ := ok_bind he
      refine ⟨r4_, hr, ?_⟩
      refine And.intro (fun hb => ?_) (fun hb => ?_)
      · have he := ok_f he hb
        refine And.intro (fun hb => ?_) (fun hb => ?_)
        · have he := ok_t he hb
          obtain ⟨r5_, hr, he⟩ := ok_bind he
          refine ⟨r5_, hr, ?_⟩
          refine And.intro (fun hb => ?_) (fun hb => ?_)
          · have he := ok_t he hb
            obtain ⟨r6_, hr, he⟩ := ok_bind he
            refine ⟨r6_, hr, ?_⟩
            have he := ok_some he
            exact ⟨rfl, _, _, (leads_ren [] (l := [(2, .c (.bool (r6_ == ((r1_.2.length:Int) == (12:Int)))))]) (st' := []) rfl rfl trivial ⟨.inl rfl, trivial⟩), he⟩
          · have he := ok_f he hb
            have he := ok_some he
            exact ⟨rfl, _, _, (leads_ren [] (l := [(2, .c (.bool false))]) (st' := []) rfl rfl trivial ⟨.inr rfl, trivial⟩), he⟩
        · have he := ok_f he hb
          refine loop_model mixed tys_ok t_laws_FnCubeHolds (S := Int) (I := (fun i => (envOf [(3, .c (.own 10000000)), (4, .c (.own 10000001)), (6, .c (.int .i64 i))], [(10000000, .sl 3 (.int .i64) r1_.1 .shallow), (10000001, .sl 4 .bool r1_.2 .shallow)]))) (f := laws_FnCubeHolds_l1 r1_) (K := (fun r => k (.c (.bool r)) [])) he (leads_ren [(10000000, 14900), (10000001, 14901)] (l := [(3, .c (.own 10000000)), (4, .c (.own 10000001)), (6, .c (.int .i64 (0:Int)))]) (st' := [(10000000, .sl 3 (.int .i64) r1_.1 .shallow), (10000001, .sl 4 .bool r1_.2 .shallow)]) rfl rfl ⟨⟨rfl, rfl⟩, ⟨rfl, rfl⟩, trivial⟩ ⟨⟨rfl, rfl⟩, ⟨rfl, rfl⟩, rfl, trivial⟩) ?_
          rintro i J1 he
          refine And.intro (fun hb => ?_) (fun hb => ?_)
          · have he := ok_t he hb
            have he := ok_rq he
            refine And.intro he.1 ?_
            have he := he.2
            have he := ok_rq he
            refine And.intro he.1 ?_
            have he := he.2
            have he := ok_rq he
            refine And.intro he.1 ?_
            have he := he.2
            have he := ok_rq he
            refine And.intro he.1 ?_
            have he := he.2
            obtain ⟨r11_, hr, he⟩ := ok_bind he
            refine ⟨r11_, hr, ?_⟩
            refine And.intro (fun hb => ?_) (fun hb => ?_)
            · have he := ok_t he hb
              have he := ok_some he
              exact ⟨rfl, _, _, (leads_ren [] (l := [(2, .c (.bool false))]) (st' := []) rfl rfl trivial ⟨.inr rfl, trivial⟩), he⟩
            · have he := ok_f he hb
              have he := ok_rq he
              refine And.intro he.1 ?_
              have he := he.2
              have he := ok_some he
              exact ⟨(i + (1:Int)), he, (leads_ren [] (l := [(3, .c (.own 10000000)), (4, .c (.own 10000001)), (6, .c (.int .i64 (i + (1:Int))))]) (st' := [(10000000, .sl 3 (.int .i64) r1_.1 .shallow), (10000001, .sl 4 .bool r1_.2 .shallow)]) rfl rfl ⟨⟨rfl, rfl⟩, ⟨rfl, rfl⟩, trivial⟩ ⟨⟨rfl, rfl⟩, ⟨rfl, rfl⟩, rfl, trivial⟩)⟩
          · have he := ok_f he hb
            have he := ok_some he
            exact ⟨rfl, _, _, (leads_ren [] (l := [(2, .c (.bool true))]) (st' := []) rfl rfl trivial ⟨.inr rfl, trivial⟩), he⟩
      · have he := ok_t he hb
        obtain ⟨r7_, hr, he⟩ := ok_bind he
        refine ⟨r7_, hr, ?_⟩
        refine And.intro (fun hb => ?_) (fun hb => ?_)
        · have he := ok_t he hb
          obtain ⟨r8_, hr, he⟩ := ok_bind he
          refine ⟨r8_, hr, ?_⟩
          have he := ok_some he
          exact ⟨rfl, _, _, (leads_ren [] (l := [(2, .c (.bool (r8_ == ((r1_.2.length:Int) == (12:Int)))))]) (st' := []) rfl rfl trivial ⟨.inl rfl, trivial⟩), he⟩
        · have he := ok_f he hb
          have he := ok_some he
          exact ⟨rfl, _, _, (leads_ren [] (l := [(2, .c (.bool false))]) (st' := []) rfl rfl trivial ⟨.inr rfl, trivial⟩), he⟩
    · have he := ok_t he hb
      obtain ⟨r9_, hr, he⟩ := ok_bind he
      refine ⟨r9_, hr, ?_⟩
      refine And.intro (fun hb => ?_) (fun hb => ?_)
      · have he := ok_t he hb
        obtain ⟨r10_, hr, he⟩ := ok_bind he
        refine ⟨r10_, hr, ?_⟩
        have he := ok_some he
        exact ⟨rfl, _, _, (leads_ren [] (l := [(2, .c (.bool (r10_ == ((r1_.2.length:Int) == (12:Int)))))]) (st' := []) rfl rfl trivial ⟨.inl rfl, trivial⟩), he⟩
      · have he := ok_f he hb
        have he := ok_some he
        exact ⟨rfl, _, _, (leads_ren [] (l := [(2, .c (.bool false))]) (st' := []) rfl rfl trivial ⟨.inr rfl, trivial⟩), he⟩

noncomputable def c_spec_DrawSplitCubes : Con := fun args st => match args, st with
  | [.c (.imm (.int .u8) code)], [] => .opt ((List Int)) (spec_DrawSplitCubes code) (fun r => .ret (.c (.own 900)) [(900, .sl 3 (.int .i64) r .shallow)])
  | _, _ => .fail

noncomputable def C_spec_DrawSplitCubes : Cfg := { y := tys, n := 6, h := 0, tab := [(65, c_spec_l17Open), (70, c_spec_l12Draw)], cut := [], hand := [], good := [], deep := [], sched := [] }

theorem t_spec_DrawSplitCubes : TabOk Try.prog C_spec_DrawSplitCubes := by
  refine tabOk_of ?_
  simp only [C_spec_DrawSplitCubes, List.forall_mem_cons]
  exact ⟨k_spec_l17Open, k_spec_l12Draw, fun p h => by cases h⟩

theorem k_spec_DrawSplitCubes : Entry Try.prog 28 c_spec_DrawSplitCubes := by
  refine entry_by (C := C_spec_DrawSplitCubes) mixed tys_ok t_spec_DrawSplitCubes (fn := Try.f28) (c := bd Try.f28) (by kernel_rfl) (by kernel_rfl) (by kernel_rfl) (by kernel_rfl) ?_
  intro args st k he
  unfold c_spec_DrawSplitCubes at he
  split at he
  rotate_left
  · exact he.elim
  rename_i code
  have he : Ok (spec_DrawSplitCubes code) (fun r => k (.c (.own 900)) [(900, .sl 3 (.int .i64) r .shallow)]) := he
  refine ⟨rfl, rfl, ?_⟩
  obtain ⟨r1_, hr, he⟩ := ok_bind he
  refine ⟨r1_, hr, ?_⟩
  obtain ⟨r2_, hr, he⟩ := ok_bind he
  refine ⟨r2_, hr, ?_⟩
  have he := ok_some he
  exact ⟨rfl, _, _, (leads_ren [(900, 6900)] (l := [(2, .c (.own 900))]) (st' := [(900, .sl 3 (.int .i64) r2_.2 .shallow)]) rfl rfl ⟨⟨rfl, rfl⟩, trivial⟩ ⟨⟨rfl, rfl⟩, trivial⟩), he⟩

noncomputable def c_laws_cpInts : Con := fun args st => match args, st with
  | [.c (.imm (.int .i64) a), .c (.imm (.int .i64) b)], [] => .opt (Bool) (laws_cpInts a b) (fun r => .ret (.c (.bool r)) [])
  | _, _ => .fail

noncomputable def C_laws_cpInts : Cfg := { y := tys, n := 26, h := 0, tab := [], cut := [], hand := [], good := [], deep := [], sched := [] }

theorem t_laws_cpInts : TabOk Try.prog C_laws_cpInts := tabOk_of (fun p h => by cases h)

theorem k_laws_cpInts : Entry Try.prog 71 c_laws_cpInts := by
  refine entry_by (C := C_laws_cpInts) mixed tys_ok t_laws_cpInts (fn := Try.f71) (c := bd Try.f71) (by kernel_rfl) (by kernel_rfl) (by kernel_rfl) (by kernel_rfl) ?_
  intro args st k he
  unfold c_laws_cpInts at he
  split at he
  rotate_left
  · exact he.elim
  rename_i a b
  have he : Ok (laws_cpInts a b) (fun r => k (.c (.bool r)) []) := he
  refine ⟨rfl, rfl, ?_⟩
  refine And.intro (fun hb => ?_) (fun hb => ?_)
  · have he := ok_t he hb
    have he := ok_some he
    exact ⟨rfl, _, _, Leads.refl _ _, he⟩
  · have he := ok_f he hb
    refine loop_model mixed tys_ok t_laws_cpInts (S := Int) (I := (fun i => (envOf [(0, .c (.imm (.int .i64) a)), (1, .c (.imm (.int .i64) b)), (5, .c (.int .i64 i))], []))) (f := laws_cpInts_l1 a b) (K := (fun r => k (.c (.bool r)) [])) he (leads_ren [] (l := [(0, .c (.imm (.int .i64) a)), (1, .c (.imm (.int .i64) b)), (5, .c (.int .i64 (0:Int)))]) (st' := []) rfl rfl trivial ⟨.inl rfl, .inl rfl, rfl, trivial⟩) ?_
    rintro i J1 he
    refine And.intro (fun hb => ?_) (fun hb => ?_)
    · have he := ok_t he hb
      refine And.intro (by kernel_rfl) ?_
      have he := ok_rq he
      refine And.intro he.1 ?_
      have he := he.2
      have he := ok_rq he
      refine And.intro he.1 ?_
      have he := he.2
      refine And.intro (fun hb => ?_) (fun hb => ?_)
      · have he := ok_t he hb
        have he := ok_some he
        exact ⟨rfl, _, _, Leads.refl _ _, he⟩
      · have he := ok_f he hb
        have he := ok_rq he
        refine And.intro he.1 ?_
        have he := he.2
        have he := ok_some he
        exact ⟨(i + (1:Int)), he, (leads_ren [] (l := [(0, .c (.imm (.int .i64) a)), (1, .c (.imm (.int .i64) b)), (5, .c (.int .i64 (i + (1:Int))))]) (st' := []) rfl rfl trivial ⟨.inl rfl, .inl rfl, rfl, trivial⟩)⟩
    · have he := ok_f he hb
      have he := ok_some he
      exact ⟨rfl, _, _, Leads.refl _ _, he⟩

noncomputable def c_laws_cpLists : Con := fun args st => match args, st with
  | [.c (.imm (.sl (.int .i64)) a), .c (.imm (.sl (.int .i64)) b)], [] => .opt (Bool) (laws_cpLists a b) (fun r => .ret (.c (.bool r)) [])
  | _, _ => .fail

noncomputable def C_laws_cpLists : Cfg := { y := tys, n := 27, h := 0, tab := [(71, c_laws_cpInts)], cut := [], hand := [], good := [], deep := [], sched := [(6, (.first 0 (.first 1 (.first 2 (.first 3 (.first 4 (.first 5 (.first 6 (.first 7 (.alt 8 (.first 9 .done) .stop))))))))))] }

theorem t_laws_cpLists : TabOk Try.prog C_laws_cpLists := by
  refine tabOk_of ?_
  simp only [C_laws_cpLists, List.forall_mem_cons]
  exact ⟨k_laws_cpInts, fun p h => by cases h⟩

theorem k_laws_cpLists : Entry Try.prog 29 c_laws_cpLists := by
  refine entry_by (C := C_laws_cpLists) mixed tys_ok t_laws_cpLists (fn := Try.f29) (c := bd Try.f29) (by kernel_rfl) (by kernel_rfl) (by kernel_rfl) (by kernel_rfl) ?_
  intro args st k he
  unfold c_laws_cpLists at he
  split at he
  rotate_left
  · exact he.elim
  rename_i a b
  have he : Ok (laws_cpLists a b) (fun r => k (.c (.bool r)) []) := he
  refine ⟨rfl, rfl, ?_⟩
  refine And.intro (fun hb => ?_) (fun hb => ?_)
  · have he := ok_t he hb
    have he := ok_some he
    exact ⟨rfl, _, _, Leads.refl _ _, he⟩
  · have he := ok_f he hb
    refine loop_model mixed tys_ok t_laws_cpLists (S := Int) (I := (fun i => (envOf [(0, .c (.imm (.sl (.int .i64)) a)), (1, .c (.imm (.sl (.int .i64)) b)), (5, .c (.int .i64 i))], []))) (f := laws_cpLists_l1 a b) (K := (fun r => k (.c (.bool r)) [])) he (leads_ren [] (l := [(0, .c (.imm (.sl (.int .i64)) a)), (1, .c (.imm (.sl (.int .i64)) b)), (5, .c (.int .i64 (0:Int)))]) (st' := []) rfl rfl trivial ⟨.inl rfl, .inl rfl, rfl, trivial⟩) ?_
    rintro i J1 he
    refine And.intro (fun hb => ?_) (fun hb => ?_)
    · have he := ok_t he hb
      refine And.intro (by kernel_rfl) ?_
      have he := ok_rq he
      refine And.intro he.1 ?_
      have he := he.2
      have he := ok_rq he
      refine And.intro he.1 ?_
      have he := he.2
      refine And.intro ?_ trivial
      obtain ⟨r2_, hr, he⟩ := ok_bind he
      refine ⟨r2_, hr, ?_⟩
      refine And.intro (fun hb => ?_) (fun hb => ?_)
      · have he := ok_t he hb
        have he := ok_some he
        exact ⟨rfl, _, _, Leads.refl _ _, he⟩
      · have he := ok_f he hb
        have he := ok_rq he
        refine And.intro he.1 ?_
        have he := he.2
        have he := ok_some he
        exact ⟨(i + (1:Int)), he, (leads_ren [] (l := [(0, .c (.imm (.sl (.int .i64)) a)), (1, .c (.imm (.sl (.int .i64)) b)), (5, .c (.int .i64 (i + (1:Int))))]) (st' := []) rfl rfl trivial ⟨.inl rfl, .inl rfl, rfl, trivial⟩)⟩
    · have he := ok_f he hb
      have he := ok_some he
      exact ⟨rfl, _, _, Leads.refl _ _, he⟩

noncomputable def c_laws_FnSplitCubes : Con := fun args st => match args, st with
  | [.c (.imm (.int .u8) a0), .c (.imm (.int .u8) a1)], [] => .opt (Bool) (laws_FnSplitCubes a0 a1) (fun r => .ret (.c (.bool r)) [])
  | _, _ => .fail

noncomputable def C_laws_FnSplitCubes : Cfg := { y := tys, n := 89, h := 0, tab := [(18, c_impl_CubeHolds), (21, c_spec_SplitCubes), (22, c_impl_SplitCubes), (27, c_spec_DrawCubeHolds), (28, c_spec_DrawSplitCubes), (29, c_laws_cpLists)], cut := [15], hand := [], good := [], deep := [], sched := [] }

theorem t_laws_FnSplitCubes : TabOk Try.prog C_laws_FnSplitCubes := by
  refine tabOk_of ?_
  simp only [C_laws_FnSplitCubes, List.forall_mem_cons]
  exact ⟨k_impl_CubeHolds, k_spec_SplitCubes, k_impl_SplitCubes, k_spec_DrawCubeHolds, k_spec_DrawSplitCubes, k_laws_cpLists, fun p h => by cases h⟩

theorem k_laws_FnSplitCubes : Entry Try.prog 6 c_laws_FnSplitCubes := by
  refine entry_by (C := C_laws_FnSplitCubes) mixed tys_ok t_laws_FnSplitCubes (fn := Try.f6) (c := bd Try.f6) (by kernel_rfl) (by kernel_rfl) (by kernel_rfl) (by kernel_rfl) ?_
  intro args st k he
  unfold c_laws_FnSplitCubes at he
  split at he
  rotate_left
  · exact he.elim
  rename_i a0 a1
  have he : Ok (laws_FnSplitCubes a0 a1) (fun r => k (.c (.bool r)) []) := he
  refine ⟨rfl, rfl, ?_⟩
  refine And.intro (fun hb => ?_) (fun hb => ?_)
  · have he := ok_f he hb
    refine And.intro (fun hb => ?_) (fun hb => ?_)
    · have he := ok_t he hb
      have he := ok_some he
      exact ⟨rfl, _, _, Leads.refl _ _, he⟩
    · have he := ok_f he hb
      obtain ⟨r1_, hr, he⟩ := ok_bind he
      refine ⟨r1_, hr, ?_⟩
      obtain ⟨r2_, hr, he⟩ := ok_bind he
      refine ⟨r2_, hr, ?_⟩
      obtain ⟨r3_, hr, he⟩ := ok_bind he
      refine ⟨r3_, hr, ?_⟩
      obtain ⟨r4_, hr, he⟩ := ok_bind he
      refine ⟨r4_, hr, ?_⟩
      refine And.intro (fun hb => ?_) (fun hb => ?_)
      · have he := ok_f he hb
        obtain ⟨r5_, hr, he⟩ := ok_bind he
        refine ⟨r5_, hr, ?_⟩
        refine And.intro (fun hb => ?_) (fun hb => ?_)
        · have he := ok_f he hb
          refine And.intro (fun hb => ?_) (fun hb => ?_)
          · have he := ok_f he hb
            refine And.intro (fun hb => ?_) (fun hb => ?_)
            · have he := ok_t he hb
              refine And.intro (fun hb => ?_) (fun hb => ?_)
              · have he := ok_t he hb
                obtain ⟨r6_, hr, he⟩ := ok_bind he
                refine ⟨r6_, hr, ?_⟩
                have he := ok_some he
                exact ⟨rfl, _, _, (leads_ren [] (l := [(4, .c (.bool r6_))]) (st' := []) rfl rfl trivial ⟨.inl rfl, trivial⟩), he⟩
              · have he := ok_f he hb
                have he := ok_some he
                exact ⟨rfl, _, _, (leads_ren [] (l := [(4, .c (.bool false))]) (st' := []) rfl rfl trivial ⟨.inr rfl, trivial⟩), he⟩
            · have he := ok_f he hb
              refine seq_model mixed tys_ok t_laws_FnSplitCubes (S := Int × (List (List Int))) (I := (fun (i3, i4) => (envOf [(5, .c (.own 10001000)), (8, .c (.own 10001001)), (12, .c (.int .i64 i3))], [(10001000, .sl 3 (.int .i64) r1_ .shallow), (10001001, .sl 22 (.sl (.int .i64)) i4 (.deep true .no))]))) (B := fun s => Ok (laws_FnSplitCubes_j1 r1_ s) (fun r => k (.c (.bool r)) [])) ?_ ?_
              · rintro ⟨i3, i4⟩ he
                refine And.intro (fun hb => ?_) (fun hb => ?_)
                · have he := ok_t he hb
                  have he := ok_rq he
                  refine And.intro he.1 ?_
                  have he := he.2
                  have he := ok_some he
                  exact ⟨rfl, _, _, (leads_ren [] (l := [(4, .c (.bool ((i4.length:Int) == ((1:Int) * 2 ^ (r1_.length:Int).toNat))))]) (st' := []) rfl rfl trivial ⟨.inl rfl, trivial⟩), he⟩
                · have he := ok_f he hb
                  have he := ok_some he
                  exact ⟨rfl, _, _, (leads_ren [] (l := [(4, .c (.bool false))]) (st' := []) rfl rfl trivial ⟨.inr rfl, trivial⟩), he⟩
              · skip
                refine loop_model mixed tys_ok t_laws_FnSplitCubes (S := Int × Int × (List (List Int))) (I := (fun (i, i1, i2) => (envOf [(5, .c (.own 10000000)), (7, .c (.own 10000001)), (8, .c (.own 10000002)), (12, .c (.int .i64 i)), (13, .c (.int .i64 i1))], [(10000000, .sl 3 (.int .i64) r1_ .shallow), (10000001, .sl 4 .bool r2_.2 .shallow), (10000002, .sl 22 (.sl (.int .i64)) i2 (.deep true .no))]))) (f := laws_FnSplitCubes_l1 r1_ r2_) (K := (fun r => k (.c (.bool r)) [])) he (leads_ren [(10000000, 24900), (10000001, 27901), (10000002, 32900)] (l := [(5, .c (.own 10000000)), (7, .c (.own 10000001)), (8, .c (.own 10000002)), (12, .c (.int .i64 (0:Int))), (13, .c (.int .i64 (0:Int)))]) (st' := [(10000000, .sl 3 (.int .i64) r1_ .shallow), (10000001, .sl 4 .bool r2_.2 .shallow), (10000002, .sl 22 (.sl (.int .i64)) r3_.2 (.deep true .no))]) rfl rfl ⟨⟨rfl, rfl⟩, ⟨rfl, rfl⟩, ⟨rfl, rfl⟩, trivial⟩ ⟨⟨rfl, rfl⟩, ⟨rfl, rfl⟩, ⟨rfl, rfl⟩, rfl, rfl, trivial⟩) ?_
                rintro ⟨i, i1, i2⟩ J1 he
                refine And.intro (fun hb => ?_) (fun hb => ?_)
                · have he := ok_t he hb
                  have he := ok_rq he
                  refine And.intro he.1 ?_
                  have he := he.2
                  obtain ⟨r11_, hr, he⟩ := ok_bind he
                  refine ⟨r11_, hr, ?_⟩
                  refine And.intro (fun hb => ?_) (fun hb => ?_)
                  · have he := ok_t he hb
                    have he := ok_rq he
                    refine And.intro he.1 ?_
                    have he := he.2
                    have he := ok_rq he
                    refine And.intro he.1 ?_
                    have he := he.2
                    have he := ok_some he
                    exact ⟨((i + (1:Int)), (i1 + (1:Int)), (i2.set i1.toNat (i2.getD i1.toNat []))), he, ((leads_close [10000002] rfl).trans (leads_ren [] (l := [(5, .c (.own 10000000)), (7, .c (.own 10000001)), (8, .c (.own 10000002)), (12, .c (.int .i64 (i + (1:Int)))), (13, .c (.int .i64 (i1 + (1:Int))))]) (st' := [(10000000, .sl 3 (.int .i64) r1_ .shallow), (10000001, .sl 4 .bool r2_.2 .shallow), (10000002, .sl 22 (.sl (.int .i64)) (i2.set i1.toNat (i2.getD i1.toNat [])) (.deep true .no))]) rfl rfl ⟨⟨rfl, rfl⟩, ⟨rfl, rfl⟩, ⟨rfl, rfl⟩, trivial⟩ ⟨⟨rfl, rfl⟩, ⟨rfl, rfl⟩, ⟨rfl, rfl⟩, rfl, rfl, trivial⟩))⟩
                  · have he := ok_f he hb
                    have he := ok_rq he
                    refine And.intro he.1 ?_
                    have he := he.2
                    have he := ok_some he
                    exact ⟨(i, (i1 + (1:Int)), (i2.set i1.toNat (i2.getD i1.toNat []))), he, ((leads_close [10000002] rfl).trans (leads_ren [] (l := [(5, .c (.own 10000000)), (7, .c (.own 10000001)), (8, .c (.own 10000002)), (12, .c (.int .i64 i)), (13, .c (.int .i64 (i1 + (1:Int))))]) (st' := [(10000000, .sl 3 (.int .i64) r1_ .shallow), (10000001, .sl 4 .bool r2_.2 .shallow), (10000002, .sl 22 (.sl (.int .i64)) (i2.set i1.toNat (i2.getD i1.toNat [])) (.deep true .no))]) rfl rfl ⟨⟨rfl, rfl⟩, ⟨rfl, rfl⟩, ⟨rfl, rfl⟩, trivial⟩ ⟨⟨rfl, rfl⟩, ⟨rfl, rfl⟩, ⟨rfl, rfl⟩, rfl, rfl, trivial⟩))⟩
                · have he := ok_f he hb
                  exact ⟨(i, i2), ok_up he, (leads_ren [(10001000, 10000000), (10001001, 10000002)] (l := [(5, .c (.own 10001000)), (8, .c (.own 10001001)), (12, .c (.int .i64 i))]) (st' := [(10001000, .sl 3 (.int .i64) r1_ .shallow), (10001001, .sl 22 (.sl (.int .i64)) i2 (.deep true .no))]) rfl rfl ⟨⟨rfl, rfl⟩, ⟨rfl, rfl⟩, trivial⟩ ⟨⟨rfl, rfl⟩, ⟨rfl, rfl⟩, rfl, trivial⟩)⟩
          · have he := ok_t he hb
            refine And.intro (fun hb => ?_) (fun hb => ?_)
            · have he := ok_t he hb
              obtain ⟨r7_, hr, he⟩ := ok_bind he
              refine ⟨r7_, hr, ?_⟩
              have he := ok_some he
              exact ⟨rfl, _, _, (leads_ren [] (l := [(4, .c (.bool r7_))]) (st' := []) rfl rfl trivial ⟨.inl rfl, trivial⟩), he⟩
            · have he := ok_f he hb
              have he := ok_some he
              exact ⟨rfl, _, _, (leads_ren [] (l := [(4, .c (.bool false))]) (st' := []) rfl rfl trivial ⟨.inr rfl, trivial⟩), he⟩
        · have he := ok_t he hb
          refine And.intro (fun hb => ?_) (fun hb => ?_)
          · have he := ok_t he hb
            obtain ⟨r8_, hr, he⟩ := ok_bind he
            refine ⟨r8_, hr, ?_⟩
            have he := ok_some he
            exact ⟨rfl, _, _, (leads_ren [] (l := [(4, .c (.bool r8_))]) (st' := []) rfl rfl trivial ⟨.inl rfl, trivial⟩), he⟩
          · have he := ok_f he hb
            have he := ok_some he
            exact ⟨rfl, _, _, (leads_ren [] (l := [(4, .c (.bool false))]) (st' := []) rfl rfl trivial ⟨.inr rfl, trivial⟩), he⟩
      · have he := ok_t he hb
        refine And.intro (fun hb => ?_) (fun hb => ?_)
        · have he := ok_t he hb
          obtain ⟨r9_, hr, he⟩ := ok_bind he
          refine ⟨r9_, hr, ?_⟩
          have he := ok_some he
          exact ⟨rfl, _, _, (leads_ren [] (l := [(4, .c (.bool r9_))]) (st' := []) rfl rfl trivial ⟨.inl rfl, trivial⟩), he⟩
        · have he := ok_f he hb
          have he := ok_some he
          exact ⟨rfl, _, _, (leads_ren [] (l := [(4, .c (.bool false))]) (st' := []) rfl rfl trivial ⟨.inr rfl, trivial⟩), he⟩
  · have he := ok_t he hb
    have he := ok_some he
    exact ⟨rfl, _, _, Leads.refl _ _, he⟩

noncomputable def c_spec_l1Total : Con := fun args st => match args, st with
  | [.agg [.imm (.pair (.int .i64) (.int .i64)) c__0, .int .i64 c__1]], [] => .opt (Int) (spec_l1Total (c__0, c__1)) (fun r => .ret (.c (.int .i64 r)) [])
  | _, _ => .fail

noncomputable def C_spec_l1Total : Cfg := { y := tys, n := 21, h := 0, tab := [], cut := [], hand := [], good := [], deep := [], sched := [] }

theorem t_spec_l1Total : TabOk Try.prog C_spec_l1Total := tabOk_of (fun p h => by cases h)

theorem k_spec_l1Total : Entry Try.prog 115 c_spec_l1Total := by
  refine entry_by (C := C_spec_l1Total) mixed tys_ok t_spec_l1Total (fn := Try.f115) (c := bd Try.f115) (by kernel_rfl) (by kernel_rfl) (by kernel_rfl) (by kernel_rfl) ?_
  intro args st k he
  unfold c_spec_l1Total at he
  split at he
  rotate_left
  · exact he.elim
  rename_i c__0 c__1
  have he : Ok (spec_l1Total (c__0, c__1)) (fun r => k (.c (.int .i64 r)) []) := he
  refine ⟨rfl, rfl, ?_⟩
  refine loop_model mixed tys_ok t_spec_l1Total (S := Int × Int) (I := (fun (n, i) => (envOf [(1, .c (.ptr 10000000 0)), (3, .c (.int .i64 n)), (4, .c (.int .i64 i))], [(10000000, .rc [.imm (.pair (.int .i64) (.int .i64)) (c__0, c__1).1, .int .i64 (c__0, c__1).2])]))) (f := spec_l1Total_l1 (c__0, c__1)) (K := (fun r => k (.c (.int .i64 r)) [])) he (leads_ren [(10000000, 1)] (l := [(1, .c (.ptr 10000000 0)), (3, .c (.int .i64 (0:Int))), (4, .c (.int .i64 (0:Int)))]) (st' := [(10000000, .rc [.imm (.pair (.int .i64) (.int .i64)) (c__0, c__1).1, .int .i64 (c__0, c__1).2])]) rfl rfl ⟨⟨.inl rfl, rfl, trivial⟩, trivial⟩ ⟨⟨⟨rfl, rfl⟩, rfl⟩, rfl, rfl, trivial⟩) ?_
  rintro ⟨n, i⟩ J1 he
  refine And.intro (fun hb => ?_) (fun hb => ?_)
  · have he := ok_t he hb
    have he := ok_rq he
    refine And.intro he.1 ?_
    have he := he.2
    have he := ok_rq he
    refine And.intro he.1 ?_
    have he := he.2
    have he := ok_rq he
    refine And.intro he.1 ?_
    have he := he.2
    have he := ok_some he
    exact ⟨((n + ((c__0, c__1).1.getD i.toNat (0, 0)).1), (i + (1:Int))), he, (leads_ren [] (l := [(1, .c (.ptr 10000000 0)), (3, .c (.int .i64 (n + ((c__0, c__1).1.getD i.toNat (0, 0)).1))), (4, .c (.int .i64 (i + (1:Int))))]) (st' := [(10000000, .rc [.imm (.pair (.int .i64) (.int .i64)) (c__0, c__1).1, .int .i64 (c__0, c__1).2])]) rfl rfl ⟨⟨.inl rfl, rfl, trivial⟩, trivial⟩ ⟨⟨⟨rfl, rfl⟩, rfl⟩, rfl, rfl, trivial⟩)⟩
  · have he := ok_f he hb
    have he := ok_some he
    exact ⟨rfl, _, _, (leads_ren [] (l := [(2, .c (.int .i64 n))]) (st' := []) rfl rfl trivial ⟨rfl, trivial⟩), he⟩

noncomputable def c_spec_l1Draw : Con := fun args st => match args, st with
  | [.c (.ptr 0 0), .c (.int .i64 most)], [(0, .rc [.imm (.int .u8) r__0, .int .i64 r__1])] => .opt (((List Int) × Int) × Int × (List (Int × Int))) (spec_l1Draw most (r__0, r__1)) (fun r => .ret (.agg [.own 901, .int .i64 r.2.1]) [(0, .rc [.imm (.int .u8) r.1.1, .int .i64 r.1.2]), (900, .rc [.own 901, .int .i64 r.2.1]), (901, .sl 93 (.pair (.int .i64) (.int .i64)) r.2.2 .shallow)])
  | _, _ => .fail

noncomputable def C_spec_l1Draw : Cfg := { y := tys, n := 50, h := 1, tab := [(68, c_spec_l17Rd_pick), (83, c_spec_l17Rd_num), (115, c_spec_l1Total)], cut := [9, 10], hand := [], good := [], deep := [], sched := [] }

theorem t_spec_l1Draw : TabOk Try.prog C_spec_l1Draw := by
  refine tabOk_of ?_
  simp only [C_spec_l1Draw, List.forall_mem_cons]
  exact ⟨k_spec_l17Rd_pick, k_spec_l17Rd_num, k_spec_l1Total, fun p h => by cases h⟩

theorem k_spec_l1Draw : Entry Try.prog 111 c_spec_l1Draw := by
  refine entry_by (C := C_spec_l1Draw) mixed tys_ok t_spec_l1Draw (fn := Try.f111) (c := bd Try.f111) (by kernel_rfl) (by kernel_rfl) (by kernel_rfl) (by kernel_rfl) ?_
  intro args st k he
  unfold c_spec_l1Draw at he
  split at he
  rotate_left
  · exact he.elim
  rename_i most r__0 r__1
  have he : Ok (spec_l1Draw most (r__0, r__1)) (fun r => k (.agg [.own 901, .int .i64 r.2.1]) [(0, .rc [.imm (.int .u8) r.1.1, .int .i64 r.1.2]), (900, .rc [.own 901, .int .i64 r.2.1]), (901, .sl 93 (.pair (.int .i64) (.int .i64)) r.2.2 .shallow)]) := he
  refine ⟨rfl, rfl, ?_⟩
  refine seq_model mixed tys_ok t_spec_l1Draw (S := ((List Int) × Int) × (List (Int × Int))) (I := (fun (r_4, c_01) => (envOf [(0, .c (.ptr 0 0)), (4, .c (.ptr 10003000 0)), (5, .c (.ptr 10003001 0))], [(0, .rc [.imm (.int .u8) r_4.1, .int .i64 r_4.2]), (10003000, .rc [.nil, .int .i64 (0:Int)]), (10003001, .rc [.own 10003002, .int .i64 (0:Int)]), (10003002, .sl 93 (.pair (.int .i64) (.int .i64)) c_01 .shallow)]))) (B := fun s => Ok (spec_l1Draw_j1 s) (fun r => k (.agg [.own 901, .int .i64 r.2.1]) [(0, .rc [.imm (.int .u8) r.1.1, .int .i64 r.1.2]), (900, .rc [.own 901, .int .i64 r.2.1]), (901, .sl 93 (.pair (.int .i64) (.int .i64)) r.2.2 .shallow)])) ?_ ?_
  · rintro ⟨r_4, c_01⟩ he
    obtain ⟨r7_, hr, he⟩ := ok_bind he
    refine ⟨r7_, hr, ?_⟩
    obtain ⟨r8_, hr, he⟩ := ok_bind he
    refine ⟨r8_, hr, ?_⟩
    obtain ⟨r9_, hr, he⟩ := ok_bind he
    refine ⟨r9_, hr, ?_⟩
    refine And.intro (fun hb => ?_) (fun hb => ?_)
    · have he := ok_t he hb
      have he := ok_rq he
      refine And.intro he.1 ?_
      have he := he.2
      obtain ⟨r10_, hr, he⟩ := ok_bind he
      refine ⟨r10_, hr, ?_⟩
      have he := ok_some he
      exact ⟨rfl, _, _, (leads_ren [(900, 10003000), (901, 10003002)] (l := [(4, .c (.ptr 900 0))]) (st' := [(0, .rc [.imm (.int .u8) r10_.2.1, .int .i64 r10_.2.2]), (900, .rc [.own 901, .int .i64 r10_.1]), (901, .sl 93 (.pair (.int .i64) (.int .i64)) c_01 .shallow)]) rfl rfl ⟨⟨.inl rfl, rfl, trivial⟩, ⟨⟨rfl, rfl⟩, rfl, trivial⟩, ⟨rfl, rfl⟩, trivial⟩ ⟨⟨⟨rfl, rfl⟩, rfl⟩, trivial⟩), he⟩
    · have he := ok_f he hb
      have he := ok_some he
      exact ⟨rfl, _, _, (leads_ren [(900, 10003000), (901, 10003002)] (l := [(4, .c (.ptr 900 0))]) (st' := [(0, .rc [.imm (.int .u8) r9_.2.1, .int .i64 r9_.2.2]), (900, .rc [.own 901, .int .i64 r8_.1]), (901, .sl 93 (.pair (.int .i64) (.int .i64)) c_01 .shallow)]) rfl rfl ⟨⟨.inl rfl, rfl, trivial⟩, ⟨⟨rfl, rfl⟩, rfl, trivial⟩, ⟨rfl, rfl⟩, trivial⟩ ⟨⟨⟨rfl, rfl⟩, rfl⟩, trivial⟩), he⟩
  · skip
    refine loop_model mixed tys_ok t_spec_l1Draw (S := Int × ((List Int) × Int) × (List (Int × Int))) (I := (fun (v, r_2, c_0) => (envOf [(0, .c (.ptr 0 0)), (1, .c (.int .i64 most)), (4, .c (.ptr 10000000 0)), (5, .c (.ptr 10000001 0)), (6, .c (.int .i64 v))], [(0, .rc [.imm (.int .u8) r_2.1, .int .i64 r_2.2]), (10000000, .rc [.nil, .int .i64 (0:Int)]), (10000001, .rc [.own 10000002, .int .i64 (0:Int)]), (10000002, .sl 93 (.pair (.int .i64) (.int .i64)) c_0 .shallow)]))) (f := spec_l1Draw_l1 most) (K := (fun r => k (.agg [.own 901, .int .i64 r.2.1]) [(0, .rc [.imm (.int .u8) r.1.1, .int .i64 r.1.2]), (900, .rc [.own 901, .int .i64 r.2.1]), (901, .sl 93 (.pair (.int .i64) (.int .i64)) r.2.2 .shallow)])) he (leads_ren [(10000000, 4), (10000001, 5)] (l := [(0, .c (.ptr 0 0)), (1, .c (.int .i64 most)), (4, .c (.ptr 10000000 0)), (5, .c (.ptr 10000001 0)), (6, .c (.int .i64 (1:Int)))]) (st' := [(0, .rc [.imm (.int .u8) (r__0, r__1).1, .int .i64 (r__0, r__1).2]), (10000000, .rc [.nil, .int .i64 (0:Int)]), (10000001, .rc [.own 10000002, .int .i64 (0:Int)]), (10000002, .sl 93 (.pair (.int .i64) (.int .i64)) ([] : List (Int × Int)) .shallow)]) rfl rfl ⟨⟨.inl rfl, rfl, trivial⟩, ⟨rfl, rfl, trivial⟩, ⟨⟨rfl, trivial⟩, rfl, trivial⟩, trivial, trivial⟩ ⟨⟨⟨rfl, rfl⟩, rfl⟩, rfl, ⟨⟨rfl, rfl⟩, rfl⟩, ⟨⟨rfl, rfl⟩, rfl⟩, rfl, trivial⟩) ?_
    rintro ⟨v, r_2, c_0⟩ J1 he
    refine And.intro (fun hb => ?_) (fun hb => ?_)
    · have he := ok_t he hb
      obtain ⟨r4_, hr, he⟩ := ok_bind he
      refine ⟨r4_, hr, ?_⟩
      refine And.intro (fun hb => ?_) (fun hb => ?_)
      · have he := ok_t he hb
        obtain ⟨r5_, hr, he⟩ := ok_bind he
        refine ⟨r5_, hr, ?_⟩
        refine seq_model mixed tys_ok t_spec_l1Draw (S := ((List Int) × Int) × (Int × Int)) (I := (fun (r_3, t_1) => (envOf [(0, .c (.ptr 0 0)), (1, .c (.int .i64 most)), (4, .c (.ptr 10002000 0)), (5, .c (.ptr 10002001 0)), (6, .c (.int .i64 v)), (7, .c (.ptr 10002002 0))], [(0, .rc [.imm (.int .u8) r_3.1, .int .i64 r_3.2]), (10002000, .rc [.nil, .int .i64 (0:Int)]), (10002001, .rc [.own 10002003, .int .i64 (0:Int)]), (10002002, .rc [.int .i64 t_1.1, .int .i64 t_1.2]), (10002003, .sl 93 (.pair (.int .i64) (.int .i64)) c_0 .shallow)]))) (B := fun s => Ok (spec_l1Draw_j2 v c_0 s) (LK J1 (fun r => k (.agg [.own 901, .int .i64 r.2.1]) [(0, .rc [.imm (.int .u8) r.1.1, .int .i64 r.1.2]), (900, .rc [.own 901, .int .i64 r.2.1]), (901, .sl 93 (.pair (.int .i64) (.int .i64)) r.2.2 .shallow)]))) ?_ ?_
        · rintro ⟨r_3, t_1⟩ he
          have he := ok_rq he
          refine And.intro he.1 ?_
          have he := he.2
          have he := ok_rq he
          refine And.intro he.1 ?_
          have he := he.2
          have he := ok_some he
          exact ⟨((v + (1:Int)), r_3, (c_0 ++ [t_1])), he, (leads_ren [(10000000, 10002000), (10000001, 10002001), (10000002, 33)] (l := [(0, .c (.ptr 0 0)), (1, .c (.int .i64 most)), (4, .c (.ptr 10000000 0)), (5, .c (.ptr 10000001 0)), (6, .c (.int .i64 (v + (1:Int))))]) (st' := [(0, .rc [.imm (.int .u8) r_3.1, .int .i64 r_3.2]), (10000000, .rc [.nil, .int .i64 (0:Int)]), (10000001, .rc [.own 10000002, .int .i64 (0:Int)]), (10000002, .sl 93 (.pair (.int .i64) (.int .i64)) (c_0 ++ [t_1]) .shallow)]) rfl rfl ⟨⟨.inl rfl, rfl, trivial⟩, ⟨rfl, rfl, trivial⟩, ⟨⟨rfl, rfl⟩, rfl, trivial⟩, ⟨rfl, rfl⟩, trivial⟩ ⟨⟨⟨rfl, rfl⟩, rfl⟩, rfl, ⟨⟨rfl, rfl⟩, rfl⟩, ⟨⟨rfl, rfl⟩, rfl⟩, rfl, trivial⟩)⟩
        · skip
          obtain ⟨r6_, hr, he⟩ := ok_bind he
          refine ⟨r6_, hr, ?_⟩
          refine And.intro (fun hb => ?_) (fun hb => ?_)
          · have he := ok_t he hb
            have he := ok_rq he
            refine And.intro he.1 ?_
            have he := he.2
            exact ⟨(r6_.2, (r5_.1, (0 - v))), he, (leads_ren [(10002000, 10000000), (10002001, 10000001), (10002002, 7), (10002003, 10000002)] (l := [(0, .c (.ptr 0 0)), (1, .c (.int .i64 most)), (4, .c (.ptr 10002000 0)), (5, .c (.ptr 10002001 0)), (6, .c (.int .i64 v)), (7, .c (.ptr 10002002 0))]) (st' := [(0, .rc [.imm (.int .u8) r6_.2.1, .int .i64 r6_.2.2]), (10002000, .rc [.nil, .int .i64 (0:Int)]), (10002001, .rc [.own 10002003, .int .i64 (0:Int)]), (10002002, .rc [.int .i64 (r5_.1, (0 - v)).1, .int .i64 (r5_.1, (0 - v)).2]), (10002003, .sl 93 (.pair (.int .i64) (.int .i64)) c_0 .shallow)]) rfl rfl ⟨⟨.inl rfl, rfl, trivial⟩, ⟨rfl, rfl, trivial⟩, ⟨⟨rfl, rfl⟩, rfl, trivial⟩, ⟨rfl, rfl, trivial⟩, ⟨rfl, rfl⟩, trivial⟩ ⟨⟨⟨rfl, rfl⟩, rfl⟩, rfl, ⟨⟨rfl, rfl⟩, rfl⟩, ⟨⟨rfl, rfl⟩, rfl⟩, rfl, ⟨⟨rfl, rfl⟩, rfl⟩, trivial⟩)⟩
          · have he := ok_f he hb
            exact ⟨(r6_.2, (r5_.1, v)), he, (leads_ren [(10002000, 10000000), (10002001, 10000001), (10002002, 7), (10002003, 10000002)] (l := [(0, .c (.ptr 0 0)), (1, .c (.int .i64 most)), (4, .c (.ptr 10002000 0)), (5, .c (.ptr 10002001 0)), (6, .c (.int .i64 v)), (7, .c (.ptr 10002002 0))]) (st' := [(0, .rc [.imm (.int .u8) r6_.2.1, .int .i64 r6_.2.2]), (10002000, .rc [.nil, .int .i64 (0:Int)]), (10002001, .rc [.own 10002003, .int .i64 (0:Int)]), (10002002, .rc [.int .i64 (r5_.1, v).1, .int .i64 (r5_.1, v).2]), (10002003, .sl 93 (.pair (.int .i64) (.int .i64)) c_0 .shallow)]) rfl rfl ⟨⟨.inl rfl, rfl, trivial⟩, ⟨rfl, rfl, trivial⟩, ⟨⟨rfl, rfl⟩, rfl, trivial⟩, ⟨rfl, rfl, trivial⟩, ⟨rfl, rfl⟩, trivial⟩ ⟨⟨⟨rfl, rfl⟩, rfl⟩, rfl, ⟨⟨rfl, rfl⟩, rfl⟩, ⟨⟨rfl, rfl⟩, rfl⟩, rfl, ⟨⟨rfl, rfl⟩, rfl⟩, trivial⟩)⟩
      · have he := ok_f he hb
        have he := ok_rq he
        refine And.intro he.1 ?_
        have he := he.2
        have he := ok_some he
        exact ⟨((v + (1:Int)), r4_.2, c_0), he, (leads_ren [] (l := [(0, .c (.ptr 0 0)), (1, .c (.int .i64 most)), (4, .c (.ptr 10000000 0)), (5, .c (.ptr 10000001 0)), (6, .c (.int .i64 (v + (1:Int))))]) (st' := [(0, .rc [.imm (.int .u8) r4_.2.1, .int .i64 r4_.2.2]), (10000000, .rc [.nil, .int .i64 (0:Int)]), (10000001, .rc [.own 10000002, .int .i64 (0:Int)]), (10000002, .sl 93 (.pair (.int .i64) (.int .i64)) c_0 .shallow)]) rfl rfl ⟨⟨.inl rfl, rfl, trivial⟩, ⟨rfl, rfl, trivial⟩, ⟨⟨rfl, rfl⟩, rfl, trivial⟩, ⟨rfl, rfl⟩, trivial⟩ ⟨⟨⟨rfl, rfl⟩, rfl⟩, rfl, ⟨⟨rfl, rfl⟩, rfl⟩, ⟨⟨rfl, rfl⟩, rfl⟩, rfl, trivial⟩)⟩
    · have he := ok_f he hb
      exact ⟨(r_2, c_0), ok_up he, (leads_ren [(10003000, 10000000), (10003001, 10000001), (10003002, 10000002)] (l := [(0, .c (.ptr 0 0)), (4, .c (.ptr 10003000 0)), (5, .c (.ptr 10003001 0))]) (st' := [(0, .rc [.imm (.int .u8) r_2.1, .int .i64 r_2.2]), (10003000, .rc [.nil, .int .i64 (0:Int)]), (10003001, .rc [.own 10003002, .int .i64 (0:Int)]), (10003002, .sl 93 (.pair (.int .i64) (.int .i64)) c_0 .shallow)]) rfl rfl ⟨⟨.inl rfl, rfl, trivial⟩, ⟨rfl, rfl, trivial⟩, ⟨⟨rfl, rfl⟩, rfl, trivial⟩, ⟨rfl, rfl⟩, trivial⟩ ⟨⟨⟨rfl, rfl⟩, rfl⟩, ⟨⟨rfl, rfl⟩, rfl⟩, ⟨⟨rfl, rfl⟩, rfl⟩, trivial⟩)⟩

noncomputable def c_spec_l3Problem : Con := fun args st => match args, st with
  | [.c (.ptr 0 0)], [(0, .rc [.imm (.int .u8) r__0, .int .i64 r__1])] => .opt (((List Int) × Int) × (List ((List (Int × Int)) × Int))) (spec_l3Problem (r__0, r__1)) (fun r => .ret (.c (.own 900)) [(0, .rc [.imm (.int .u8) r.1.1, .int .i64 r.1.2]), (900, .sl 81 (.pair (.sl (.pair (.int .i64) (.int .i64))) (.int .i64)) r.2 (.deep true .no))])
  | _, _ => .fail

noncomputable def C_spec_l3Problem : Cfg := { y := tys, n := 24, h := 1, tab := [(83, c_spec_l17Rd_num), (111, c_spec_l1Draw)], cut := [], hand := [], good := [], deep := [6, 21], sched := [] }

theorem t_spec_l3Problem : TabOk Try.prog C_spec_l3Problem := by
  refine tabOk_of ?_
  simp only [C_spec_l3Problem, List.forall_mem_cons]
  exact ⟨k_spec_l17Rd_num, k_spec_l1Draw, fun p h => by cases h⟩

theorem k_spec_l3Problem : Entry Try.prog 82 c_spec_l3Problem := by
  refine entry_by (C := C_spec_l3Problem) mixed tys_ok t_spec_l3Problem (fn := Try.f82) (c := bd Try.f82) (by kernel_rfl) (by kernel_rfl) (by kernel_rfl) (by kernel_rfl) ?_
  intro args st k he
  unfold c_spec_l3Problem at he
  split at he
  rotate_left
  · exact he.elim
  rename_i r__0 r__1
  have he : Ok (spec_l3Problem (r__0, r__1)) (fun r => k (.c (.own 900)) [(0, .rc [.imm (.int .u8) r.1.1, .int .i64 r.1.2]), (900, .sl 81 (.pair (.sl (.pair (.int .i64) (.int .i64))) (.int .i64)) r.2 (.deep true .no))]) := he
  refine ⟨rfl, rfl, ?_⟩
  obtain ⟨r1_, hr, he⟩ := ok_bind he
  refine ⟨r1_, hr, ?_⟩
  obtain ⟨r2_, hr, he⟩ := ok_bind he
  refine ⟨r2_, hr, ?_⟩
  refine loop_model mixed tys_ok t_spec_l3Problem (S := Int × ((List Int) × Int) × (List ((List (Int × Int)) × Int))) (I := (fun (i, r_1, out) => (envOf [(0, .c (.ptr 0 0)), (3, .c (.own 10000000)), (4, .c (.int .i64 r1_.1)), (5, .c (.int .i64 i))], [(0, .rc [.imm (.int .u8) r_1.1, .int .i64 r_1.2]), (10000000, .sl 81 (.pair (.sl (.pair (.int .i64) (.int .i64))) (.int .i64)) out (.deep true .no))]))) (f := spec_l3Problem_l1 r1_) (K := (fun r => k (.c (.own 900)) [(0, .rc [.imm (.int .u8) r.1.1, .int .i64 r.1.2]), (900, .sl 81 (.pair (.sl (.pair (.int .i64) (.int .i64))) (.int .i64)) r.2 (.deep true .no))])) he (leads_ren [(10000000, 6)] (l := [(0, .c (.ptr 0 0)), (3, .c (.own 10000000)), (4, .c (.int .i64 r1_.1)), (5, .c (.int .i64 r2_.1))]) (st' := [(0, .rc [.imm (.int .u8) r2_.2.1, .int .i64 r2_.2.2]), (10000000, .sl 81 (.pair (.sl (.pair (.int .i64) (.int .i64))) (.int .i64)) ([] : List ((List (Int × Int)) × Int)) (.deep true .no))]) rfl rfl ⟨⟨.inl rfl, rfl, trivial⟩, ⟨rfl, rfl⟩, trivial⟩ ⟨⟨⟨rfl, rfl⟩, rfl⟩, ⟨rfl, rfl⟩, rfl, rfl, trivial⟩) ?_
  rintro ⟨i, r_1, out⟩ J1 he
  refine And.intro (fun hb => ?_) (fun hb => ?_)
  · have he := ok_t he hb
    obtain ⟨r4_, hr, he⟩ := ok_bind he
    refine ⟨r4_, hr, ?_⟩
    have he := ok_rq he
    refine And.intro he.1 ?_
    have he := he.2
    have he := ok_rq he
    refine And.intro he.1 ?_
    have he := he.2
    have he := ok_some he
    exact ⟨((i - (1:Int)), r4_.1, (out ++ [(r4_.2.2, r4_.2.1)])), he, (leads_ren [(10000000, 22)] (l := [(0, .c (.ptr 0 0)), (3, .c (.own 10000000)), (4, .c (.int .i64 r1_.1)), (5, .c (.int .i64 (i - (1:Int))))]) (st' := [(0, .rc [.imm (.int .u8) r4_.1.1, .int .i64 r4_.1.2]), (10000000, .sl 81 (.pair (.sl (.pair (.int .i64) (.int .i64))) (.int .i64)) (out ++ [(r4_.2.2, r4_.2.1)]) (.deep true .no))]) rfl rfl ⟨⟨.inl rfl, rfl, trivial⟩, ⟨rfl, rfl⟩, trivial⟩ ⟨⟨⟨rfl, rfl⟩, rfl⟩, ⟨rfl, rfl⟩, rfl, rfl, trivial⟩)⟩
  · have he := ok_f he hb
    have he := ok_some he
    exact ⟨rfl, _, _, (leads_ren [(900, 10000000)] (l := [(2, .c (.own 900))]) (st' := [(0, .rc [.imm (.int .u8) r_1.1, .int .i64 r_1.2]), (900, .sl 81 (.pair (.sl (.pair (.int .i64) (.int .i64))) (.int .i64)) out (.deep true .no))]) rfl rfl ⟨⟨.inl rfl, rfl, trivial⟩, ⟨rfl, rfl⟩, trivial⟩ ⟨⟨rfl, rfl⟩, trivial⟩), he⟩

noncomputable def c_spec_l1Copy : Con := fun args st => match args, st with
  | [.agg [.imm (.pair (.int .i64) (.int .i64)) c__0, .int .i64 c__1]], [] => .opt (Int × (List (Int × Int))) (spec_l1Copy (c__0, c__1)) (fun r => .ret (.agg [.own 901, .int .i64 r.1]) [(900, .rc [.own 901, .int .i64 r.1]), (901, .sl 93 (.pair (.int .i64) (.int .i64)) r.2 .shallow)])
  | _, _ => .fail

noncomputable def C_spec_l1Copy : Cfg := { y := tys, n := 10, h := 0, tab := [], cut := [], hand := [], good := [], deep := [], sched := [(1, (.first 1 (.first 4 (.alt 0 (.alt 2 (.alt 3 (.alt 5 (.alt 6 (.alt 7 .done .stop) .stop) .stop) (.alt 5 (.alt 3 (.alt 6 (.alt 7 .done .stop) .stop) .stop) .stop)) (.alt 5 (.alt 2 (.alt 3 (.alt 6 (.alt 7 .done .stop) .stop) .stop) .stop) .stop)) (.alt 2 (.alt 0 (.alt 3 (.alt 5 (.alt 6 (.alt 7 .done .stop) .stop) .stop) (.alt 5 (.alt 3 (.alt 6 (.alt 7 .done .stop) .stop) .stop) .stop)) (.alt 5 (.alt 0 (.alt 3 (.alt 6 (.alt 7 .done .stop) .stop) .stop) .stop) .stop)) (.alt 5 (.alt 0 (.alt 2 (.alt 3 (.alt 6 (.alt 7 .done .stop) .stop) .stop) .stop) (.alt 2 (.alt 0 (.alt 3 (.alt 6 (.alt 7 .done .stop) .stop) .stop) .stop) .stop)) .stop))))))] }

theorem t_spec_l1Copy : TabOk Try.prog C_spec_l1Copy := tabOk_of (fun p h => by cases h)

theorem k_spec_l1Copy : Entry Try.prog 113 c_spec_l1Copy := by
  refine entry_by (C := C_spec_l1Copy) mixed tys_ok t_spec_l1Copy (fn := Try.f113) (c := bd Try.f113) (by kernel_rfl) (by kernel_rfl) (by kernel_rfl) (by kernel_rfl) ?_
  intro args st k he
  unfold c_spec_l1Copy at he
  split at he
  rotate_left
  · exact he.elim
  rename_i c__0 c__1
  have he : Ok (spec_l1Copy (c__0, c__1)) (fun r => k (.agg [.own 901, .int .i64 r.1]) [(900, .rc [.own 901, .int .i64 r.1]), (901, .sl 93 (.pair (.int .i64) (.int .i64)) r.2 .shallow)]) := he
  refine ⟨rfl, rfl, ?_⟩
  refine And.intro (by kernel_rfl) ?_
  have he := ok_rq he
  have hq1 := he.1
  have he := he.2
  refine And.intro ?_ (And.intro ?_ (And.intro ?_ (trivial)))
  · skip
    refine And.intro ?_ (And.intro ?_ (trivial))
    · skip
      refine And.intro ?_ (And.intro ?_ (trivial))
      · skip
        refine And.intro hq1 ?_
        refine And.intro ?_ trivial
        refine And.intro ?_ trivial
        refine And.intro ?_ trivial
        have he := ok_some he
        exact ⟨rfl, _, _, (leads_ren [(900, 2), (901, 6)] (l := [(2, .c (.ptr 900 0))]) (st' := [(900, .rc [.own 901, .int .i64 (c__0, c__1).2]), (901, .sl 93 (.pair (.int .i64) (.int .i64)) (([] : List (Int × Int)) ++ (c__0, c__1).1) .shallow)]) rfl rfl ⟨⟨⟨rfl, rfl⟩, rfl, trivial⟩, ⟨rfl, rfl⟩, trivial⟩ ⟨⟨⟨rfl, rfl⟩, rfl⟩, trivial⟩), he⟩
      · skip
        refine And.intro ?_ trivial
        refine And.intro hq1 ?_
        refine And.intro ?_ trivial
        refine And.intro ?_ trivial
        have he := ok_some he
        exact ⟨rfl, _, _, (leads_ren [(900, 2), (901, 6)] (l := [(2, .c (.ptr 900 0))]) (st' := [(900, .rc [.own 901, .int .i64 (c__0, c__1).2]), (901, .sl 93 (.pair (.int .i64) (.int .i64)) (([] : List (Int × Int)) ++ (c__0, c__1).1) .shallow)]) rfl rfl ⟨⟨⟨rfl, rfl⟩, rfl, trivial⟩, ⟨rfl, rfl⟩, trivial⟩ ⟨⟨⟨rfl, rfl⟩, rfl⟩, trivial⟩), he⟩
    · skip
      refine And.intro ?_ trivial
      refine And.intro ?_ trivial
      refine And.intro hq1 ?_
      refine And.intro ?_ trivial
      refine And.intro ?_ trivial
      have he := ok_some he
      exact ⟨rfl, _, _, (leads_ren [(900, 2), (901, 6)] (l := [(2, .c (.ptr 900 0))]) (st' := [(900, .rc [.own 901, .int .i64 (c__0, c__1).2]), (901, .sl 93 (.pair (.int .i64) (.int .i64)) (([] : List (Int × Int)) ++ (c__0, c__1).1) .shallow)]) rfl rfl ⟨⟨⟨rfl, rfl⟩, rfl, trivial⟩, ⟨rfl, rfl⟩, trivial⟩ ⟨⟨⟨rfl, rfl⟩, rfl⟩, trivial⟩), he⟩
  · skip
    refine And.intro ?_ (And.intro ?_ (trivial))
    · skip
      refine And.intro ?_ (And.intro ?_ (trivial))
      · skip
        refine And.intro hq1 ?_
        refine And.intro ?_ trivial
        refine And.intro ?_ trivial
        refine And.intro ?_ trivial
        have he := ok_some he
        exact ⟨rfl, _, _, (leads_ren [(900, 2), (901, 6)] (l := [(2, .c (.ptr 900 0))]) (st' := [(900, .rc [.own 901, .int .i64 (c__0, c__1).2]), (901, .sl 93 (.pair (.int .i64) (.int .i64)) (([] : List (Int × Int)) ++ (c__0, c__1).1) .shallow)]) rfl rfl ⟨⟨⟨rfl, rfl⟩, rfl, trivial⟩, ⟨rfl, rfl⟩, trivial⟩ ⟨⟨⟨rfl, rfl⟩, rfl⟩, trivial⟩), he⟩
      · skip
        refine And.intro ?_ trivial
        refine And.intro hq1 ?_
        refine And.intro ?_ trivial
        refine And.intro ?_ trivial
        have he := ok_some he
        exact ⟨rfl, _, _, (leads_ren [(900, 2), (901, 6)] (l := [(2, .c (.ptr 900 0))]) (st' := [(900, .rc [.own 901, .int .i64 (c__0, c__1).2]), (901, .sl 93 (.pair (.int .i64) (.int .i64)) (([] : List (Int × Int)) ++ (c__0, c__1).1) .shallow)]) rfl rfl ⟨⟨⟨rfl, rfl⟩, rfl, trivial⟩, ⟨rfl, rfl⟩, trivial⟩ ⟨⟨⟨rfl, rfl⟩, rfl⟩, trivial⟩), he⟩
    · skip
      refine And.intro ?_ trivial
      refine And.intro ?_ trivial
      refine And.intro hq1 ?_
      refine And.intro ?_ trivial
      refine And.intro ?_ trivial
      have he := ok_some he
      exact ⟨rfl, _, _, (leads_ren [(900, 2), (901, 6)] (l := [(2, .c (.ptr 900 0))]) (st' := [(900, .rc [.own 901, .int .i64 (c__0, c__1).2]), (901, .sl 93 (.pair (.int .i64) (.int .i64)) (([] : List (Int × Int)) ++ (c__0, c__1).1) .shallow)]) rfl rfl ⟨⟨⟨rfl, rfl⟩, rfl, trivial⟩, ⟨rfl, rfl⟩, trivial⟩ ⟨⟨⟨rfl, rfl⟩, rfl⟩, trivial⟩), he⟩
  · skip
    refine And.intro ?_ (And.intro ?_ (trivial))
    · skip
      refine And.intro ?_ trivial
      refine And.intro ?_ trivial
      refine And.intro hq1 ?_
      refine And.intro ?_ trivial
      refine And.intro ?_ trivial
      have he := ok_some he
      exact ⟨rfl, _, _, (leads_ren [(900, 2), (901, 6)] (l := [(2, .c (.ptr 900 0))]) (st' := [(900, .rc [.own 901, .int .i64 (c__0, c__1).2]), (901, .sl 93 (.pair (.int .i64) (.int .i64)) (([] : List (Int × Int)) ++ (c__0, c__1).1) .shallow)]) rfl rfl ⟨⟨⟨rfl, rfl⟩, rfl, trivial⟩, ⟨rfl, rfl⟩, trivial⟩ ⟨⟨⟨rfl, rfl⟩, rfl⟩, trivial⟩), he⟩
    · skip
      refine And.intro ?_ trivial
      refine And.intro ?_ trivial
      refine And.intro hq1 ?_
      refine And.intro ?_ trivial
      refine And.intro ?_ trivial
      have he := ok_some he
      exact ⟨rfl, _, _, (leads_ren [(900, 2), (901, 6)] (l := [(2, .c (.ptr 900 0))]) (st' := [(900, .rc [.own 901, .int .i64 (c__0, c__1).2]), (901, .sl 93 (.pair (.int .i64) (.int .i64)) (([] : List (Int × Int)) ++ (c__0, c__1).1) .shallow)]) rfl rfl ⟨⟨⟨rfl, rfl⟩, rfl, trivial⟩, ⟨rfl, rfl⟩, trivial⟩ ⟨⟨⟨rfl, rfl⟩, rfl⟩, trivial⟩), he⟩

noncomputable def c_spec_l1Mutate : Con := fun args st => match args, st with
  | [.c (.ptr 0 0), .agg [.imm (.pair (.int .i64) (.int .i64)) c__0, .int .i64 c__1]], [(0, .rc [.imm (.int .u8) r__0, .int .i64 r__1])] => .opt (((List Int) × Int) × Int × (List (Int × Int))) (spec_l1Mutate (c__0, c__1) (r__0, r__1)) (fun r => .ret (.agg [.own 901, .int .i64 r.2.1]) [(0, .rc [.imm (.int .u8) r.1.1, .int .i64 r.1.2]), (900, .rc [.own 901, .int .i64 r.2.1]), (901, .sl 93 (.pair (.int .i64) (.int .i64)) r.2.2 .shallow)])
  | _, _ => .fail

noncomputable def C_spec_l1Mutate : Cfg := { y := tys, n := 53, h := 1, tab := [(68, c_spec_l17Rd_pick), (83, c_spec_l17Rd_num), (113, c_spec_l1Copy)], cut := [], hand := [], good := [], deep := [], sched := [(8, (.first 0 (.first 2 (.alt 1 (.alt 3 (.alt 4 (.first 5 (.first 6 (.alt 7 .done .stop))) .stop) .stop) (.alt 3 (.alt 1 (.alt 4 (.first 5 (.first 6 (.alt 7 .done .stop))) .stop) (.alt 4 (.alt 1 (.first 5 (.first 6 (.alt 7 .done .stop))) .stop) .stop)) .stop))))), (11, (.first 0 (.first 2 (.first 3 (.first 4 (.alt 1 (.alt 5 (.alt 6 (.first 7 (.first 8 (.alt 9 .done .stop))) .stop) .stop) (.alt 5 (.alt 1 (.alt 6 (.first 7 (.first 8 (.alt 9 .done .stop))) .stop) (.alt 6 (.alt 1 (.first 7 (.first 8 (.alt 9 .done .stop))) .stop) .stop)) .stop)))))))] }

theorem t_spec_l1Mutate : TabOk Try.prog C_spec_l1Mutate := by
  refine tabOk_of ?_
  simp only [C_spec_l1Mutate, List.forall_mem_cons]
  exact ⟨k_spec_l17Rd_pick, k_spec_l17Rd_num, k_spec_l1Copy, fun p h => by cases h⟩

theorem k_spec_l1Mutate : Entry Try.prog 110 c_spec_l1Mutate := by
  refine entry_by (C := C_spec_l1Mutate) mixed tys_ok t_spec_l1Mutate (fn := Try.f110) (c := bd Try.f110) (by kernel_rfl) (by kernel_rfl) (by kernel_rfl) (by kernel_rfl) ?_
  intro args st k he
  unfold c_spec_l1Mutate at he
  split at he
  rotate_left
  · exact he.elim
  rename_i c__0 c__1 r__0 r__1
  have he : Ok (spec_l1Mutate (c__0, c__1) (r__0, r__1)) (fun r => k (.agg [.own 901, .int .i64 r.2.1]) [(0, .rc [.imm (.int .u8) r.1.1, .int .i64 r.1.2]), (900, .rc [.own 901, .int .i64 r.2.1]), (901, .sl 93 (.pair (.int .i64) (.int .i64)) r.2.2 .shallow)]) := he
  refine ⟨rfl, rfl, ?_⟩
  obtain ⟨r1_, hr, he⟩ := ok_bind he
  refine ⟨r1_, hr, ?_⟩
  obtain ⟨r2_, hr, he⟩ := ok_bind he
  refine ⟨r2_, hr, ?_⟩
  refine And.intro (fun hb => ?_) (fun hb => ?_)
  · have he := ok_t he hb
    obtain ⟨r3_, hr, he⟩ := ok_bind he
    refine ⟨r3_, hr, ?_⟩
    have he := ok_some he
    exact ⟨rfl, _, _, (leads_ren [(900, 4), (901, 9901)] (l := [(4, .c (.ptr 900 0))]) (st' := [(0, .rc [.imm (.int .u8) r3_.2.1, .int .i64 r3_.2.2]), (900, .rc [.own 901, .int .i64 r3_.1]), (901, .sl 93 (.pair (.int .i64) (.int .i64)) r1_.2 .shallow)]) rfl rfl ⟨⟨.inl rfl, rfl, trivial⟩, ⟨⟨rfl, rfl⟩, rfl, trivial⟩, ⟨rfl, rfl⟩, trivial⟩ ⟨⟨⟨rfl, rfl⟩, rfl⟩, trivial⟩), he⟩
  · have he := ok_f he hb
    refine And.intro (fun hb => ?_) (fun hb => ?_)
    · have he := ok_t he hb
      refine And.intro (fun hb => ?_) (fun hb => ?_)
      · have he := ok_t he hb
        refine And.intro (by kernel_rfl) ?_
        obtain ⟨r5_, hq1, he⟩ := ok_bind he
        have he := ok_rq he
        have hq2 := he.1
        have he := he.2
        refine And.intro ?_ (And.intro ?_ (trivial))
        · skip
          refine And.intro ?_ trivial
          refine And.intro ?_ trivial
          refine ⟨r5_, hq1, ?_⟩
          refine And.intro hq2 ?_
          refine And.intro ?_ trivial
          have he := ok_some he
          exact ⟨rfl, _, _, (leads_ren [(900, 4), (901, 9901)] (l := [(4, .c (.ptr 900 0))]) (st' := [(0, .rc [.imm (.int .u8) r5_.2.1, .int .i64 r5_.2.2]), (900, .rc [.own 901, .int .i64 r1_.1]), (901, .sl 93 (.pair (.int .i64) (.int .i64)) (r1_.2.set (0:Int).toNat (r5_.1, (r1_.2.getD (0:Int).toNat (0, 0)).2)) .shallow)]) rfl rfl ⟨⟨.inl rfl, rfl, trivial⟩, ⟨⟨rfl, rfl⟩, rfl, trivial⟩, ⟨rfl, rfl⟩, trivial⟩ ⟨⟨⟨rfl, rfl⟩, rfl⟩, trivial⟩), he⟩
        · skip
          refine And.intro ?_ (And.intro ?_ (trivial))
          · skip
            refine And.intro ?_ trivial
            refine ⟨r5_, hq1, ?_⟩
            refine And.intro hq2 ?_
            refine And.intro ?_ trivial
            have he := ok_some he
            exact ⟨rfl, _, _, (leads_ren [(900, 4), (901, 9901)] (l := [(4, .c (.ptr 900 0))]) (st' := [(0, .rc [.imm (.int .u8) r5_.2.1, .int .i64 r5_.2.2]), (900, .rc [.own 901, .int .i64 r1_.1]), (901, .sl 93 (.pair (.int .i64) (.int .i64)) (r1_.2.set (0:Int).toNat (r5_.1, (r1_.2.getD (0:Int).toNat (0, 0)).2)) .shallow)]) rfl rfl ⟨⟨.inl rfl, rfl, trivial⟩, ⟨⟨rfl, rfl⟩, rfl, trivial⟩, ⟨rfl, rfl⟩, trivial⟩ ⟨⟨⟨rfl, rfl⟩, rfl⟩, trivial⟩), he⟩
          · skip
            refine ⟨r5_, hq1, ?_⟩
            refine And.intro ?_ trivial
            refine And.intro hq2 ?_
            refine And.intro ?_ trivial
            have he := ok_some he
            exact ⟨rfl, _, _, (leads_ren [(900, 4), (901, 9901)] (l := [(4, .c (.ptr 900 0))]) (st' := [(0, .rc [.imm (.int .u8) r5_.2.1, .int .i64 r5_.2.2]), (900, .rc [.own 901, .int .i64 r1_.1]), (901, .sl 93 (.pair (.int .i64) (.int .i64)) (r1_.2.set (0:Int).toNat (r5_.1, (r1_.2.getD (0:Int).toNat (0, 0)).2)) .shallow)]) rfl rfl ⟨⟨.inl rfl, rfl, trivial⟩, ⟨⟨rfl, rfl⟩, rfl, trivial⟩, ⟨rfl, rfl⟩, trivial⟩ ⟨⟨⟨rfl, rfl⟩, rfl⟩, trivial⟩), he⟩
      · have he := ok_f he hb
        have he := ok_some he
        exact ⟨rfl, _, _, (leads_ren [(900, 4), (901, 9901)] (l := [(4, .c (.ptr 900 0))]) (st' := [(0, .rc [.imm (.int .u8) r2_.2.1, .int .i64 r2_.2.2]), (900, .rc [.own 901, .int .i64 r1_.1]), (901, .sl 93 (.pair (.int .i64) (.int .i64)) r1_.2 .shallow)]) rfl rfl ⟨⟨.inl rfl, rfl, trivial⟩, ⟨⟨rfl, rfl⟩, rfl, trivial⟩, ⟨rfl, rfl⟩, trivial⟩ ⟨⟨⟨rfl, rfl⟩, rfl⟩, trivial⟩), he⟩
    · have he := ok_f he hb
      refine And.intro (fun hb => ?_) (fun hb => ?_)
      · have he := ok_t he hb
        refine And.intro (fun hb => ?_) (fun hb => ?_)
        · have he := ok_t he hb
          refine And.intro (by kernel_rfl) ?_
          have he := ok_rq he
          refine And.intro he.1 ?_
          have he := he.2
          obtain ⟨r7_, hq1, he⟩ := ok_bind he
          have he := ok_rq he
          have hq2 := he.1
          have he := he.2
          refine And.intro ?_ (And.intro ?_ (trivial))
          · skip
            refine And.intro ?_ trivial
            refine And.intro ?_ trivial
            refine ⟨r7_, hq1, ?_⟩
            refine And.intro hq2 ?_
            refine And.intro ?_ trivial
            have he := ok_some he
            exact ⟨rfl, _, _, (leads_ren [(900, 4), (901, 9901)] (l := [(4, .c (.ptr 900 0))]) (st' := [(0, .rc [.imm (.int .u8) r7_.2.1, .int .i64 r7_.2.2]), (900, .rc [.own 901, .int .i64 r1_.1]), (901, .sl 93 (.pair (.int .i64) (.int .i64)) (r1_.2.set ((r1_.2.length:Int) - (1:Int)).toNat ((r1_.2.getD ((r1_.2.length:Int) - (1:Int)).toNat (0, 0)).1, r7_.1)) .shallow)]) rfl rfl ⟨⟨.inl rfl, rfl, trivial⟩, ⟨⟨rfl, rfl⟩, rfl, trivial⟩, ⟨rfl, rfl⟩, trivial⟩ ⟨⟨⟨rfl, rfl⟩, rfl⟩, trivial⟩), he⟩
          · skip
            refine And.intro ?_ (And.intro ?_ (trivial))
            · skip
              refine And.intro ?_ trivial
              refine ⟨r7_, hq1, ?_⟩
              refine And.intro hq2 ?_
              refine And.intro ?_ trivial
              have he := ok_some he
              exact ⟨rfl, _, _, (leads_ren [(900, 4), (901, 9901)] (l := [(4, .c (.ptr 900 0))]) (st' := [(0, .rc [.imm (.int .u8) r7_.2.1, .int .i64 r7_.2.2]), (900, .rc [.own 901, .int .i64 r1_.1]), (901, .sl 93 (.pair (.int .i64) (.int .i64)) (r1_.2.set ((r1_.2.length:Int) - (1:Int)).toNat ((r1_.2.getD ((r1_.2.length:Int) - (1:Int)).toNat (0, 0)).1, r7_.1)) .shallow)]) rfl rfl ⟨⟨.inl rfl, rfl, trivial⟩, ⟨⟨rfl, rfl⟩, rfl, trivial⟩, ⟨rfl, rfl⟩, trivial⟩ ⟨⟨⟨rfl, rfl⟩, rfl⟩, trivial⟩), he⟩
            · skip
              refine ⟨r7_, hq1, ?_⟩
              refine And.intro ?_ trivial
              refine And.intro hq2 ?_
              refine And.intro ?_ trivial
              have he := ok_some he
              exact ⟨rfl, _, _, (leads_ren [(900, 4), (901, 9901)] (l := [(4, .c (.ptr 900 0))]) (st' := [(0, .rc [.imm (.int .u8) r7_.2.1, .int .i64 r7_.2.2]), (900, .rc [.own 901, .int .i64 r1_.1]), (901, .sl 93 (.pair (.int .i64) (.int .i64)) (r1_.2.set ((r1_.2.length:Int) - (1:Int)).toNat ((r1_.2.getD ((r1_.2.length:Int) - (1:Int)).toNat (0, 0)).1, r7_.1)) .shallow)]) rfl rfl ⟨⟨.inl rfl, rfl, trivial⟩, ⟨⟨rfl, rfl⟩, rfl, trivial⟩, ⟨rfl, rfl⟩, trivial⟩ ⟨⟨⟨rfl, rfl⟩, rfl⟩, trivial⟩), he⟩
        · have he := ok_f he hb
          have he := ok_some he
          exact ⟨rfl, _, _, (leads_ren [(900, 4), (901, 9901)] (l := [(4, .c (.ptr 900 0))]) (st' := [(0, .rc [.imm (.int .u8) r2_.2.1, .int .i64 r2_.2.2]), (900, .rc [.own 901, .int .i64 r1_.1]), (901, .sl 93 (.pair (.int .i64) (.int .i64)) r1_.2 .shallow)]) rfl rfl ⟨⟨.inl rfl, rfl, trivial⟩, ⟨⟨rfl, rfl⟩, rfl, trivial⟩, ⟨rfl, rfl⟩, trivial⟩ ⟨⟨⟨rfl, rfl⟩, rfl⟩, trivial⟩), he⟩
      · have he := ok_f he hb
        refine And.intro (fun hb => ?_) (fun hb => ?_)
        · have he := ok_t he hb
          have he := ok_rq he
          refine And.intro he.1 ?_
          have he := he.2
          have he := ok_some he
          exact ⟨rfl, _, _, (leads_ren [(900, 4), (901, 50)] (l := [(4, .c (.ptr 900 0))]) (st' := [(0, .rc [.imm (.int .u8) r2_.2.1, .int .i64 r2_.2.2]), (900, .rc [.own 901, .int .i64 r1_.1]), (901, .sl 93 (.pair (.int .i64) (.int .i64)) (r1_.2 ++ [((1:Int), (1:Int))]) .shallow)]) rfl rfl ⟨⟨.inl rfl, rfl, trivial⟩, ⟨⟨rfl, rfl⟩, rfl, trivial⟩, ⟨rfl, rfl⟩, trivial⟩ ⟨⟨⟨rfl, rfl⟩, rfl⟩, trivial⟩), he⟩
        · have he := ok_f he hb
          have he := ok_some he
          exact ⟨rfl, _, _, (leads_ren [(900, 4), (901, 9901)] (l := [(4, .c (.ptr 900 0))]) (st' := [(0, .rc [.imm (.int .u8) r2_.2.1, .int .i64 r2_.2.2]), (900, .rc [.own 901, .int .i64 r1_.1]), (901, .sl 93 (.pair (.int .i64) (.int .i64)) r1_.2 .shallow)]) rfl rfl ⟨⟨.inl rfl, rfl, trivial⟩, ⟨⟨rfl, rfl⟩, rfl, trivial⟩, ⟨rfl, rfl⟩, trivial⟩ ⟨⟨⟨rfl, rfl⟩, rfl⟩, trivial⟩), he⟩

noncomputable def c_spec_l3Mutate : Con := fun args st => match args, st with
  | [.c (.ptr 0 0), .c (.imm (.pair (.sl (.pair (.int .i64) (.int .i64))) (.int .i64)) list_)], [(0, .rc [.imm (.int .u8) r__0, .int .i64 r__1])] => .opt (((List Int) × Int) × (List ((List (Int × Int)) × Int))) (spec_l3Mutate list_ (r__0, r__1)) (fun r => .ret (.c (.own 900)) [(0, .rc [.imm (.int .u8) r.1.1, .int .i64 r.1.2]), (900, .sl 81 (.pair (.sl (.pair (.int .i64) (.int .i64))) (.int .i64)) r.2 .shallow)])
  | _, _ => .fail

noncomputable def C_spec_l3Mutate : Cfg := { y := tys, n := 36, h := 1, tab := [(68, c_spec_l17Rd_pick), (110, c_spec_l1Mutate)], cut := [], hand := [], good := [], deep := [], sched := [] }

theorem t_spec_l3Mutate : TabOk Try.prog C_spec_l3Mutate := by
  refine tabOk_of ?_
  simp only [C_spec_l3Mutate, List.forall_mem_cons]
  exact ⟨k_spec_l17Rd_pick, k_spec_l1Mutate, fun p h => by cases h⟩

theorem k_spec_l3Mutate : Entry Try.prog 81 c_spec_l3Mutate := by
  refine entry_by (C := C_spec_l3Mutate) mixed tys_ok t_spec_l3Mutate (fn := Try.f81) (c := bd Try.f81) (by kernel_rfl) (by kernel_rfl) (by kernel_rfl) (by kernel_rfl) ?_
  intro args st k he
  unfold c_spec_l3Mutate at he
  split at he
  rotate_left
  · exact he.elim
  rename_i list_ r__0 r__1
  have he : Ok (spec_l3Mutate list_ (r__0, r__1)) (fun r => k (.c (.own 900)) [(0, .rc [.imm (.int .u8) r.1.1, .int .i64 r.1.2]), (900, .sl 81 (.pair (.sl (.pair (.int .i64) (.int .i64))) (.int .i64)) r.2 .shallow)]) := he
  refine ⟨rfl, rfl, ?_⟩
  have he := ok_rq he
  refine And.intro he.1 ?_
  have he := he.2
  refine And.intro (fun hb => ?_) (fun hb => ?_)
  · have he := ok_t he hb
    obtain ⟨r1_, hr, he⟩ := ok_bind he
    refine ⟨r1_, hr, ?_⟩
    refine And.intro (fun hb => ?_) (fun hb => ?_)
    · have he := ok_t he hb
      obtain ⟨r2_, hr, he⟩ := ok_bind he
      refine ⟨r2_, hr, ?_⟩
      have he := ok_rq he
      refine And.intro he.1 ?_
      have he := he.2
      obtain ⟨r3_, hr, he⟩ := ok_bind he
      refine ⟨r3_, hr, ?_⟩
      obtain ⟨r4_, hr, he⟩ := ok_bind he
      refine ⟨r4_, hr, ?_⟩
      obtain ⟨r5_, hr, he⟩ := ok_bind he
      refine ⟨r5_, hr, ?_⟩
      have he := ok_rq he
      refine And.intro he.1 ?_
      have he := he.2
      have he := ok_some he
      exact ⟨rfl, _, _, (leads_ren [(900, 9)] (l := [(4, .c (.own 900))]) (st' := [(0, .rc [.imm (.int .u8) r5_.1.1, .int .i64 r5_.1.2]), (900, .sl 81 (.pair (.sl (.pair (.int .i64) (.int .i64))) (.int .i64)) ((([] : List ((List (Int × Int)) × Int)) ++ list_).set r2_.1.toNat (r5_.2.2, r5_.2.1)) .shallow)]) rfl rfl ⟨⟨.inl rfl, rfl, trivial⟩, ⟨rfl, rfl⟩, trivial⟩ ⟨⟨rfl, rfl⟩, trivial⟩), he⟩
    · have he := ok_f he hb
      have he := ok_some he
      exact ⟨rfl, _, _, (leads_ren [(900, 9)] (l := [(4, .c (.own 900))]) (st' := [(0, .rc [.imm (.int .u8) r1_.2.1, .int .i64 r1_.2.2]), (900, .sl 81 (.pair (.sl (.pair (.int .i64) (.int .i64))) (.int .i64)) (([] : List ((List (Int × Int)) × Int)) ++ list_) .shallow)]) rfl rfl ⟨⟨.inl rfl, rfl, trivial⟩, ⟨rfl, rfl⟩, trivial⟩ ⟨⟨rfl, rfl⟩, trivial⟩), he⟩
  · have he := ok_f he hb
    have he := ok_some he
    exact ⟨rfl, _, _, (leads_ren [(900, 9)] (l := [(4, .c (.own 900))]) (st' := [(0, .rc [.imm (.int .u8) (r__0, r__1).1, .int .i64 (r__0, r__1).2]), (900, .sl 81 (.pair (.sl (.pair (.int .i64) (.int .i64))) (.int .i64)) (([] : List ((List (Int × Int)) × Int)) ++ list_) .shallow)]) rfl rfl ⟨⟨.inl rfl, rfl, trivial⟩, ⟨rfl, rfl⟩, trivial⟩ ⟨⟨rfl, rfl⟩, trivial⟩), he⟩

noncomputable def c_spec_DrawSatisfiesAll : Con := fun args st => match args, st with
  | [.c (.imm (.int .u8) code)], [] => .opt ((List ((List (Int × Int)) × Int)) × (List Bool)) (spec_DrawSatisfiesAll code) (fun r => .ret (.tup [.c (.own 900), .c (.own 901)]) [(900, .sl 81 (.pair (.sl (.pair (.int .i64) (.int .i64))) (.int .i64)) r.1 .shallow), (901, .sl 4 .bool r.2 .shallow)])
  | _, _ => .fail

noncomputable def C_spec_DrawSatisfiesAll : Cfg := { y := tys, n := 15, h := 0, tab := [(65, c_spec_l17Open), (67, c_spec_l1Values), (81, c_spec_l3Mutate), (82, c_spec_l3Problem)], cut := [], hand := [], good := [], deep := [], sched := [] }

theorem t_spec_DrawSatisfiesAll : TabOk Try.prog C_spec_DrawSatisfiesAll := by
  refine tabOk_of ?_
  simp only [C_spec_DrawSatisfiesAll, List.forall_mem_cons]
  exact ⟨k_spec_l17Open, k_spec_l1Values, k_spec_l3Mutate, k_spec_l3Problem, fun p h => by cases h⟩

theorem k_spec_DrawSatisfiesAll : Entry Try.prog 72 c_spec_DrawSatisfiesAll := by
  refine entry_by (C := C_spec_DrawSatisfiesAll) mixed tys_ok t_spec_DrawSatisfiesAll (fn := Try.f72) (c := bd Try.f72) (by kernel_rfl) (by kernel_rfl) (by kernel_rfl) (by kernel_rfl) ?_
  intro args st k he
  unfold c_spec_DrawSatisfiesAll at he
  split at he
  rotate_left
  · exact he.elim
  rename_i code
  have he : Ok (spec_DrawSatisfiesAll code) (fun r => k (.tup [.c (.own 900), .c (.own 901)]) [(900, .sl 81 (.pair (.sl (.pair (.int .i64) (.int .i64))) (.int .i64)) r.1 .shallow), (901, .sl 4 .bool r.2 .shallow)]) := he
  refine ⟨rfl, rfl, ?_⟩
  obtain ⟨r1_, hr, he⟩ := ok_bind he
  refine ⟨r1_, hr, ?_⟩
  obtain ⟨r2_, hr, he⟩ := ok_bind he
  refine ⟨r2_, hr, ?_⟩
  obtain ⟨r3_, hr, he⟩ := ok_bind he
  refine ⟨r3_, hr, ?_⟩
  obtain ⟨r4_, hr, he⟩ := ok_bind he
  refine ⟨r4_, hr, ?_⟩
  have he := ok_some he
  exact ⟨rfl, _, _, (leads_ren [(900, 12900), (901, 15900)] (l := [(2, .c (.own 900)), (3, .c (.own 901))]) (st' := [(900, .sl 81 (.pair (.sl (.pair (.int .i64) (.int .i64))) (.int .i64)) r3_.2 .shallow), (901, .sl 4 .bool r4_.2 .shallow)]) rfl rfl ⟨⟨rfl, rfl⟩, ⟨rfl, rfl⟩, trivial⟩ ⟨⟨rfl, rfl⟩, ⟨rfl, rfl⟩, trivial⟩), he⟩

noncomputable def c_spec_DrawViolationCount : Con := fun args st => match args, st with
  | [.c (.imm (.int .u8) code)], [] => .opt ((List ((List (Int × Int)) × Int)) × (List Bool)) (spec_DrawViolationCount code) (fun r => .ret (.tup [.c (.own 900), .c (.own 901)]) [(900, .sl 81 (.pair (.sl (.pair (.int .i64) (.int .i64))) (.int .i64)) r.1 .shallow), (901, .sl 4 .bool r.2 .shallow)])
  | _, _ => .fail

noncomputable def C_spec_DrawViolationCount : Cfg := { y := tys, n := 8, h := 0, tab := [(72, c_spec_DrawSatisfiesAll)], cut := [], hand := [], good := [], deep := [], sched := [] }

theorem t_spec_DrawViolationCount : TabOk Try.prog C_spec_DrawViolationCount := by
  refine tabOk_of ?_
  simp only [C_spec_DrawViolationCount, List.forall_mem_cons]
  exact ⟨k_spec_DrawSatisfiesAll, fun p h => by cases h⟩

theorem k_spec_DrawViolationCount : Entry Try.prog 30 c_spec_DrawViolationCount := by
  refine entry_by (C := C_spec_DrawViolationCount) mixed tys_ok t_spec_DrawViolationCount (fn := Try.f30) (c := bd Try.f30) (by kernel_rfl) (by kernel_rfl) (by kernel_rfl) (by kernel_rfl) ?_
  intro args st k he
  unfold c_spec_DrawViolationCount at he
  split at he
  rotate_left
  · exact he.elim
  rename_i code
  have he : Ok (spec_DrawViolationCount code) (fun r => k (.tup [.c (.own 900), .c (.own 901)]) [(900, .sl 81 (.pair (.sl (.pair (.int .i64) (.int .i64))) (.int .i64)) r.1 .shallow), (901, .sl 4 .bool r.2 .shallow)]) := he
  refine ⟨rfl, rfl, ?_⟩
  obtain ⟨r1_, hr, he⟩ := ok_bind he
  refine ⟨r1_, hr, ?_⟩
  have he := ok_some he
  exact ⟨rfl, _, _, (leads_ren [(900, 6900), (901, 6901)] (l := [(2, .c (.own 900)), (3, .c (.own 901))]) (st' := [(900, .sl 81 (.pair (.sl (.pair (.int .i64) (.int .i64))) (.int .i64)) r1_.1 .shallow), (901, .sl 4 .bool r1_.2 .shallow)]) rfl rfl ⟨⟨rfl, rfl⟩, ⟨rfl, rfl⟩, trivial⟩ ⟨⟨rfl, rfl⟩, ⟨rfl, rfl⟩, trivial⟩), he⟩

noncomputable def c_impl_ConstraintValid : Con := fun args st => match args, st with
  | [.agg [.imm (.pair (.int .i64) (.int .i64)) c__0, .int .i64 c__1]], [] => .opt (Bool) (impl_ConstraintValid (c__0, c__1)) (fun r => .ret (.c (.bool r)) [])
  | _, _ => .fail

noncomputable def C_impl_ConstraintValid : Cfg := { y := tys, n := 37, h := 0, tab := [(97, c_impl_isLiteral), (98, c_impl_variableOf), (100, c_impl_within)], cut := [], hand := [], good := [], deep := [], sched := [] }

theorem t_impl_ConstraintValid : TabOk Try.prog C_impl_ConstraintValid := by
  refine tabOk_of ?_
  simp only [C_impl_ConstraintValid, List.forall_mem_cons]
  exact ⟨k_impl_isLiteral, k_impl_variableOf, k_impl_within, fun p h => by cases h⟩

theorem k_impl_ConstraintValid : Entry Try.prog 117 c_impl_ConstraintValid := by
  refine entry_by (C := C_impl_ConstraintValid) mixed tys_ok t_impl_ConstraintValid (fn := Try.f117) (c := bd Try.f117) (by kernel_rfl) (by kernel_rfl) (by kernel_rfl) (by kernel_rfl) ?_
  intro args st k he
  unfold c_impl_ConstraintValid at he
  split at he
  rotate_left
  · exact he.elim
  rename_i c__0 c__1
  have he : Ok (impl_ConstraintValid (c__0, c__1)) (fun r => k (.c (.bool r)) []) := he
  refine ⟨rfl, rfl, ?_⟩
  refine loop_model mixed tys_ok t_impl_ConstraintValid (S := Int × Int) (I := (fun (before, i) => (envOf [(1, .c (.ptr 10000000 0)), (3, .c (.int .i64 before)), (7, .c (.imm (.pair (.int .i64) (.int .i64)) (c__0, c__1).1)), (8, .c (.int .i64 ((c__0, c__1).1.length:Int))), (9, .c (.int .i64 i))], [(10000000, .rc [.imm (.pair (.int .i64) (.int .i64)) (c__0, c__1).1, .int .i64 (c__0, c__1).2])]))) (f := impl_ConstraintValid_l1 (c__0, c__1)) (K := (fun r => k (.c (.bool r)) [])) he (leads_ren [(10000000, 1)] (l := [(1, .c (.ptr 10000000 0)), (3, .c (.int .i64 (0:Int))), (7, .c (.imm (.pair (.int .i64) (.int .i64)) (c__0, c__1).1)), (8, .c (.int .i64 ((c__0, c__1).1.length:Int))), (9, .c (.int .i64 (0:Int)))]) (st' := [(10000000, .rc [.imm (.pair (.int .i64) (.int .i64)) (c__0, c__1).1, .int .i64 (c__0, c__1).2])]) rfl rfl ⟨⟨.inl rfl, rfl, trivial⟩, trivial⟩ ⟨⟨⟨rfl, rfl⟩, rfl⟩, rfl, .inl rfl, rfl, rfl, trivial⟩) ?_
  rintro ⟨before, i⟩ J1 he
  refine And.intro (fun hb => ?_) (fun hb => ?_)
  · have he := ok_t he hb
    have he := ok_rq he
    refine And.intro he.1 ?_
    have he := he.2
    obtain ⟨r1_, hr, he⟩ := ok_bind he
    refine ⟨r1_, hr, ?_⟩
    refine And.intro (fun hb => ?_) (fun hb => ?_)
    · have he := ok_f he hb
      obtain ⟨r2_, hr, he⟩ := ok_bind he
      refine ⟨r2_, hr, ?_⟩
      refine And.intro (fun hb => ?_) (fun hb => ?_)
      · have he := ok_f he hb
        obtain ⟨r3_, hr, he⟩ := ok_bind he
        refine ⟨r3_, hr, ?_⟩
        refine And.intro (fun hb => ?_) (fun hb => ?_)
        · have he := ok_t he hb
          have he := ok_some he
          exact ⟨rfl, _, _, (leads_ren [] (l := [(2, .c (.bool false))]) (st' := []) rfl rfl trivial ⟨.inr rfl, trivial⟩), he⟩
        · have he := ok_f he hb
          obtain ⟨r4_, hr, he⟩ := ok_bind he
          refine ⟨r4_, hr, ?_⟩
          have he := ok_rq he
          refine And.intro he.1 ?_
          have he := he.2
          have he := ok_some he
          exact ⟨(r4_, (i + (1:Int))), he, (leads_ren [] (l := [(1, .c (.ptr 10000000 0)), (3, .c (.int .i64 r4_)), (7, .c (.imm (.pair (.int .i64) (.int .i64)) (c__0, c__1).1)), (8, .c (.int .i64 ((c__0, c__1).1.length:Int))), (9, .c (.int .i64 (i + (1:Int))))]) (st' := [(10000000, .rc [.imm (.pair (.int .i64) (.int .i64)) (c__0, c__1).1, .int .i64 (c__0, c__1).2])]) rfl rfl ⟨⟨.inl rfl, rfl, trivial⟩, trivial⟩ ⟨⟨⟨rfl, rfl⟩, rfl⟩, rfl, .inl rfl, rfl, rfl, trivial⟩)⟩
      · have he := ok_t he hb
        have he := ok_some he
        exact ⟨rfl, _, _, (leads_ren [] (l := [(2, .c (.bool false))]) (st' := []) rfl rfl trivial ⟨.inr rfl, trivial⟩), he⟩
    · have he := ok_t he hb
      have he := ok_some he
      exact ⟨rfl, _, _, (leads_ren [] (l := [(2, .c (.bool false))]) (st' := []) rfl rfl trivial ⟨.inr rfl, trivial⟩), he⟩
  · have he := ok_f he hb
    obtain ⟨r5_, hr, he⟩ := ok_bind he
    refine ⟨r5_, hr, ?_⟩
    have he := ok_some he
    exact ⟨rfl, _, _, (leads_ren [] (l := [(2, .c (.bool r5_))]) (st' := []) rfl rfl trivial ⟨.inl rfl, trivial⟩), he⟩

noncomputable def c_impl_allValid_1 : Con := fun args st => match args, st with
  | [.agg [.imm (.pair (.int .i64) (.int .i64)) c__0, .int .i64 c__1]], [] => .opt (Bool) (impl_allValid_1 (c__0, c__1)) (fun r => .ret (.c (.bool r)) [])
  | _, _ => .fail

noncomputable def C_impl_allValid_1 : Cfg := { y := tys, n := 6, h := 0, tab := [(117, c_impl_ConstraintValid)], cut := [], hand := [], good := [], deep := [], sched := [] }

theorem t_impl_allValid_1 : TabOk Try.prog C_impl_allValid_1 := by
  refine tabOk_of ?_
  simp only [C_impl_allValid_1, List.forall_mem_cons]
  exact ⟨k_impl_ConstraintValid, fun p h => by cases h⟩

theorem k_impl_allValid_1 : Entry Try.prog 116 c_impl_allValid_1 := by
  refine entry_by (C := C_impl_allValid_1) mixed tys_ok t_impl_allValid_1 (fn := Try.f116) (c := bd Try.f116) (by kernel_rfl) (by kernel_rfl) (by kernel_rfl) (by kernel_rfl) ?_
  intro args st k he
  unfold c_impl_allValid_1 at he
  split at he
  rotate_left
  · exact he.elim
  rename_i c__0 c__1
  have he : Ok (impl_allValid_1 (c__0, c__1)) (fun r => k (.c (.bool r)) []) := he
  refine ⟨rfl, rfl, ?_⟩
  obtain ⟨r1_, hr, he⟩ := ok_bind he
  refine ⟨r1_, hr, ?_⟩
  have he := ok_some he
  exact ⟨rfl, _, _, (leads_ren [] (l := [(2, .c (.bool (!r1_)))]) (st' := []) rfl rfl trivial ⟨.inl rfl, trivial⟩), he⟩

noncomputable def c_slices_IndexFunc_impl_Constraint__impl_allValid_1 : Con := fun args st => match args, st with
  | [.c (.imm (.pair (.sl (.pair (.int .i64) (.int .i64))) (.int .i64)) s_), .c (.fn 116 [])], [] => .opt (Int) (slices_IndexFunc_impl_Constraint__impl_allValid_1 s_) (fun r => .ret (.c (.int .i64 r)) [])
  | _, _ => .fail

noncomputable def C_slices_IndexFunc_impl_Constraint__impl_allValid_1 : Cfg := { y := tys, n := 19, h := 0, tab := [(116, c_impl_allValid_1)], cut := [], hand := [], good := [], deep := [], sched := [] }

theorem t_slices_IndexFunc_impl_Constraint__impl_allValid_1 : TabOk Try.prog C_slices_IndexFunc_impl_Constraint__impl_allValid_1 := by
  refine tabOk_of ?_
  simp only [C_slices_IndexFunc_impl_Constraint__impl_allValid_1, List.forall_mem_cons]
  exact ⟨k_impl_allValid_1, fun p h => by cases h⟩

theorem k_slices_IndexFunc_impl_Constraint__impl_allValid_1 : Entry Try.prog 118 c_slices_IndexFunc_impl_Constraint__impl_allValid_1 := by
  refine entry_by (C := C_slices_IndexFunc_impl_Constraint__impl_allValid_1) mixed tys_ok t_slices_IndexFunc_impl_Constraint__impl_allValid_1 (fn := Try.f118) (c := bd Try.f118) (by kernel_rfl) (by kernel_rfl) (by kernel_rfl) (by kernel_rfl) ?_
  intro args st k he
  unfold c_slices_IndexFunc_impl_Constraint__impl_allValid_1 at he
  split at he
  rotate_left
  · exact he.elim
  rename_i s_
  have he : Ok (slices_IndexFunc_impl_Constraint__impl_allValid_1 s_) (fun r => k (.c (.int .i64 r)) []) := he
  refine ⟨rfl, rfl, ?_⟩
  refine loop_model mixed tys_ok t_slices_IndexFunc_impl_Constraint__impl_allValid_1 (S := Int) (I := (fun i => (envOf [(0, .c (.imm (.pair (.sl (.pair (.int .i64) (.int .i64))) (.int .i64)) s_)), (1, .c (.fn 116 [])), (7, .c (.int .i64 (s_.length:Int))), (8, .c (.int .i64 i))], []))) (f := slices_IndexFunc_impl_Constraint__impl_allValid_1_l1 s_) (K := (fun r => k (.c (.int .i64 r)) [])) he (leads_ren [] (l := [(0, .c (.imm (.pair (.sl (.pair (.int .i64) (.int .i64))) (.int .i64)) s_)), (1, .c (.fn 116 [])), (7, .c (.int .i64 (s_.length:Int))), (8, .c (.int .i64 (0:Int)))]) (st' := []) rfl rfl trivial ⟨.inl rfl, ⟨rfl, trivial⟩, rfl, rfl, trivial⟩) ?_
  rintro i J1 he
  refine And.intro (fun hb => ?_) (fun hb => ?_)
  · have he := ok_t he hb
    have he := ok_rq he
    refine And.intro he.1 ?_
    have he := he.2
    obtain ⟨r1_, hr, he⟩ := ok_bind he
    refine ⟨r1_, hr, ?_⟩
    refine And.intro (fun hb => ?_) (fun hb => ?_)
    · have he := ok_t he hb
      have he := ok_some he
      exact ⟨rfl, _, _, Leads.refl _ _, he⟩
    · have he := ok_f he hb
      have he := ok_rq he
      refine And.intro he.1 ?_
      have he := he.2
      have he := ok_some he
      exact ⟨(i + (1:Int)), he, (leads_ren [] (l := [(0, .c (.imm (.pair (.sl (.pair (.int .i64) (.int .i64))) (.int .i64)) s_)), (1, .c (.fn 116 [])), (7, .c (.int .i64 (s_.length:Int))), (8, .c (.int .i64 (i + (1:Int))))]) (st' := []) rfl rfl trivial ⟨.inl rfl, ⟨rfl, trivial⟩, rfl, rfl, trivial⟩)⟩
  · have he := ok_f he hb
    have he := ok_some he
    exact ⟨rfl, _, _, Leads.refl _ _, he⟩

noncomputable def c_slices_ContainsFunc_impl_Constraint__impl_allValid_1 : Con := fun args st => match args, st with
  | [.c (.imm (.pair (.sl (.pair (.int .i64) (.int .i64))) (.int .i64)) s_), .c (.fn 116 [])], [] => .opt (Bool) (slices_ContainsFunc_impl_Constraint__impl_allValid_1 s_) (fun r => .ret (.c (.bool r)) [])
  | _, _ => .fail

noncomputable def C_slices_ContainsFunc_impl_Constraint__impl_allValid_1 : Cfg := { y := tys, n := 9, h := 0, tab := [(118, c_slices_IndexFunc_impl_Constraint__impl_allValid_1)], cut := [], hand := [], good := [], deep := [], sched := [] }

theorem t_slices_ContainsFunc_impl_Constraint__impl_allValid_1 : TabOk Try.prog C_slices_ContainsFunc_impl_Constraint__impl_allValid_1 := by
  refine tabOk_of ?_
  simp only [C_slices_ContainsFunc_impl_Constraint__impl_allValid_1, List.forall_mem_cons]
  exact ⟨k_slices_IndexFunc_impl_Constraint__impl_allValid_1, fun p h => by cases h⟩

theorem k_slices_ContainsFunc_impl_Constraint__impl_allValid_1 : Entry Try.prog 105 c_slices_ContainsFunc_impl_Constraint__impl_allValid_1 := by
  refine entry_by (C := C_slices_ContainsFunc_impl_Constraint__impl_allValid_1) mixed tys_ok t_slices_ContainsFunc_impl_Constraint__impl_allValid_1 (fn := Try.f105) (c := bd Try.f105) (by kernel_rfl) (by kernel_rfl) (by kernel_rfl) (by kernel_rfl) ?_
  intro args st k he
  unfold c_slices_ContainsFunc_impl_Constraint__impl_allValid_1 at he
  split at he
  rotate_left
  · exact he.elim
  rename_i s_
  have he : Ok (slices_ContainsFunc_impl_Constraint__impl_allValid_1 s_) (fun r => k (.c (.bool r)) []) := he
  refine ⟨rfl, rfl, ?_⟩
  obtain ⟨r1_, hr, he⟩ := ok_bind he
  refine ⟨r1_, hr, ?_⟩
  have he := ok_some he
  exact ⟨rfl, _, _, Leads.refl _ _, he⟩

noncomputable def c_impl_allValid : Con := fun args st => match args, st with
  | [.c (.imm (.pair (.sl (.pair (.int .i64) (.int .i64))) (.int .i64)) list_)], [] => .opt (Bool) (impl_allValid list_) (fun r => .ret (.c (.bool r)) [])
  | _, _ => .fail

noncomputable def C_impl_allValid : Cfg := { y := tys, n := 6, h := 0, tab := [(105, c_slices_ContainsFunc_impl_Constraint__impl_allValid_1)], cut := [], hand := [], good := [], deep := [], sched := [] }

theorem t_impl_allValid : TabOk Try.prog C_impl_allValid := by
  refine tabOk_of ?_
  simp only [C_impl_allValid, List.forall_mem_cons]
  exact ⟨k_slices_ContainsFunc_impl_Constraint__impl_allValid_1, fun p h => by cases h⟩

theorem k_impl_allValid : Entry Try.prog 95 c_impl_allValid := by
  refine entry_by (C := C_impl_allValid) mixed tys_ok t_impl_allValid (fn := Try.f95) (c := bd Try.f95) (by kernel_rfl) (by kernel_rfl) (by kernel_rfl) (by kernel_rfl) ?_
  intro args st k he
  unfold c_impl_allValid at he
  split at he
  rotate_left
  · exact he.elim
  rename_i list_
  have he : Ok (impl_allValid list_) (fun r => k (.c (.bool r)) []) := he
  refine ⟨rfl, rfl, ?_⟩
  obtain ⟨r1_, hr, he⟩ := ok_bind he
  refine ⟨r1_, hr, ?_⟩
  have he := ok_some he
  exact ⟨rfl, _, _, Leads.refl _ _, he⟩

noncomputable def c_impl_ProblemValid : Con := fun args st => match args, st with
  | [.c (.imm (.pair (.sl (.pair (.int .i64) (.int .i64))) (.int .i64)) list_)], [] => .opt (Bool) (impl_ProblemValid list_) (fun r => .ret (.c (.bool r)) [])
  | _, _ => .fail

noncomputable def C_impl_ProblemValid : Cfg := { y := tys, n := 10, h := 0, tab := [(95, c_impl_allValid)], cut := [], hand := [], good := [], deep := [], sched := [] }

theorem t_impl_ProblemValid : TabOk Try.prog C_impl_ProblemValid := by
  refine tabOk_of ?_
  simp only [C_impl_ProblemValid, List.forall_mem_cons]
  exact ⟨k_impl_allValid, fun p h => by cases h⟩

theorem k_impl_ProblemValid : Entry Try.prog 53 c_impl_ProblemValid := by
  refine entry_by (C := C_impl_ProblemValid) mixed tys_ok t_impl_ProblemValid (fn := Try.f53) (c := bd Try.f53) (by kernel_rfl) (by kernel_rfl) (by kernel_rfl) (by kernel_rfl) ?_
  intro args st k he
  unfold c_impl_ProblemValid at he
  split at he
  rotate_left
  · exact he.elim
  rename_i list_
  have he : Ok (impl_ProblemValid list_) (fun r => k (.c (.bool r)) []) := he
  refine ⟨rfl, rfl, ?_⟩
  refine And.intro (fun hb => ?_) (fun hb => ?_)
  · have he := ok_t he hb
    obtain ⟨r1_, hr, he⟩ := ok_bind he
    refine ⟨r1_, hr, ?_⟩
    have he := ok_some he
    exact ⟨rfl, _, _, Leads.refl _ _, he⟩
  · have he := ok_f he hb
    have he := ok_some he
    exact ⟨rfl, _, _, Leads.refl _ _, he⟩

noncomputable def c_impl_Constraint_holds : Con := fun args st => match args, st with
  | [.agg [.imm (.pair (.int .i64) (.int .i64)) c__0, .int .i64 c__1], .c (.imm .bool values)], [] => .opt (Bool) (impl_Constraint_holds (c__0, c__1) values) (fun r => .ret (.c (.bool r)) [])
  | _, _ => .fail

noncomputable def C_impl_Constraint_holds : Cfg := { y := tys, n := 28, h := 0, tab := [(59, c_impl_holds)], cut := [], hand := [], good := [], deep := [], sched := [] }

theorem t_impl_Constraint_holds : TabOk Try.prog C_impl_Constraint_holds := by
  refine tabOk_of ?_
  simp only [C_impl_Constraint_holds, List.forall_mem_cons]
  exact ⟨k_impl_holds, fun p h => by cases h⟩

theorem k_impl_Constraint_holds : Entry Try.prog 102 c_impl_Constraint_holds := by
  refine entry_by (C := C_impl_Constraint_holds) mixed tys_ok t_impl_Constraint_holds (fn := Try.f102) (c := bd Try.f102) (by kernel_rfl) (by kernel_rfl) (by kernel_rfl) (by kernel_rfl) ?_
  intro args st k he
  unfold c_impl_Constraint_holds at he
  split at he
  rotate_left
  · exact he.elim
  rename_i c__0 c__1 values
  have he : Ok (impl_Constraint_holds (c__0, c__1) values) (fun r => k (.c (.bool r)) []) := he
  refine ⟨rfl, rfl, ?_⟩
  refine loop_model mixed tys_ok t_impl_Constraint_holds (S := Int × Int) (I := (fun (sum, i) => (envOf [(1, .c (.imm .bool values)), (2, .c (.ptr 10000000 0)), (5, .c (.int .i64 sum)), (9, .c (.imm (.pair (.int .i64) (.int .i64)) (c__0, c__1).1)), (10, .c (.int .i64 ((c__0, c__1).1.length:Int))), (11, .c (.int .i64 i))], [(10000000, .rc [.imm (.pair (.int .i64) (.int .i64)) (c__0, c__1).1, .int .i64 (c__0, c__1).2])]))) (f := impl_Constraint_holds_l1 (c__0, c__1) values) (K := (fun r => k (.c (.bool r)) [])) he (leads_ren [(10000000, 2)] (l := [(1, .c (.imm .bool values)), (2, .c (.ptr 10000000 0)), (5, .c (.int .i64 (0:Int))), (9, .c (.imm (.pair (.int .i64) (.int .i64)) (c__0, c__1).1)), (10, .c (.int .i64 ((c__0, c__1).1.length:Int))), (11, .c (.int .i64 (0:Int)))]) (st' := [(10000000, .rc [.imm (.pair (.int .i64) (.int .i64)) (c__0, c__1).1, .int .i64 (c__0, c__1).2])]) rfl rfl ⟨⟨.inl rfl, rfl, trivial⟩, trivial⟩ ⟨.inl rfl, ⟨⟨rfl, rfl⟩, rfl⟩, rfl, .inl rfl, rfl, rfl, trivial⟩) ?_
  rintro ⟨sum, i⟩ J1 he
  refine And.intro (fun hb => ?_) (fun hb => ?_)
  · have he := ok_t he hb
    have he := ok_rq he
    refine And.intro he.1 ?_
    have he := he.2
    obtain ⟨r1_, hr, he⟩ := ok_bind he
    refine ⟨r1_, hr, ?_⟩
    refine And.intro (fun hb => ?_) (fun hb => ?_)
    · have he := ok_t he hb
      have he := ok_rq he
      refine And.intro he.1 ?_
      have he := he.2
      have he := ok_rq he
      refine And.intro he.1 ?_
      have he := he.2
      have he := ok_some he
      exact ⟨((sum + ((c__0, c__1).1.getD i.toNat (0, 0)).1), (i + (1:Int))), he, (leads_ren [] (l := [(1, .c (.imm .bool values)), (2, .c (.ptr 10000000 0)), (5, .c (.int .i64 (sum + ((c__0, c__1).1.getD i.toNat (0, 0)).1))), (9, .c (.imm (.pair (.int .i64) (.int .i64)) (c__0, c__1).1)), (10, .c (.int .i64 ((c__0, c__1).1.length:Int))), (11, .c (.int .i64 (i + (1:Int))))]) (st' := [(10000000, .rc [.imm (.pair (.int .i64) (.int .i64)) (c__0, c__1).1, .int .i64 (c__0, c__1).2])]) rfl rfl ⟨⟨.inl rfl, rfl, trivial⟩, trivial⟩ ⟨.inl rfl, ⟨⟨rfl, rfl⟩, rfl⟩, rfl, .inl rfl, rfl, rfl, trivial⟩)⟩
    · have he := ok_f he hb
      have he := ok_rq he
      refine And.intro he.1 ?_
      have he := he.2
      have he := ok_some he
      exact ⟨(sum, (i + (1:Int))), he, (leads_ren [] (l := [(1, .c (.imm .bool values)), (2, .c (.ptr 10000000 0)), (5, .c (.int .i64 sum)), (9, .c (.imm (.pair (.int .i64) (.int .i64)) (c__0, c__1).1)), (10, .c (.int .i64 ((c__0, c__1).1.length:Int))), (11, .c (.int .i64 (i + (1:Int))))]) (st' := [(10000000, .rc [.imm (.pair (.int .i64) (.int .i64)) (c__0, c__1).1, .int .i64 (c__0, c__1).2])]) rfl rfl ⟨⟨.inl rfl, rfl, trivial⟩, trivial⟩ ⟨.inl rfl, ⟨⟨rfl, rfl⟩, rfl⟩, rfl, .inl rfl, rfl, rfl, trivial⟩)⟩
  · have he := ok_f he hb
    have he := ok_some he
    exact ⟨rfl, _, _, (leads_ren [] (l := [(4, .c (.bool (decide ((c__0, c__1).2 ≤ sum))))]) (st' := []) rfl rfl trivial ⟨.inl rfl, trivial⟩), he⟩

end Go.AE.Y
