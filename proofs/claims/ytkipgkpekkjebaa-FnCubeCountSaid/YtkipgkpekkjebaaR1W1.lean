/-
  Walks: each function keeps the contract that its model gives. No conditions.
-/
import Derived.Test.YtkipgkpekkjebaaR1Tab
import Derived.Test.YtkipgkpekkjebaaR1M
namespace Go.AE.Y
open Go Go.AE Go.Proofs
set_option linter.unusedVariables false
set_option maxHeartbeats 2000000
set_option maxRecDepth 100000

noncomputable def c_laws_toIntS : Con := fun args st => match args, st with
  | [.c (.imm (.int .i64) a)], [] => .opt ((List Int)) (laws_toIntS a) (fun r => .ret (.c (.own 900)) [(900, .sl 3 (.int .i64) r .shallow)])
  | _, _ => .fail

noncomputable def C_laws_toIntS : Cfg := { y := tys, n := 22, h := 0, tab := [], cut := [], hand := [], good := [], deep := [], sched := [] }

theorem t_laws_toIntS : TabOk Try.prog C_laws_toIntS := tabOk_of (fun p h => by cases h)

theorem k_laws_toIntS : Entry Try.prog 16 c_laws_toIntS := by
  refine entry_by (C := C_laws_toIntS) mixed tys_ok t_laws_toIntS (fn := Try.f16) (c := bd Try.f16) (by kernel_rfl) (by kernel_rfl) (by kernel_rfl) (by kernel_rfl) ?_
  intro args st k he
  unfold c_laws_toIntS at he
  split at he
  rotate_left
  · exact he.elim
  rename_i a
  have he : Ok (laws_toIntS a) (fun r => k (.c (.own 900)) [(900, .sl 3 (.int .i64) r .shallow)]) := he
  refine ⟨rfl, rfl, ?_⟩
  have he := ok_rq he
  refine And.intro he.1 ?_
  have he := he.2
  refine loop_model mixed tys_ok t_laws_toIntS (S := Int × (List Int)) (I := (fun (i, out) => (envOf [(0, .c (.imm (.int .i64) a)), (3, .c (.own 10000000)), (4, .c (.int .i64 i))], [(10000000, .sl 3 (.int .i64) out .shallow)]))) (f := laws_toIntS_l1 a) (K := (fun r => k (.c (.own 900)) [(900, .sl 3 (.int .i64) r .shallow)])) he (leads_ren [(10000000, 7)] (l := [(0, .c (.imm (.int .i64) a)), (3, .c (.own 10000000)), (4, .c (.int .i64 (0:Int)))]) (st' := [(10000000, .sl 3 (.int .i64) (List.replicate (a.length:Int).toNat 0) .shallow)]) rfl rfl ⟨⟨rfl, rfl⟩, trivial⟩ ⟨.inl rfl, ⟨rfl, rfl⟩, rfl, trivial⟩) ?_
  rintro ⟨i, out⟩ J1 he
  refine And.intro (fun hb => ?_) (fun hb => ?_)
  · have he := ok_t he hb
    have he := ok_rq he
    refine And.intro he.1 ?_
    have he := he.2
    have he := ok_rq he
    refine And.intro he.1 ?_
    have he := he.2
    have he := ok_rq he
    refine And.intro he.1 ?_
    have he := he.2
    have he := ok_some he
    exact ⟨((i + (1:Int)), (out.set i.toNat (a.getD i.toNat 0))), he, (leads_ren [] (l := [(0, .c (.imm (.int .i64) a)), (3, .c (.own 10000000)), (4, .c (.int .i64 (i + (1:Int))))]) (st' := [(10000000, .sl 3 (.int .i64) (out.set i.toNat (a.getD i.toNat 0)) .shallow)]) rfl rfl ⟨⟨rfl, rfl⟩, trivial⟩ ⟨.inl rfl, ⟨rfl, rfl⟩, rfl, trivial⟩)⟩
  · have he := ok_f he hb
    have he := ok_some he
    exact ⟨rfl, _, _, (leads_ren [(900, 10000000)] (l := [(2, .c (.own 900))]) (st' := [(900, .sl 3 (.int .i64) out .shallow)]) rfl rfl ⟨⟨rfl, rfl⟩, trivial⟩ ⟨⟨rfl, rfl⟩, trivial⟩), he⟩

noncomputable def c_laws_toBoolS : Con := fun args st => match args, st with
  | [.c (.imm .bool a)], [] => .opt ((List Bool)) (laws_toBoolS a) (fun r => .ret (.c (.own 900)) [(900, .sl 4 .bool r .shallow)])
  | _, _ => .fail

noncomputable def C_laws_toBoolS : Cfg := { y := tys, n := 22, h := 0, tab := [], cut := [], hand := [], good := [], deep := [], sched := [] }

theorem t_laws_toBoolS : TabOk Try.prog C_laws_toBoolS := tabOk_of (fun p h => by cases h)

theorem k_laws_toBoolS : Entry Try.prog 17 c_laws_toBoolS := by
  refine entry_by (C := C_laws_toBoolS) mixed tys_ok t_laws_toBoolS (fn := Try.f17) (c := bd Try.f17) (by kernel_rfl) (by kernel_rfl) (by kernel_rfl) (by kernel_rfl) ?_
  intro args st k he
  unfold c_laws_toBoolS at he
  split at he
  rotate_left
  · exact he.elim
  rename_i a
  have he : Ok (laws_toBoolS a) (fun r => k (.c (.own 900)) [(900, .sl 4 .bool r .shallow)]) := he
  refine ⟨rfl, rfl, ?_⟩
  have he := ok_rq he
  refine And.intro he.1 ?_
  have he := he.2
  refine loop_model mixed tys_ok t_laws_toBoolS (S := Int × (List Bool)) (I := (fun (i, out) => (envOf [(0, .c (.imm .bool a)), (3, .c (.own 10000000)), (4, .c (.int .i64 i))], [(10000000, .sl 4 .bool out .shallow)]))) (f := laws_toBoolS_l1 a) (K := (fun r => k (.c (.own 900)) [(900, .sl 4 .bool r .shallow)])) he (leads_ren [(10000000, 7)] (l := [(0, .c (.imm .bool a)), (3, .c (.own 10000000)), (4, .c (.int .i64 (0:Int)))]) (st' := [(10000000, .sl 4 .bool (List.replicate (a.length:Int).toNat false) .shallow)]) rfl rfl ⟨⟨rfl, rfl⟩, trivial⟩ ⟨.inl rfl, ⟨rfl, rfl⟩, rfl, trivial⟩) ?_
  rintro ⟨i, out⟩ J1 he
  refine And.intro (fun hb => ?_) (fun hb => ?_)
  · have he := ok_t he hb
    have he := ok_rq he
    refine And.intro he.1 ?_
    have he := he.2
    have he := ok_rq he
    refine And.intro he.1 ?_
    have he := he.2
    have he := ok_rq he
    refine And.intro he.1 ?_
    have he := he.2
    have he := ok_some he
    exact ⟨((i + (1:Int)), (out.set i.toNat (a.getD i.toNat false))), he, (leads_ren [] (l := [(0, .c (.imm .bool a)), (3, .c (.own 10000000)), (4, .c (.int .i64 (i + (1:Int))))]) (st' := [(10000000, .sl 4 .bool (out.set i.toNat (a.getD i.toNat false)) .shallow)]) rfl rfl ⟨⟨rfl, rfl⟩, trivial⟩ ⟨.inl rfl, ⟨rfl, rfl⟩, rfl, trivial⟩)⟩
  · have he := ok_f he hb
    have he := ok_some he
    exact ⟨rfl, _, _, (leads_ren [(900, 10000000)] (l := [(2, .c (.own 900))]) (st' := [(900, .sl 4 .bool out .shallow)]) rfl rfl ⟨⟨rfl, rfl⟩, trivial⟩ ⟨⟨rfl, rfl⟩, trivial⟩), he⟩

noncomputable def c_spec_l1Lit : Con := fun args st => match args, st with
  | [.c (.int .i64 n)], [] => .opt (Bool) (spec_l1Lit n) (fun r => .ret (.c (.bool r)) [])
  | _, _ => .fail

noncomputable def C_spec_l1Lit : Cfg := { y := tys, n := 13, h := 0, tab := [], cut := [], hand := [], good := [], deep := [], sched := [] }

theorem t_spec_l1Lit : TabOk Try.prog C_spec_l1Lit := tabOk_of (fun p h => by cases h)

theorem k_spec_l1Lit : Entry Try.prog 96 c_spec_l1Lit := by
  refine entry_by (C := C_spec_l1Lit) mixed tys_ok t_spec_l1Lit (fn := Try.f96) (c := bd Try.f96) (by kernel_rfl) (by kernel_rfl) (by kernel_rfl) (by kernel_rfl) ?_
  intro args st k he
  unfold c_spec_l1Lit at he
  split at he
  rotate_left
  · exact he.elim
  rename_i n
  have he : Ok (spec_l1Lit n) (fun r => k (.c (.bool r)) []) := he
  refine ⟨rfl, rfl, ?_⟩
  refine And.intro (fun hb => ?_) (fun hb => ?_)
  · have he := ok_t he hb
    refine And.intro (fun hb => ?_) (fun hb => ?_)
    · have he := ok_t he hb
      have he := ok_some he
      exact ⟨rfl, _, _, Leads.refl _ _, he⟩
    · have he := ok_f he hb
      have he := ok_some he
      exact ⟨rfl, _, _, Leads.refl _ _, he⟩
  · have he := ok_f he hb
    have he := ok_some he
    exact ⟨rfl, _, _, Leads.refl _ _, he⟩

noncomputable def c_spec_l1Abs : Con := fun args st => match args, st with
  | [.c (.int .i64 n)], [] => .opt (Int) (spec_l1Abs n) (fun r => .ret (.c (.int .i64 r)) [])
  | _, _ => .fail

noncomputable def C_spec_l1Abs : Cfg := { y := tys, n := 8, h := 0, tab := [], cut := [], hand := [], good := [], deep := [], sched := [] }

theorem t_spec_l1Abs : TabOk Try.prog C_spec_l1Abs := tabOk_of (fun p h => by cases h)

theorem k_spec_l1Abs : Entry Try.prog 69 c_spec_l1Abs := by
  refine entry_by (C := C_spec_l1Abs) mixed tys_ok t_spec_l1Abs (fn := Try.f69) (c := bd Try.f69) (by kernel_rfl) (by kernel_rfl) (by kernel_rfl) (by kernel_rfl) ?_
  intro args st k he
  unfold c_spec_l1Abs at he
  split at he
  rotate_left
  · exact he.elim
  rename_i n
  have he : Ok (spec_l1Abs n) (fun r => k (.c (.int .i64 r)) []) := he
  refine ⟨rfl, rfl, ?_⟩
  refine And.intro (fun hb => ?_) (fun hb => ?_)
  · have he := ok_t he hb
    have he := ok_rq he
    refine And.intro he.1 ?_
    have he := he.2
    have he := ok_some he
    exact ⟨rfl, _, _, Leads.refl _ _, he⟩
  · have he := ok_f he hb
    have he := ok_some he
    exact ⟨rfl, _, _, Leads.refl _ _, he⟩

noncomputable def c_spec_l12Vars : Con := fun args st => match args, st with
  | [.c (.imm (.int .i64) vars)], [] => .opt (Bool) (spec_l12Vars vars) (fun r => .ret (.c (.bool r)) [])
  | _, _ => .fail

noncomputable def C_spec_l12Vars : Cfg := { y := tys, n := 41, h := 0, tab := [], cut := [], hand := [], good := [], deep := [], sched := [] }

theorem t_spec_l12Vars : TabOk Try.prog C_spec_l12Vars := tabOk_of (fun p h => by cases h)

theorem k_spec_l12Vars : Entry Try.prog 60 c_spec_l12Vars := by
  refine entry_by (C := C_spec_l12Vars) mixed tys_ok t_spec_l12Vars (fn := Try.f60) (c := bd Try.f60) (by kernel_rfl) (by kernel_rfl) (by kernel_rfl) (by kernel_rfl) ?_
  intro args st k he
  unfold c_spec_l12Vars at he
  split at he
  rotate_left
  · exact he.elim
  rename_i vars
  have he : Ok (spec_l12Vars vars) (fun r => k (.c (.bool r)) []) := he
  refine ⟨rfl, rfl, ?_⟩
  refine loop_model mixed tys_ok t_spec_l12Vars (S := Int) (I := (fun i => (envOf [(0, .c (.imm (.int .i64) vars)), (3, .c (.int .i64 i))], []))) (f := spec_l12Vars_l1 vars) (K := (fun r => k (.c (.bool r)) [])) he (leads_ren [] (l := [(0, .c (.imm (.int .i64) vars)), (3, .c (.int .i64 (0:Int)))]) (st' := []) rfl rfl trivial ⟨.inl rfl, rfl, trivial⟩) ?_
  rintro i J1 he
  refine And.intro (fun hb => ?_) (fun hb => ?_)
  · have he := ok_t he hb
    refine And.intro (by kernel_rfl) ?_
    have he := ok_rq he
    refine And.intro he.1 ?_
    have he := he.2
    refine And.intro (fun hb => ?_) (fun hb => ?_)
    · have he := ok_f he hb
      have he := ok_rq he
      refine And.intro he.1 ?_
      have he := he.2
      refine And.intro (fun hb => ?_) (fun hb => ?_)
      · have he := ok_f he hb
        refine And.intro (fun hb => ?_) (fun hb => ?_)
        · have he := ok_t he hb
          have he := ok_rq he
          refine And.intro he.1 ?_
          have he := he.2
          have he := ok_rq he
          refine And.intro he.1 ?_
          have he := he.2
          have he := ok_rq he
          refine And.intro he.1 ?_
          have he := he.2
          refine And.intro (fun hb => ?_) (fun hb => ?_)
          · have he := ok_t he hb
            have he := ok_some he
            exact ⟨rfl, _, _, Leads.refl _ _, he⟩
          · have he := ok_f he hb
            have he := ok_rq he
            refine And.intro he.1 ?_
            have he := he.2
            have he := ok_some he
            exact ⟨(i + (1:Int)), he, (leads_ren [] (l := [(0, .c (.imm (.int .i64) vars)), (3, .c (.int .i64 (i + (1:Int))))]) (st' := []) rfl rfl trivial ⟨.inl rfl, rfl, trivial⟩)⟩
        · have he := ok_f he hb
          have he := ok_rq he
          refine And.intro he.1 ?_
          have he := he.2
          have he := ok_some he
          exact ⟨(i + (1:Int)), he, (leads_ren [] (l := [(0, .c (.imm (.int .i64) vars)), (3, .c (.int .i64 (i + (1:Int))))]) (st' := []) rfl rfl trivial ⟨.inl rfl, rfl, trivial⟩)⟩
      · have he := ok_t he hb
        have he := ok_some he
        exact ⟨rfl, _, _, Leads.refl _ _, he⟩
    · have he := ok_t he hb
      have he := ok_some he
      exact ⟨rfl, _, _, Leads.refl _ _, he⟩
  · have he := ok_f he hb
    have he := ok_some he
    exact ⟨rfl, _, _, Leads.refl _ _, he⟩

noncomputable def c_spec_l12Cube : Con := fun args st => match args, st with
  | [.c (.imm (.int .i64) cube)], [] => .opt (Bool) (spec_l12Cube cube) (fun r => .ret (.c (.bool r)) [])
  | _, _ => .fail

noncomputable def C_spec_l12Cube : Cfg := { y := tys, n := 28, h := 0, tab := [(60, c_spec_l12Vars), (69, c_spec_l1Abs), (96, c_spec_l1Lit)], cut := [8], hand := [], good := [], deep := [], sched := [] }

theorem t_spec_l12Cube : TabOk Try.prog C_spec_l12Cube := by
  refine tabOk_of ?_
  simp only [C_spec_l12Cube, List.forall_mem_cons]
  exact ⟨k_spec_l12Vars, k_spec_l1Abs, k_spec_l1Lit, fun p h => by cases h⟩

theorem k_spec_l12Cube : Entry Try.prog 54 c_spec_l12Cube := by
  refine entry_by (C := C_spec_l12Cube) mixed tys_ok t_spec_l12Cube (fn := Try.f54) (c := bd Try.f54) (by kernel_rfl) (by kernel_rfl) (by kernel_rfl) (by kernel_rfl) ?_
  intro args st k he
  unfold c_spec_l12Cube at he
  split at he
  rotate_left
  · exact he.elim
  rename_i cube
  have he : Ok (spec_l12Cube cube) (fun r => k (.c (.bool r)) []) := he
  refine ⟨rfl, rfl, ?_⟩
  refine seq_model mixed tys_ok t_spec_l12Cube (S := (List Int)) (I := (fun vars1 => (envOf [(3, .c (.own 10001000))], [(10001000, .sl 3 (.int .i64) vars1 .shallow)]))) (B := fun s => Ok (spec_l12Cube_j1 s) (fun r => k (.c (.bool r)) [])) ?_ ?_
  · rintro vars1 he
    obtain ⟨r5_, hr, he⟩ := ok_bind he
    refine ⟨r5_, hr, ?_⟩
    have he := ok_some he
    exact ⟨rfl, _, _, (leads_ren [] (l := [(2, .c (.bool r5_))]) (st' := []) rfl rfl trivial ⟨.inl rfl, trivial⟩), he⟩
  · skip
    refine loop_model mixed tys_ok t_spec_l12Cube (S := Int × (List Int)) (I := (fun (i, vars) => (envOf [(0, .c (.imm (.int .i64) cube)), (3, .c (.own 10000000)), (4, .c (.int .i64 i))], [(10000000, .sl 3 (.int .i64) vars .shallow)]))) (f := spec_l12Cube_l1 cube) (K := (fun r => k (.c (.bool r)) [])) he (leads_ren [(10000000, 5)] (l := [(0, .c (.imm (.int .i64) cube)), (3, .c (.own 10000000)), (4, .c (.int .i64 (0:Int)))]) (st' := [(10000000, .sl 3 (.int .i64) ([] : List Int) .shallow)]) rfl rfl ⟨⟨rfl, rfl⟩, trivial⟩ ⟨.inl rfl, ⟨rfl, rfl⟩, rfl, trivial⟩) ?_
    rintro ⟨i, vars⟩ J1 he
    refine And.intro (fun hb => ?_) (fun hb => ?_)
    · have he := ok_t he hb
      have he := ok_rq he
      refine And.intro he.1 ?_
      have he := he.2
      obtain ⟨r3_, hr, he⟩ := ok_bind he
      refine ⟨r3_, hr, ?_⟩
      refine And.intro (fun hb => ?_) (fun hb => ?_)
      · have he := ok_t he hb
        have he := ok_some he
        exact ⟨rfl, _, _, (leads_ren [] (l := [(2, .c (.bool false))]) (st' := []) rfl rfl trivial ⟨.inr rfl, trivial⟩), he⟩
      · have he := ok_f he hb
        have he := ok_rq he
        refine And.intro he.1 ?_
        have he := he.2
        obtain ⟨r4_, hr, he⟩ := ok_bind he
        refine ⟨r4_, hr, ?_⟩
        have he := ok_rq he
        refine And.intro he.1 ?_
        have he := he.2
        have he := ok_rq he
        refine And.intro he.1 ?_
        have he := he.2
        have he := ok_some he
        exact ⟨((i + (1:Int)), (vars ++ [r4_])), he, (leads_ren [(10000000, 25)] (l := [(0, .c (.imm (.int .i64) cube)), (3, .c (.own 10000000)), (4, .c (.int .i64 (i + (1:Int))))]) (st' := [(10000000, .sl 3 (.int .i64) (vars ++ [r4_]) .shallow)]) rfl rfl ⟨⟨rfl, rfl⟩, trivial⟩ ⟨.inl rfl, ⟨rfl, rfl⟩, rfl, trivial⟩)⟩
    · have he := ok_f he hb
      exact ⟨vars, ok_up he, (leads_ren [(10001000, 10000000)] (l := [(3, .c (.own 10001000))]) (st' := [(10001000, .sl 3 (.int .i64) vars .shallow)]) rfl rfl ⟨⟨rfl, rfl⟩, trivial⟩ ⟨⟨rfl, rfl⟩, trivial⟩)⟩

noncomputable def c_spec_l1True : Con := fun args st => match args, st with
  | [.c (.imm .bool values), .c (.int .i64 lit)], [] => .opt (Bool) (spec_l1True values lit) (fun r => .ret (.c (.bool r)) [])
  | _, _ => .fail

noncomputable def C_spec_l1True : Cfg := { y := tys, n := 19, h := 0, tab := [], cut := [], hand := [], good := [], deep := [], sched := [] }

theorem t_spec_l1True : TabOk Try.prog C_spec_l1True := tabOk_of (fun p h => by cases h)

theorem k_spec_l1True : Entry Try.prog 55 c_spec_l1True := by
  refine entry_by (C := C_spec_l1True) mixed tys_ok t_spec_l1True (fn := Try.f55) (c := bd Try.f55) (by kernel_rfl) (by kernel_rfl) (by kernel_rfl) (by kernel_rfl) ?_
  intro args st k he
  unfold c_spec_l1True at he
  split at he
  rotate_left
  · exact he.elim
  rename_i values lit
  have he : Ok (spec_l1True values lit) (fun r => k (.c (.bool r)) []) := he
  refine ⟨rfl, rfl, ?_⟩
  refine And.intro (fun hb => ?_) (fun hb => ?_)
  · have he := ok_t he hb
    have he := ok_rq he
    refine And.intro he.1 ?_
    have he := he.2
    have he := ok_rq he
    refine And.intro he.1 ?_
    have he := he.2
    have he := ok_some he
    exact ⟨rfl, _, _, Leads.refl _ _, he⟩
  · have he := ok_f he hb
    have he := ok_rq he
    refine And.intro he.1 ?_
    have he := he.2
    have he := ok_rq he
    refine And.intro he.1 ?_
    have he := he.2
    have he := ok_rq he
    refine And.intro he.1 ?_
    have he := he.2
    have he := ok_some he
    exact ⟨rfl, _, _, Leads.refl _ _, he⟩

noncomputable def c_spec_CubeHolds : Con := fun args st => match args, st with
  | [.c (.imm (.int .i64) cube), .c (.imm .bool values)], [] => .opt (Bool) (spec_CubeHolds cube values) (fun r => .ret (.c (.bool r)) [])
  | _, _ => .fail

noncomputable def C_spec_CubeHolds : Cfg := { y := tys, n := 27, h := 0, tab := [(54, c_spec_l12Cube), (55, c_spec_l1True)], cut := [], hand := [], good := [], deep := [], sched := [] }

theorem t_spec_CubeHolds : TabOk Try.prog C_spec_CubeHolds := by
  refine tabOk_of ?_
  simp only [C_spec_CubeHolds, List.forall_mem_cons]
  exact ⟨k_spec_l12Cube, k_spec_l1True, fun p h => by cases h⟩

theorem k_spec_CubeHolds : Entry Try.prog 15 c_spec_CubeHolds := by
  refine entry_by (C := C_spec_CubeHolds) mixed tys_ok t_spec_CubeHolds (fn := Try.f15) (c := bd Try.f15) (by kernel_rfl) (by kernel_rfl) (by kernel_rfl) (by kernel_rfl) ?_
  intro args st k he
  unfold c_spec_CubeHolds at he
  split at he
  rotate_left
  · exact he.elim
  rename_i cube values
  have he : Ok (spec_CubeHolds cube values) (fun r => k (.c (.bool r)) []) := he
  refine ⟨rfl, rfl, ?_⟩
  obtain ⟨r1_, hr, he⟩ := ok_bind he
  refine ⟨r1_, hr, ?_⟩
  refine And.intro (fun hb => ?_) (fun hb => ?_)
  · have he := ok_f he hb
    refine And.intro (fun hb => ?_) (fun hb => ?_)
    · have he := ok_t he hb
      have he := ok_some he
      exact ⟨rfl, _, _, Leads.refl _ _, he⟩
    · have he := ok_f he hb
      refine loop_model mixed tys_ok t_spec_CubeHolds (S := Int) (I := (fun i => (envOf [(0, .c (.imm (.int .i64) cube)), (1, .c (.imm .bool values)), (5, .c (.int .i64 i))], []))) (f := spec_CubeHolds_l1 cube values) (K := (fun r => k (.c (.bool r)) [])) he (leads_ren [] (l := [(0, .c (.imm (.int .i64) cube)), (1, .c (.imm .bool values)), (5, .c (.int .i64 (0:Int)))]) (st' := []) rfl rfl trivial ⟨.inl rfl, .inl rfl, rfl, trivial⟩) ?_
      rintro i J1 he
      refine And.intro (fun hb => ?_) (fun hb => ?_)
      · have he := ok_t he hb
        have he := ok_rq he
        refine And.intro he.1 ?_
        have he := he.2
        obtain ⟨r2_, hr, he⟩ := ok_bind he
        refine ⟨r2_, hr, ?_⟩
        refine And.intro (fun hb => ?_) (fun hb => ?_)
        · have he := ok_t he hb
          have he := ok_some he
          exact ⟨rfl, _, _, Leads.refl _ _, he⟩
        · have he := ok_f he hb
          have he := ok_rq he
          refine And.intro he.1 ?_
          have he := he.2
          have he := ok_some he
          exact ⟨(i + (1:Int)), he, (leads_ren [] (l := [(0, .c (.imm (.int .i64) cube)), (1, .c (.imm .bool values)), (5, .c (.int .i64 (i + (1:Int))))]) (st' := []) rfl rfl trivial ⟨.inl rfl, .inl rfl, rfl, trivial⟩)⟩
      · have he := ok_f he hb
        have he := ok_some he
        exact ⟨rfl, _, _, Leads.refl _ _, he⟩
  · have he := ok_t he hb
    have he := ok_some he
    exact ⟨rfl, _, _, Leads.refl _ _, he⟩

noncomputable def c_impl_within : Con := fun args st => match args, st with
  | [.c (.int .i64 n), .c (.int .i64 low), .c (.int .i64 high)], [] => .opt (Bool) (impl_within n low high) (fun r => .ret (.c (.bool r)) [])
  | _, _ => .fail

noncomputable def C_impl_within : Cfg := { y := tys, n := 15, h := 0, tab := [], cut := [], hand := [], good := [], deep := [], sched := [] }

theorem t_impl_within : TabOk Try.prog C_impl_within := tabOk_of (fun p h => by cases h)

theorem k_impl_within : Entry Try.prog 100 c_impl_within := by
  refine entry_by (C := C_impl_within) mixed tys_ok t_impl_within (fn := Try.f100) (c := bd Try.f100) (by kernel_rfl) (by kernel_rfl) (by kernel_rfl) (by kernel_rfl) ?_
  intro args st k he
  unfold c_impl_within at he
  split at he
  rotate_left
  · exact he.elim
  rename_i n low high
  have he : Ok (impl_within n low high) (fun r => k (.c (.bool r)) []) := he
  refine ⟨rfl, rfl, ?_⟩
  refine And.intro (fun hb => ?_) (fun hb => ?_)
  · have he := ok_t he hb
    have he := ok_some he
    exact ⟨rfl, _, _, Leads.refl _ _, he⟩
  · have he := ok_f he hb
    have he := ok_some he
    exact ⟨rfl, _, _, Leads.refl _ _, he⟩

noncomputable def c_impl_isLiteral : Con := fun args st => match args, st with
  | [.c (.int .i64 l)], [] => .opt (Bool) (impl_isLiteral l) (fun r => .ret (.c (.bool r)) [])
  | _, _ => .fail

noncomputable def C_impl_isLiteral : Cfg := { y := tys, n := 9, h := 0, tab := [(100, c_impl_within)], cut := [], hand := [], good := [], deep := [], sched := [] }

theorem t_impl_isLiteral : TabOk Try.prog C_impl_isLiteral := by
  refine tabOk_of ?_
  simp only [C_impl_isLiteral, List.forall_mem_cons]
  exact ⟨k_impl_within, fun p h => by cases h⟩

theorem k_impl_isLiteral : Entry Try.prog 97 c_impl_isLiteral := by
  refine entry_by (C := C_impl_isLiteral) mixed tys_ok t_impl_isLiteral (fn := Try.f97) (c := bd Try.f97) (by kernel_rfl) (by kernel_rfl) (by kernel_rfl) (by kernel_rfl) ?_
  intro args st k he
  unfold c_impl_isLiteral at he
  split at he
  rotate_left
  · exact he.elim
  rename_i l
  have he : Ok (impl_isLiteral l) (fun r => k (.c (.bool r)) []) := he
  refine ⟨rfl, rfl, ?_⟩
  refine And.intro (fun hb => ?_) (fun hb => ?_)
  · have he := ok_t he hb
    obtain ⟨r1_, hr, he⟩ := ok_bind he
    refine ⟨r1_, hr, ?_⟩
    have he := ok_some he
    exact ⟨rfl, _, _, Leads.refl _ _, he⟩
  · have he := ok_f he hb
    have he := ok_some he
    exact ⟨rfl, _, _, Leads.refl _ _, he⟩

noncomputable def c_impl_variableOf : Con := fun args st => match args, st with
  | [.c (.int .i64 l)], [] => .opt (Int) (impl_variableOf l) (fun r => .ret (.c (.int .i64 r)) [])
  | _, _ => .fail

noncomputable def C_impl_variableOf : Cfg := { y := tys, n := 7, h := 0, tab := [], cut := [], hand := [], good := [], deep := [], sched := [] }

theorem t_impl_variableOf : TabOk Try.prog C_impl_variableOf := tabOk_of (fun p h => by cases h)

theorem k_impl_variableOf : Entry Try.prog 98 c_impl_variableOf := by
  refine entry_by (C := C_impl_variableOf) mixed tys_ok t_impl_variableOf (fn := Try.f98) (c := bd Try.f98) (by kernel_rfl) (by kernel_rfl) (by kernel_rfl) (by kernel_rfl) ?_
  intro args st k he
  unfold c_impl_variableOf at he
  split at he
  rotate_left
  · exact he.elim
  rename_i l
  have he : Ok (impl_variableOf l) (fun r => k (.c (.int .i64 r)) []) := he
  refine ⟨rfl, rfl, ?_⟩
  have he := ok_rq he
  refine And.intro he.1 ?_
  have he := he.2
  have he := ok_some he
  exact ⟨rfl, _, _, Leads.refl _ _, he⟩

noncomputable def c_impl_isCube : Con := fun args st => match args, st with
  | [.c (.imm (.int .i64) cube)], [] => .opt (Bool) (impl_isCube cube) (fun r => .ret (.c (.bool r)) [])
  | _, _ => .fail

noncomputable def C_impl_isCube : Cfg := { y := tys, n := 34, h := 0, tab := [(97, c_impl_isLiteral), (98, c_impl_variableOf)], cut := [], hand := [], good := [], deep := [], sched := [] }

theorem t_impl_isCube : TabOk Try.prog C_impl_isCube := by
  refine tabOk_of ?_
  simp only [C_impl_isCube, List.forall_mem_cons]
  exact ⟨k_impl_isLiteral, k_impl_variableOf, fun p h => by cases h⟩

theorem k_impl_isCube : Entry Try.prog 56 c_impl_isCube := by
  refine entry_by (C := C_impl_isCube) mixed tys_ok t_impl_isCube (fn := Try.f56) (c := bd Try.f56) (by kernel_rfl) (by kernel_rfl) (by kernel_rfl) (by kernel_rfl) ?_
  intro args st k he
  unfold c_impl_isCube at he
  split at he
  rotate_left
  · exact he.elim
  rename_i cube
  have he : Ok (impl_isCube cube) (fun r => k (.c (.bool r)) []) := he
  refine ⟨rfl, rfl, ?_⟩
  refine loop_model mixed tys_ok t_impl_isCube (S := Int) (I := (fun i => (envOf [(0, .c (.imm (.int .i64) cube)), (5, .c (.imm (.int .i64) cube)), (6, .c (.int .i64 (cube.length:Int))), (7, .c (.int .i64 i))], []))) (f := impl_isCube_l1 cube) (K := (fun r => k (.c (.bool r)) [])) he (leads_ren [] (l := [(0, .c (.imm (.int .i64) cube)), (5, .c (.imm (.int .i64) cube)), (6, .c (.int .i64 (cube.length:Int))), (7, .c (.int .i64 (0:Int)))]) (st' := []) rfl rfl trivial ⟨.inl rfl, .inl rfl, rfl, rfl, trivial⟩) ?_
  rintro i J1 he
  refine And.intro (fun hb => ?_) (fun hb => ?_)
  · have he := ok_t he hb
    have he := ok_rq he
    refine And.intro he.1 ?_
    have he := he.2
    obtain ⟨r1_, hr, he⟩ := ok_bind he
    refine ⟨r1_, hr, ?_⟩
    refine And.intro (fun hb => ?_) (fun hb => ?_)
    · have he := ok_f he hb
      refine And.intro (fun hb => ?_) (fun hb => ?_)
      · have he := ok_t he hb
        have he := ok_rq he
        refine And.intro he.1 ?_
        have he := he.2
        have he := ok_rq he
        refine And.intro he.1 ?_
        have he := he.2
        obtain ⟨r2_, hr, he⟩ := ok_bind he
        refine ⟨r2_, hr, ?_⟩
        obtain ⟨r3_, hr, he⟩ := ok_bind he
        refine ⟨r3_, hr, ?_⟩
        refine And.intro (fun hb => ?_) (fun hb => ?_)
        · have he := ok_t he hb
          have he := ok_some he
          exact ⟨rfl, _, _, Leads.refl _ _, he⟩
        · have he := ok_f he hb
          have he := ok_rq he
          refine And.intro he.1 ?_
          have he := he.2
          have he := ok_some he
          exact ⟨(i + (1:Int)), he, (leads_ren [] (l := [(0, .c (.imm (.int .i64) cube)), (5, .c (.imm (.int .i64) cube)), (6, .c (.int .i64 (cube.length:Int))), (7, .c (.int .i64 (i + (1:Int))))]) (st' := []) rfl rfl trivial ⟨.inl rfl, .inl rfl, rfl, rfl, trivial⟩)⟩
      · have he := ok_f he hb
        have he := ok_rq he
        refine And.intro he.1 ?_
        have he := he.2
        have he := ok_some he
        exact ⟨(i + (1:Int)), he, (leads_ren [] (l := [(0, .c (.imm (.int .i64) cube)), (5, .c (.imm (.int .i64) cube)), (6, .c (.int .i64 (cube.length:Int))), (7, .c (.int .i64 (i + (1:Int))))]) (st' := []) rfl rfl trivial ⟨.inl rfl, .inl rfl, rfl, rfl, trivial⟩)⟩
    · have he := ok_t he hb
      have he := ok_some he
      exact ⟨rfl, _, _, Leads.refl _ _, he⟩
  · have he := ok_f he hb
    have he := ok_some he
    exact ⟨rfl, _, _, Leads.refl _ _, he⟩

noncomputable def c_impl_holds : Con := fun args st => match args, st with
  | [.c (.int .i64 l), .c (.imm .bool values)], [] => .opt (Bool) (impl_holds l values) (fun r => .ret (.c (.bool r)) [])
  | _, _ => .fail

noncomputable def C_impl_holds : Cfg := { y := tys, n := 14, h := 0, tab := [(98, c_impl_variableOf)], cut := [], hand := [], good := [], deep := [], sched := [] }

theorem t_impl_holds : TabOk Try.prog C_impl_holds := by
  refine tabOk_of ?_
  simp only [C_impl_holds, List.forall_mem_cons]
  exact ⟨k_impl_variableOf, fun p h => by cases h⟩

theorem k_impl_holds : Entry Try.prog 59 c_impl_holds := by
  refine entry_by (C := C_impl_holds) mixed tys_ok t_impl_holds (fn := Try.f59) (c := bd Try.f59) (by kernel_rfl) (by kernel_rfl) (by kernel_rfl) (by kernel_rfl) ?_
  intro args st k he
  unfold c_impl_holds at he
  split at he
  rotate_left
  · exact he.elim
  rename_i l values
  have he : Ok (impl_holds l values) (fun r => k (.c (.bool r)) []) := he
  refine ⟨rfl, rfl, ?_⟩
  obtain ⟨r1_, hr, he⟩ := ok_bind he
  refine ⟨r1_, hr, ?_⟩
  have he := ok_rq he
  refine And.intro he.1 ?_
  have he := he.2
  have he := ok_rq he
  refine And.intro he.1 ?_
  have he := he.2
  have he := ok_some he
  exact ⟨rfl, _, _, Leads.refl _ _, he⟩

noncomputable def c_impl_CubeHolds_1 : Con := fun args st => match args, st with
  | [.c (.int .i64 l), .c (.ptr 0 0)], [(0, .rc [.imm .bool o0])] => .opt (Bool) (impl_CubeHolds_1 l o0) (fun r => .ret (.c (.bool r)) [(0, .rc [.imm .bool o0])])
  | _, _ => .fail

noncomputable def C_impl_CubeHolds_1 : Cfg := { y := tys, n := 8, h := 1, tab := [(59, c_impl_holds)], cut := [], hand := [], good := [], deep := [], sched := [] }

theorem t_impl_CubeHolds_1 : TabOk Try.prog C_impl_CubeHolds_1 := by
  refine tabOk_of ?_
  simp only [C_impl_CubeHolds_1, List.forall_mem_cons]
  exact ⟨k_impl_holds, fun p h => by cases h⟩

theorem k_impl_CubeHolds_1 : Entry Try.prog 58 c_impl_CubeHolds_1 := by
  refine entry_by (C := C_impl_CubeHolds_1) mixed tys_ok t_impl_CubeHolds_1 (fn := Try.f58) (c := bd Try.f58) (by kernel_rfl) (by kernel_rfl) (by kernel_rfl) (by kernel_rfl) ?_
  intro args st k he
  unfold c_impl_CubeHolds_1 at he
  split at he
  rotate_left
  · exact he.elim
  rename_i l o0
  have he : Ok (impl_CubeHolds_1 l o0) (fun r => k (.c (.bool r)) [(0, .rc [.imm .bool o0])]) := he
  refine ⟨rfl, rfl, ?_⟩
  obtain ⟨r1_, hr, he⟩ := ok_bind he
  refine ⟨r1_, hr, ?_⟩
  have he := ok_some he
  exact ⟨rfl, _, _, (leads_ren [] (l := [(3, .c (.bool (!r1_)))]) (st' := [(0, .rc [.imm .bool o0])]) rfl rfl ⟨⟨.inl rfl, trivial⟩, trivial⟩ ⟨.inl rfl, trivial⟩), he⟩

noncomputable def c_slices_IndexFunc_int__impl_CubeHolds_1 : Con := fun args st => match args, st with
  | [.c (.imm (.int .i64) s_), .c (.fn 58 [0])], [(0, .rc [.imm .bool o0])] => .opt (Int) (slices_IndexFunc_int__impl_CubeHolds_1 s_ o0) (fun r => .ret (.c (.int .i64 r)) [(0, .rc [.imm .bool o0])])
  | _, _ => .fail

noncomputable def C_slices_IndexFunc_int__impl_CubeHolds_1 : Cfg := { y := tys, n := 19, h := 1, tab := [(58, c_impl_CubeHolds_1)], cut := [], hand := [], good := [], deep := [], sched := [] }

theorem t_slices_IndexFunc_int__impl_CubeHolds_1 : TabOk Try.prog C_slices_IndexFunc_int__impl_CubeHolds_1 := by
  refine tabOk_of ?_
  simp only [C_slices_IndexFunc_int__impl_CubeHolds_1, List.forall_mem_cons]
  exact ⟨k_impl_CubeHolds_1, fun p h => by cases h⟩

theorem k_slices_IndexFunc_int__impl_CubeHolds_1 : Entry Try.prog 99 c_slices_IndexFunc_int__impl_CubeHolds_1 := by
  refine entry_by (C := C_slices_IndexFunc_int__impl_CubeHolds_1) mixed tys_ok t_slices_IndexFunc_int__impl_CubeHolds_1 (fn := Try.f99) (c := bd Try.f99) (by kernel_rfl) (by kernel_rfl) (by kernel_rfl) (by kernel_rfl) ?_
  intro args st k he
  unfold c_slices_IndexFunc_int__impl_CubeHolds_1 at he
  split at he
  rotate_left
  · exact he.elim
  rename_i s_ o0
  have he : Ok (slices_IndexFunc_int__impl_CubeHolds_1 s_ o0) (fun r => k (.c (.int .i64 r)) [(0, .rc [.imm .bool o0])]) := he
  refine ⟨rfl, rfl, ?_⟩
  refine loop_model mixed tys_ok t_slices_IndexFunc_int__impl_CubeHolds_1 (S := Int) (I := (fun i => (envOf [(0, .c (.imm (.int .i64) s_)), (1, .c (.fn 58 [0])), (7, .c (.int .i64 (s_.length:Int))), (8, .c (.int .i64 i))], [(0, .rc [.imm .bool o0])]))) (f := slices_IndexFunc_int__impl_CubeHolds_1_l1 s_ o0) (K := (fun r => k (.c (.int .i64 r)) [(0, .rc [.imm .bool o0])])) he (leads_ren [] (l := [(0, .c (.imm (.int .i64) s_)), (1, .c (.fn 58 [0])), (7, .c (.int .i64 (s_.length:Int))), (8, .c (.int .i64 (0:Int)))]) (st' := [(0, .rc [.imm .bool o0])]) rfl rfl ⟨⟨.inl rfl, trivial⟩, trivial⟩ ⟨.inl rfl, ⟨rfl, ⟨⟨rfl, rfl⟩, trivial⟩⟩, rfl, rfl, trivial⟩) ?_
  rintro i J1 he
  refine And.intro (fun hb => ?_) (fun hb => ?_)
  · have he := ok_t he hb
    have he := ok_rq he
    refine And.intro he.1 ?_
    have he := he.2
    obtain ⟨r1_, hr, he⟩ := ok_bind he
    refine ⟨r1_, hr, ?_⟩
    refine And.intro (fun hb => ?_) (fun hb => ?_)
    · have he := ok_t he hb
      have he := ok_some he
      exact ⟨rfl, _, _, (leads_ren [] (l := [(4, .c (.int .i64 i))]) (st' := [(0, .rc [.imm .bool o0])]) rfl rfl ⟨⟨.inl rfl, trivial⟩, trivial⟩ ⟨rfl, trivial⟩), he⟩
    · have he := ok_f he hb
      have he := ok_rq he
      refine And.intro he.1 ?_
      have he := he.2
      have he := ok_some he
      exact ⟨(i + (1:Int)), he, (leads_ren [] (l := [(0, .c (.imm (.int .i64) s_)), (1, .c (.fn 58 [0])), (7, .c (.int .i64 (s_.length:Int))), (8, .c (.int .i64 (i + (1:Int))))]) (st' := [(0, .rc [.imm .bool o0])]) rfl rfl ⟨⟨.inl rfl, trivial⟩, trivial⟩ ⟨.inl rfl, ⟨rfl, ⟨⟨rfl, rfl⟩, trivial⟩⟩, rfl, rfl, trivial⟩)⟩
  · have he := ok_f he hb
    have he := ok_some he
    exact ⟨rfl, _, _, (leads_ren [] (l := [(4, .c (.int .i64 (-1:Int)))]) (st' := [(0, .rc [.imm .bool o0])]) rfl rfl ⟨⟨.inl rfl, trivial⟩, trivial⟩ ⟨rfl, trivial⟩), he⟩

noncomputable def c_slices_ContainsFunc_int__impl_CubeHolds_1 : Con := fun args st => match args, st with
  | [.c (.imm (.int .i64) s_), .c (.fn 58 [0])], [(0, .rc [.imm .bool o0])] => .opt (Bool) (slices_ContainsFunc_int__impl_CubeHolds_1 s_ o0) (fun r => .ret (.c (.bool r)) [(0, .rc [.imm .bool o0])])
  | _, _ => .fail

noncomputable def C_slices_ContainsFunc_int__impl_CubeHolds_1 : Cfg := { y := tys, n := 9, h := 1, tab := [(99, c_slices_IndexFunc_int__impl_CubeHolds_1)], cut := [], hand := [], good := [], deep := [], sched := [] }

theorem t_slices_ContainsFunc_int__impl_CubeHolds_1 : TabOk Try.prog C_slices_ContainsFunc_int__impl_CubeHolds_1 := by
  refine tabOk_of ?_
  simp only [C_slices_ContainsFunc_int__impl_CubeHolds_1, List.forall_mem_cons]
  exact ⟨k_slices_IndexFunc_int__impl_CubeHolds_1, fun p h => by cases h⟩

theorem k_slices_ContainsFunc_int__impl_CubeHolds_1 : Entry Try.prog 57 c_slices_ContainsFunc_int__impl_CubeHolds_1 := by
  refine entry_by (C := C_slices_ContainsFunc_int__impl_CubeHolds_1) mixed tys_ok t_slices_ContainsFunc_int__impl_CubeHolds_1 (fn := Try.f57) (c := bd Try.f57) (by kernel_rfl) (by kernel_rfl) (by kernel_rfl) (by kernel_rfl) ?_
  intro args st k he
  unfold c_slices_ContainsFunc_int__impl_CubeHolds_1 at he
  split at he
  rotate_left
  · exact he.elim
  rename_i s_ o0
  have he : Ok (slices_ContainsFunc_int__impl_CubeHolds_1 s_ o0) (fun r => k (.c (.bool r)) [(0, .rc [.imm .bool o0])]) := he
  refine ⟨rfl, rfl, ?_⟩
  obtain ⟨r1_, hr, he⟩ := ok_bind he
  refine ⟨r1_, hr, ?_⟩
  have he := ok_some he
  exact ⟨rfl, _, _, (leads_ren [] (l := [(4, .c (.bool (decide ((0:Int) ≤ r1_))))]) (st' := [(0, .rc [.imm .bool o0])]) rfl rfl ⟨⟨.inl rfl, trivial⟩, trivial⟩ ⟨.inl rfl, trivial⟩), he⟩

noncomputable def c_impl_CubeHolds : Con := fun args st => match args, st with
  | [.c (.imm (.int .i64) cube), .c (.imm .bool values)], [] => .opt (Bool) (impl_CubeHolds cube values) (fun r => .ret (.c (.bool r)) [])
  | _, _ => .fail

noncomputable def C_impl_CubeHolds : Cfg := { y := tys, n := 18, h := 0, tab := [(56, c_impl_isCube), (57, c_slices_ContainsFunc_int__impl_CubeHolds_1)], cut := [], hand := [], good := [], deep := [], sched := [] }

theorem t_impl_CubeHolds : TabOk Try.prog C_impl_CubeHolds := by
  refine tabOk_of ?_
  simp only [C_impl_CubeHolds, List.forall_mem_cons]
  exact ⟨k_impl_isCube, k_slices_ContainsFunc_int__impl_CubeHolds_1, fun p h => by cases h⟩

theorem k_impl_CubeHolds : Entry Try.prog 18 c_impl_CubeHolds := by
  refine entry_by (C := C_impl_CubeHolds) mixed tys_ok t_impl_CubeHolds (fn := Try.f18) (c := bd Try.f18) (by kernel_rfl) (by kernel_rfl) (by kernel_rfl) (by kernel_rfl) ?_
  intro args st k he
  unfold c_impl_CubeHolds at he
  split at he
  rotate_left
  · exact he.elim
  rename_i cube values
  have he : Ok (impl_CubeHolds cube values) (fun r => k (.c (.bool r)) []) := he
  refine ⟨rfl, rfl, ?_⟩
  obtain ⟨r1_, hr, he⟩ := ok_bind he
  refine ⟨r1_, hr, ?_⟩
  refine And.intro (fun hb => ?_) (fun hb => ?_)
  · have he := ok_t he hb
    refine And.intro (fun hb => ?_) (fun hb => ?_)
    · have he := ok_t he hb
      obtain ⟨r2_, hr, he⟩ := ok_bind he
      refine ⟨r2_, hr, ?_⟩
      have he := ok_some he
      exact ⟨rfl, _, _, (leads_ren [] (l := [(4, .c (.bool (!r2_)))]) (st' := []) rfl rfl trivial ⟨.inl rfl, trivial⟩), he⟩
    · have he := ok_f he hb
      have he := ok_some he
      exact ⟨rfl, _, _, (leads_ren [] (l := [(4, .c (.bool false))]) (st' := []) rfl rfl trivial ⟨.inr rfl, trivial⟩), he⟩
  · have he := ok_f he hb
    have he := ok_some he
    exact ⟨rfl, _, _, (leads_ren [] (l := [(4, .c (.bool false))]) (st' := []) rfl rfl trivial ⟨.inr rfl, trivial⟩), he⟩

noncomputable def c_laws_eqIntS : Con := fun args st => match args, st with
  | [.c (.imm (.int .i64) a), .c (.imm (.int .i64) b)], [] => .opt (Bool) (laws_eqIntS a b) (fun r => .ret (.c (.bool r)) [])
  | _, _ => .fail

noncomputable def C_laws_eqIntS : Cfg := { y := tys, n := 26, h := 0, tab := [], cut := [], hand := [], good := [], deep := [], sched := [] }

theorem t_laws_eqIntS : TabOk Try.prog C_laws_eqIntS := tabOk_of (fun p h => by cases h)

theorem k_laws_eqIntS : Entry Try.prog 19 c_laws_eqIntS := by
  refine entry_by (C := C_laws_eqIntS) mixed tys_ok t_laws_eqIntS (fn := Try.f19) (c := bd Try.f19) (by kernel_rfl) (by kernel_rfl) (by kernel_rfl) (by kernel_rfl) ?_
  intro args st k he
  unfold c_laws_eqIntS at he
  split at he
  rotate_left
  · exact he.elim
  rename_i a b
  have he : Ok (laws_eqIntS a b) (fun r => k (.c (.bool r)) []) := he
  refine ⟨rfl, rfl, ?_⟩
  refine And.intro (fun hb => ?_) (fun hb => ?_)
  · have he := ok_t he hb
    have he := ok_some he
    exact ⟨rfl, _, _, Leads.refl _ _, he⟩
  · have he := ok_f he hb
    refine loop_model mixed tys_ok t_laws_eqIntS (S := Int) (I := (fun i => (envOf [(0, .c (.imm (.int .i64) a)), (1, .c (.imm (.int .i64) b)), (5, .c (.int .i64 i))], []))) (f := laws_eqIntS_l1 a b) (K := (fun r => k (.c (.bool r)) [])) he (leads_ren [] (l := [(0, .c (.imm (.int .i64) a)), (1, .c (.imm (.int .i64) b)), (5, .c (.int .i64 (0:Int)))]) (st' := []) rfl rfl trivial ⟨.inl rfl, .inl rfl, rfl, trivial⟩) ?_
    rintro i J1 he
    refine And.intro (fun hb => ?_) (fun hb => ?_)
    · have he := ok_t he hb
      refine And.intro (by kernel_rfl) ?_
      have he := ok_rq he
      refine And.intro he.1 ?_
      have he := he.2
      have he := ok_rq he
      refine And.intro he.1 ?_
      have he := he.2
      refine And.intro (fun hb => ?_) (fun hb => ?_)
      · have he := ok_t he hb
        have he := ok_some he
        exact ⟨rfl, _, _, Leads.refl _ _, he⟩
      · have he := ok_f he hb
        have he := ok_rq he
        refine And.intro he.1 ?_
        have he := he.2
        have he := ok_some he
        exact ⟨(i + (1:Int)), he, (leads_ren [] (l := [(0, .c (.imm (.int .i64) a)), (1, .c (.imm (.int .i64) b)), (5, .c (.int .i64 (i + (1:Int))))]) (st' := []) rfl rfl trivial ⟨.inl rfl, .inl rfl, rfl, trivial⟩)⟩
    · have he := ok_f he hb
      have he := ok_some he
      exact ⟨rfl, _, _, Leads.refl _ _, he⟩

noncomputable def c_laws_eqBoolS : Con := fun args st => match args, st with
  | [.c (.imm .bool a), .c (.imm .bool b)], [] => .opt (Bool) (laws_eqBoolS a b) (fun r => .ret (.c (.bool r)) [])
  | _, _ => .fail

noncomputable def C_laws_eqBoolS : Cfg := { y := tys, n := 26, h := 0, tab := [], cut := [], hand := [], good := [], deep := [], sched := [] }

theorem t_laws_eqBoolS : TabOk Try.prog C_laws_eqBoolS := tabOk_of (fun p h => by cases h)

theorem k_laws_eqBoolS : Entry Try.prog 20 c_laws_eqBoolS := by
  refine entry_by (C := C_laws_eqBoolS) mixed tys_ok t_laws_eqBoolS (fn := Try.f20) (c := bd Try.f20) (by kernel_rfl) (by kernel_rfl) (by kernel_rfl) (by kernel_rfl) ?_
  intro args st k he
  unfold c_laws_eqBoolS at he
  split at he
  rotate_left
  · exact he.elim
  rename_i a b
  have he : Ok (laws_eqBoolS a b) (fun r => k (.c (.bool r)) []) := he
  refine ⟨rfl, rfl, ?_⟩
  refine And.intro (fun hb => ?_) (fun hb => ?_)
  · have he := ok_t he hb
    have he := ok_some he
    exact ⟨rfl, _, _, Leads.refl _ _, he⟩
  · have he := ok_f he hb
    refine loop_model mixed tys_ok t_laws_eqBoolS (S := Int) (I := (fun i => (envOf [(0, .c (.imm .bool a)), (1, .c (.imm .bool b)), (5, .c (.int .i64 i))], []))) (f := laws_eqBoolS_l1 a b) (K := (fun r => k (.c (.bool r)) [])) he (leads_ren [] (l := [(0, .c (.imm .bool a)), (1, .c (.imm .bool b)), (5, .c (.int .i64 (0:Int)))]) (st' := []) rfl rfl trivial ⟨.inl rfl, .inl rfl, rfl, trivial⟩) ?_
    rintro i J1 he
    refine And.intro (fun hb => ?_) (fun hb => ?_)
    · have he := ok_t he hb
      refine And.intro (by kernel_rfl) ?_
      have he := ok_rq he
      refine And.intro he.1 ?_
      have he := he.2
      have he := ok_rq he
      refine And.intro he.1 ?_
      have he := he.2
      refine And.intro (fun hb => ?_) (fun hb => ?_)
      · have he := ok_t he hb
        have he := ok_some he
        exact ⟨rfl, _, _, Leads.refl _ _, he⟩
      · have he := ok_f he hb
        have he := ok_rq he
        refine And.intro he.1 ?_
        have he := he.2
        have he := ok_some he
        exact ⟨(i + (1:Int)), he, (leads_ren [] (l := [(0, .c (.imm .bool a)), (1, .c (.imm .bool b)), (5, .c (.int .i64 (i + (1:Int))))]) (st' := []) rfl rfl trivial ⟨.inl rfl, .inl rfl, rfl, trivial⟩)⟩
    · have he := ok_f he hb
      have he := ok_some he
      exact ⟨rfl, _, _, Leads.refl _ _, he⟩

noncomputable def c_laws_FnExactCubeHolds : Con := fun args st => match args, st with
  | [.c (.imm (.int .i64) aCube), .c (.imm .bool aValues)], [] => .opt (Bool) (laws_FnExactCubeHolds aCube aValues) (fun r => .ret (.c (.bool r)) [])
  | _, _ => .fail

noncomputable def C_laws_FnExactCubeHolds : Cfg := { y := tys, n := 40, h := 0, tab := [(15, c_spec_CubeHolds), (16, c_laws_toIntS), (17, c_laws_toBoolS), (18, c_impl_CubeHolds), (19, c_laws_eqIntS), (20, c_laws_eqBoolS)], cut := [], hand := [], good := [], deep := [], sched := [] }

theorem t_laws_FnExactCubeHolds : TabOk Try.prog C_laws_FnExactCubeHolds := by
  refine tabOk_of ?_
  simp only [C_laws_FnExactCubeHolds, List.forall_mem_cons]
  exact ⟨k_spec_CubeHolds, k_laws_toIntS, k_laws_toBoolS, k_impl_CubeHolds, k_laws_eqIntS, k_laws_eqBoolS, fun p h => by cases h⟩

theorem k_laws_FnExactCubeHolds : Entry Try.prog 3 c_laws_FnExactCubeHolds := by
  refine entry_by (C := C_laws_FnExactCubeHolds) mixed tys_ok t_laws_FnExactCubeHolds (fn := Try.f3) (c := bd Try.f3) (by kernel_rfl) (by kernel_rfl) (by kernel_rfl) (by kernel_rfl) ?_
  intro args st k he
  unfold c_laws_FnExactCubeHolds at he
  split at he
  rotate_left
  · exact he.elim
  rename_i aCube aValues
  have he : Ok (laws_FnExactCubeHolds aCube aValues) (fun r => k (.c (.bool r)) []) := he
  refine ⟨rfl, rfl, ?_⟩
  refine And.intro (fun hb => ?_) (fun hb => ?_)
  · have he := ok_t he hb
    have he := ok_some he
    exact ⟨rfl, _, _, Leads.refl _ _, he⟩
  · have he := ok_f he hb
    refine And.intro (fun hb => ?_) (fun hb => ?_)
    · have he := ok_t he hb
      have he := ok_some he
      exact ⟨rfl, _, _, Leads.refl _ _, he⟩
    · have he := ok_f he hb
      obtain ⟨r1_, hr, he⟩ := ok_bind he
      refine ⟨r1_, hr, ?_⟩
      obtain ⟨r2_, hr, he⟩ := ok_bind he
      refine ⟨r2_, hr, ?_⟩
      obtain ⟨r3_, hr, he⟩ := ok_bind he
      refine ⟨r3_, hr, ?_⟩
      obtain ⟨r4_, hr, he⟩ := ok_bind he
      refine ⟨r4_, hr, ?_⟩
      obtain ⟨r5_, hr, he⟩ := ok_bind he
      refine ⟨r5_, hr, ?_⟩
      obtain ⟨r6_, hr, he⟩ := ok_bind he
      refine ⟨r6_, hr, ?_⟩
      refine And.intro (fun hb => ?_) (fun hb => ?_)
      · have he := ok_t he hb
        have he := ok_some he
        exact ⟨rfl, _, _, (leads_ren [] (l := [(4, .c (.bool false))]) (st' := []) rfl rfl trivial ⟨.inr rfl, trivial⟩), he⟩
      · have he := ok_f he hb
        obtain ⟨r7_, hr, he⟩ := ok_bind he
        refine ⟨r7_, hr, ?_⟩
        obtain ⟨r8_, hr, he⟩ := ok_bind he
        refine ⟨r8_, hr, ?_⟩
        refine And.intro (fun hb => ?_) (fun hb => ?_)
        · have he := ok_t he hb
          have he := ok_some he
          exact ⟨rfl, _, _, (leads_ren [] (l := [(4, .c (.bool false))]) (st' := []) rfl rfl trivial ⟨.inr rfl, trivial⟩), he⟩
        · have he := ok_f he hb
          obtain ⟨r9_, hr, he⟩ := ok_bind he
          refine ⟨r9_, hr, ?_⟩
          obtain ⟨r10_, hr, he⟩ := ok_bind he
          refine ⟨r10_, hr, ?_⟩
          refine And.intro (fun hb => ?_) (fun hb => ?_)
          · have he := ok_t he hb
            have he := ok_some he
            exact ⟨rfl, _, _, (leads_ren [] (l := [(4, .c (.bool false))]) (st' := []) rfl rfl trivial ⟨.inr rfl, trivial⟩), he⟩
          · have he := ok_f he hb
            have he := ok_some he
            exact ⟨rfl, _, _, (leads_ren [] (l := [(4, .c (.bool true))]) (st' := []) rfl rfl trivial ⟨.inr rfl, trivial⟩), he⟩

end Go.AE.Y
