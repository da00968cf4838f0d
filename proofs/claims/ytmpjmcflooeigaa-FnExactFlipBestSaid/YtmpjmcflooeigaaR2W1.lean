/-
  Walks: each function keeps the contract that its model gives. No conditions.
-/
import Derived.Test.YtmpjmcflooeigaaR2Tab
import Derived.Test.YtmpjmcflooeigaaR2M
namespace Go.AE.Y
open Go Go.AE Go.Proofs
set_option linter.unusedVariables false
set_option maxHeartbeats 2000000
set_option maxRecDepth 100000

noncomputable def c_laws_szTermS : Con := fun args st => match args, st with
  | [.c (.imm (.pair (.int .i64) (.int .i64)) a), .c (.int .i64 left)], [] => .opt (Int) (laws_szTermS a left) (fun r => .ret (.c (.int .i64 r)) [])
  | _, _ => .fail

noncomputable def C_laws_szTermS : Cfg := { y := tys, n := 12, h := 0, tab := [], cut := [], hand := [], good := [], deep := [], sched := [] }

theorem t_laws_szTermS : TabOk Try.prog C_laws_szTermS := tabOk_of (fun p h => by cases h)

theorem k_laws_szTermS : Entry Try.prog 133 c_laws_szTermS := by
  refine entry_by (C := C_laws_szTermS) mixed tys_ok t_laws_szTermS (fn := Try.f133) (c := bd Try.f133) (by kernel_rfl) (by kernel_rfl) (by kernel_rfl) (by kernel_rfl) ?_
  intro args st k he
  unfold c_laws_szTermS at he
  split at he
  rotate_left
  · exact he.elim
  rename_i a left
  have he : Ok (laws_szTermS a left) (fun r => k (.c (.int .i64 r)) []) := he
  refine ⟨rfl, rfl, ?_⟩
  have he := ok_rq he
  refine And.intro he.1 ?_
  have he := he.2
  refine And.intro (fun hb => ?_) (fun hb => ?_)
  · have he := ok_t he hb
    have he := ok_some he
    exact ⟨rfl, _, _, Leads.refl _ _, he⟩
  · have he := ok_f he hb
    have he := ok_some he
    exact ⟨rfl, _, _, Leads.refl _ _, he⟩

noncomputable def c_laws_szConstraint : Con := fun args st => match args, st with
  | [.agg [.imm (.pair (.int .i64) (.int .i64)) a_0, .int .i64 a_1], .c (.int .i64 left)], [] => .opt (Int) (laws_szConstraint (a_0, a_1) left) (fun r => .ret (.c (.int .i64 r)) [])
  | _, _ => .fail

noncomputable def C_laws_szConstraint : Cfg := { y := tys, n := 12, h := 0, tab := [(133, c_laws_szTermS)], cut := [], hand := [], good := [], deep := [], sched := [] }

theorem t_laws_szConstraint : TabOk Try.prog C_laws_szConstraint := by
  refine tabOk_of ?_
  simp only [C_laws_szConstraint, List.forall_mem_cons]
  exact ⟨k_laws_szTermS, fun p h => by cases h⟩

theorem k_laws_szConstraint : Entry Try.prog 79 c_laws_szConstraint := by
  refine entry_by (C := C_laws_szConstraint) mixed tys_ok t_laws_szConstraint (fn := Try.f79) (c := bd Try.f79) (by kernel_rfl) (by kernel_rfl) (by kernel_rfl) (by kernel_rfl) ?_
  intro args st k he
  unfold c_laws_szConstraint at he
  split at he
  rotate_left
  · exact he.elim
  rename_i a_0 a_1 left
  have he : Ok (laws_szConstraint (a_0, a_1) left) (fun r => k (.c (.int .i64 r)) []) := he
  refine ⟨rfl, rfl, ?_⟩
  obtain ⟨r1_, hr, he⟩ := ok_bind he
  refine ⟨r1_, hr, ?_⟩
  refine And.intro (fun hb => ?_) (fun hb => ?_)
  · have he := ok_t he hb
    have he := ok_some he
    exact ⟨rfl, _, _, (leads_ren [] (l := [(4, .c (.int .i64 (-1:Int)))]) (st' := []) rfl rfl trivial ⟨rfl, trivial⟩), he⟩
  · have he := ok_f he hb
    have he := ok_some he
    exact ⟨rfl, _, _, (leads_ren [] (l := [(4, .c (.int .i64 r1_))]) (st' := []) rfl rfl trivial ⟨rfl, trivial⟩), he⟩

noncomputable def c_laws_szConstraintS : Con := fun args st => match args, st with
  | [.c (.imm (.pair (.sl (.pair (.int .i64) (.int .i64))) (.int .i64)) a), .c (.int .i64 left)], [] => .opt (Int) (laws_szConstraintS a left) (fun r => .ret (.c (.int .i64 r)) [])
  | _, _ => .fail

noncomputable def C_laws_szConstraintS : Cfg := { y := tys, n := 27, h := 0, tab := [(79, c_laws_szConstraint)], cut := [], hand := [], good := [], deep := [], sched := [] }

theorem t_laws_szConstraintS : TabOk Try.prog C_laws_szConstraintS := by
  refine tabOk_of ?_
  simp only [C_laws_szConstraintS, List.forall_mem_cons]
  exact ⟨k_laws_szConstraint, fun p h => by cases h⟩

theorem k_laws_szConstraintS : Entry Try.prog 25 c_laws_szConstraintS := by
  refine entry_by (C := C_laws_szConstraintS) mixed tys_ok t_laws_szConstraintS (fn := Try.f25) (c := bd Try.f25) (by kernel_rfl) (by kernel_rfl) (by kernel_rfl) (by kernel_rfl) ?_
  intro args st k he
  unfold c_laws_szConstraintS at he
  split at he
  rotate_left
  · exact he.elim
  rename_i a left
  have he : Ok (laws_szConstraintS a left) (fun r => k (.c (.int .i64 r)) []) := he
  refine ⟨rfl, rfl, ?_⟩
  have he := ok_rq he
  refine And.intro he.1 ?_
  have he := he.2
  refine And.intro (fun hb => ?_) (fun hb => ?_)
  · have he := ok_t he hb
    have he := ok_some he
    exact ⟨rfl, _, _, Leads.refl _ _, he⟩
  · have he := ok_f he hb
    refine loop_model mixed tys_ok t_laws_szConstraintS (S := Int × Int) (I := (fun (left1, i) => (envOf [(0, .c (.imm (.pair (.sl (.pair (.int .i64) (.int .i64))) (.int .i64)) a)), (1, .c (.int .i64 left1)), (5, .c (.int .i64 i))], []))) (f := laws_szConstraintS_l1 a) (K := (fun r => k (.c (.int .i64 r)) [])) he (leads_ren [] (l := [(0, .c (.imm (.pair (.sl (.pair (.int .i64) (.int .i64))) (.int .i64)) a)), (1, .c (.int .i64 (left - (a.length:Int)))), (5, .c (.int .i64 (0:Int)))]) (st' := []) rfl rfl trivial ⟨.inl rfl, rfl, rfl, trivial⟩) ?_
    rintro ⟨left1, i⟩ J1 he
    refine And.intro (fun hb => ?_) (fun hb => ?_)
    · have he := ok_t he hb
      have he := ok_rq he
      refine And.intro he.1 ?_
      have he := he.2
      obtain ⟨r1_, hr, he⟩ := ok_bind he
      refine ⟨r1_, hr, ?_⟩
      refine And.intro (fun hb => ?_) (fun hb => ?_)
      · have he := ok_t he hb
        have he := ok_some he
        exact ⟨rfl, _, _, Leads.refl _ _, he⟩
      · have he := ok_f he hb
        have he := ok_rq he
        refine And.intro he.1 ?_
        have he := he.2
        have he := ok_some he
        exact ⟨(r1_, (i + (1:Int))), he, (leads_ren [] (l := [(0, .c (.imm (.pair (.sl (.pair (.int .i64) (.int .i64))) (.int .i64)) a)), (1, .c (.int .i64 r1_)), (5, .c (.int .i64 (i + (1:Int))))]) (st' := []) rfl rfl trivial ⟨.inl rfl, rfl, rfl, trivial⟩)⟩
    · have he := ok_f he hb
      have he := ok_some he
      exact ⟨rfl, _, _, Leads.refl _ _, he⟩

noncomputable def c_laws_toTerm : Con := fun args st => match args, st with
  | [.agg [.int .i64 a_0, .int .i64 a_1]], [] => .opt ((Int × Int)) (laws_toTerm (a_0, a_1)) (fun r => .ret (.agg [.int .i64 r.1, .int .i64 r.2]) [(900, .rc [.int .i64 r.1, .int .i64 r.2])])
  | _, _ => .fail

noncomputable def C_laws_toTerm : Cfg := { y := tys, n := 11, h := 0, tab := [], cut := [], hand := [], good := [], deep := [], sched := [] }

theorem t_laws_toTerm : TabOk Try.prog C_laws_toTerm := tabOk_of (fun p h => by cases h)

theorem k_laws_toTerm : Entry Try.prog 162 c_laws_toTerm := by
  refine entry_by (C := C_laws_toTerm) mixed tys_ok t_laws_toTerm (fn := Try.f162) (c := bd Try.f162) (by kernel_rfl) (by kernel_rfl) (by kernel_rfl) (by kernel_rfl) ?_
  intro args st k he
  unfold c_laws_toTerm at he
  split at he
  rotate_left
  · exact he.elim
  rename_i a_0 a_1
  have he : Ok (laws_toTerm (a_0, a_1)) (fun r => k (.agg [.int .i64 r.1, .int .i64 r.2]) [(900, .rc [.int .i64 r.1, .int .i64 r.2])]) := he
  refine ⟨rfl, rfl, ?_⟩
  have he := ok_some he
  exact ⟨rfl, _, _, (leads_ren [(900, 2)] (l := [(2, .c (.ptr 900 0))]) (st' := [(900, .rc [.int .i64 (a_0, a_1).1, .int .i64 (a_0, a_1).2])]) rfl rfl ⟨⟨rfl, rfl, trivial⟩, trivial⟩ ⟨⟨⟨rfl, rfl⟩, rfl⟩, trivial⟩), he⟩

noncomputable def c_laws_toTermS : Con := fun args st => match args, st with
  | [.c (.imm (.pair (.int .i64) (.int .i64)) a)], [] => .opt ((List (Int × Int))) (laws_toTermS a) (fun r => .ret (.c (.own 900 false)) [(900, .sl 109 (.pair (.int .i64) (.int .i64)) r .shallow)])
  | _, _ => .fail

noncomputable def C_laws_toTermS : Cfg := { y := tys, n := 23, h := 0, tab := [(162, c_laws_toTerm)], cut := [], hand := [], good := [], deep := [], sched := [] }

theorem t_laws_toTermS : TabOk Try.prog C_laws_toTermS := by
  refine tabOk_of ?_
  simp only [C_laws_toTermS, List.forall_mem_cons]
  exact ⟨k_laws_toTerm, fun p h => by cases h⟩

theorem k_laws_toTermS : Entry Try.prog 134 c_laws_toTermS := by
  refine entry_by (C := C_laws_toTermS) mixed tys_ok t_laws_toTermS (fn := Try.f134) (c := bd Try.f134) (by kernel_rfl) (by kernel_rfl) (by kernel_rfl) (by kernel_rfl) ?_
  intro args st k he
  unfold c_laws_toTermS at he
  split at he
  rotate_left
  · exact he.elim
  rename_i a
  have he : Ok (laws_toTermS a) (fun r => k (.c (.own 900 false)) [(900, .sl 109 (.pair (.int .i64) (.int .i64)) r .shallow)]) := he
  refine ⟨rfl, rfl, ?_⟩
  have he := ok_rq he
  refine And.intro he.1 ?_
  have he := he.2
  refine loop_model mixed tys_ok t_laws_toTermS (S := Int × (List (Int × Int))) (I := (fun (i, out) => (envOf [(0, .c (.imm (.pair (.int .i64) (.int .i64)) a)), (3, .c (.own 10000000 false)), (4, .c (.int .i64 i))], [(10000000, .sl 109 (.pair (.int .i64) (.int .i64)) out .shallow)]))) (f := laws_toTermS_l1 a) (K := (fun r => k (.c (.own 900 false)) [(900, .sl 109 (.pair (.int .i64) (.int .i64)) r .shallow)])) he (leads_ren [(10000000, 7)] (l := [(0, .c (.imm (.pair (.int .i64) (.int .i64)) a)), (3, .c (.own 10000000 false)), (4, .c (.int .i64 (0:Int)))]) (st' := [(10000000, .sl 109 (.pair (.int .i64) (.int .i64)) (List.replicate (a.length:Int).toNat (0, 0)) .shallow)]) rfl rfl ⟨⟨rfl, rfl⟩, trivial⟩ ⟨.inl rfl, ⟨⟨rfl, rfl⟩, trivial⟩, rfl, trivial⟩) ?_
  rintro ⟨i, out⟩ J1 he
  refine And.intro (fun hb => ?_) (fun hb => ?_)
  · have he := ok_t he hb
    have he := ok_rq he
    refine And.intro he.1 ?_
    have he := he.2
    obtain ⟨r2_, hr, he⟩ := ok_bind he
    refine ⟨r2_, hr, ?_⟩
    have he := ok_rq he
    refine And.intro he.1 ?_
    have he := he.2
    have he := ok_rq he
    refine And.intro he.1 ?_
    have he := he.2
    have he := ok_some he
    exact ⟨((i + (1:Int)), (out.set i.toNat r2_)), he, (leads_ren [] (l := [(0, .c (.imm (.pair (.int .i64) (.int .i64)) a)), (3, .c (.own 10000000 false)), (4, .c (.int .i64 (i + (1:Int))))]) (st' := [(10000000, .sl 109 (.pair (.int .i64) (.int .i64)) (out.set i.toNat r2_) .shallow)]) rfl rfl ⟨⟨rfl, rfl⟩, trivial⟩ ⟨.inl rfl, ⟨⟨rfl, rfl⟩, trivial⟩, rfl, trivial⟩)⟩
  · have he := ok_f he hb
    have he := ok_some he
    exact ⟨rfl, _, _, (leads_ren [(900, 10000000)] (l := [(2, .c (.own 900 false))]) (st' := [(900, .sl 109 (.pair (.int .i64) (.int .i64)) out .shallow)]) rfl rfl ⟨⟨rfl, rfl⟩, trivial⟩ ⟨⟨⟨rfl, rfl⟩, trivial⟩, trivial⟩), he⟩

noncomputable def c_laws_toConstraint : Con := fun args st => match args, st with
  | [.agg [.imm (.pair (.int .i64) (.int .i64)) a_0, .int .i64 a_1]], [] => .opt (Int × (List (Int × Int))) (laws_toConstraint (a_0, a_1)) (fun r => .ret (.agg [.own 901 false, .int .i64 r.1]) [(900, .rc [.own 901 false, .int .i64 r.1]), (901, .sl 109 (.pair (.int .i64) (.int .i64)) r.2 .shallow)])
  | _, _ => .fail

noncomputable def C_laws_toConstraint : Cfg := { y := tys, n := 12, h := 0, tab := [(134, c_laws_toTermS)], cut := [], hand := [], good := [], deep := [], sched := [] }

theorem t_laws_toConstraint : TabOk Try.prog C_laws_toConstraint := by
  refine tabOk_of ?_
  simp only [C_laws_toConstraint, List.forall_mem_cons]
  exact ⟨k_laws_toTermS, fun p h => by cases h⟩

theorem k_laws_toConstraint : Entry Try.prog 80 c_laws_toConstraint := by
  refine entry_by (C := C_laws_toConstraint) mixed tys_ok t_laws_toConstraint (fn := Try.f80) (c := bd Try.f80) (by kernel_rfl) (by kernel_rfl) (by kernel_rfl) (by kernel_rfl) ?_
  intro args st k he
  unfold c_laws_toConstraint at he
  split at he
  rotate_left
  · exact he.elim
  rename_i a_0 a_1
  have he : Ok (laws_toConstraint (a_0, a_1)) (fun r => k (.agg [.own 901 false, .int .i64 r.1]) [(900, .rc [.own 901 false, .int .i64 r.1]), (901, .sl 109 (.pair (.int .i64) (.int .i64)) r.2 .shallow)]) := he
  refine ⟨rfl, rfl, ?_⟩
  obtain ⟨r1_, hr, he⟩ := ok_bind he
  refine ⟨r1_, hr, ?_⟩
  have he := ok_some he
  exact ⟨rfl, _, _, (leads_ren [(900, 2), (901, 7900)] (l := [(2, .c (.ptr 900 0))]) (st' := [(900, .rc [.own 901 false, .int .i64 (a_0, a_1).2]), (901, .sl 109 (.pair (.int .i64) (.int .i64)) r1_ .shallow)]) rfl rfl ⟨⟨⟨⟨rfl, rfl⟩, trivial⟩, rfl, trivial⟩, ⟨rfl, rfl⟩, trivial⟩ ⟨⟨⟨rfl, rfl⟩, rfl⟩, trivial⟩), he⟩

noncomputable def c_laws_toConstraintS : Con := fun args st => match args, st with
  | [.c (.imm (.pair (.sl (.pair (.int .i64) (.int .i64))) (.int .i64)) a)], [] => .opt ((List ((List (Int × Int)) × Int))) (laws_toConstraintS a) (fun r => .ret (.c (.own 900 false)) [(900, .sl 73 (.pair (.sl (.pair (.int .i64) (.int .i64))) (.int .i64)) r (.deep true .no))])
  | _, _ => .fail

noncomputable def C_laws_toConstraintS : Cfg := { y := tys, n := 23, h := 0, tab := [(80, c_laws_toConstraint)], cut := [], hand := [], good := [], deep := [7], sched := [] }

theorem t_laws_toConstraintS : TabOk Try.prog C_laws_toConstraintS := by
  refine tabOk_of ?_
  simp only [C_laws_toConstraintS, List.forall_mem_cons]
  exact ⟨k_laws_toConstraint, fun p h => by cases h⟩

theorem k_laws_toConstraintS : Entry Try.prog 26 c_laws_toConstraintS := by
  refine entry_by (C := C_laws_toConstraintS) mixed tys_ok t_laws_toConstraintS (fn := Try.f26) (c := bd Try.f26) (by kernel_rfl) (by kernel_rfl) (by kernel_rfl) (by kernel_rfl) ?_
  intro args st k he
  unfold c_laws_toConstraintS at he
  split at he
  rotate_left
  · exact he.elim
  rename_i a
  have he : Ok (laws_toConstraintS a) (fun r => k (.c (.own 900 false)) [(900, .sl 73 (.pair (.sl (.pair (.int .i64) (.int .i64))) (.int .i64)) r (.deep true .no))]) := he
  refine ⟨rfl, rfl, ?_⟩
  have he := ok_rq he
  refine And.intro he.1 ?_
  have he := he.2
  refine loop_model mixed tys_ok t_laws_toConstraintS (S := Int × (List ((List (Int × Int)) × Int))) (I := (fun (i, out) => (envOf [(0, .c (.imm (.pair (.sl (.pair (.int .i64) (.int .i64))) (.int .i64)) a)), (3, .c (.own 10000000 false)), (4, .c (.int .i64 i))], [(10000000, .sl 73 (.pair (.sl (.pair (.int .i64) (.int .i64))) (.int .i64)) out (.deep true .no))]))) (f := laws_toConstraintS_l1 a) (K := (fun r => k (.c (.own 900 false)) [(900, .sl 73 (.pair (.sl (.pair (.int .i64) (.int .i64))) (.int .i64)) r (.deep true .no))])) he (leads_ren [(10000000, 7)] (l := [(0, .c (.imm (.pair (.sl (.pair (.int .i64) (.int .i64))) (.int .i64)) a)), (3, .c (.own 10000000 false)), (4, .c (.int .i64 (0:Int)))]) (st' := [(10000000, .sl 73 (.pair (.sl (.pair (.int .i64) (.int .i64))) (.int .i64)) (List.replicate (a.length:Int).toNat ([], 0)) (.deep true .no))]) rfl rfl ⟨⟨rfl, rfl⟩, trivial⟩ ⟨.inl rfl, ⟨⟨rfl, rfl⟩, trivial⟩, rfl, trivial⟩) ?_
  rintro ⟨i, out⟩ J1 he
  refine And.intro (fun hb => ?_) (fun hb => ?_)
  · have he := ok_t he hb
    have he := ok_rq he
    refine And.intro he.1 ?_
    have he := he.2
    obtain ⟨r2_, hr, he⟩ := ok_bind he
    refine ⟨r2_, hr, ?_⟩
    have he := ok_rq he
    refine And.intro he.1 ?_
    have he := he.2
    have he := ok_rq he
    refine And.intro he.1 ?_
    have he := he.2
    have he := ok_some he
    exact ⟨((i + (1:Int)), (out.set i.toNat (r2_.2, r2_.1))), he, (leads_ren [] (l := [(0, .c (.imm (.pair (.sl (.pair (.int .i64) (.int .i64))) (.int .i64)) a)), (3, .c (.own 10000000 false)), (4, .c (.int .i64 (i + (1:Int))))]) (st' := [(10000000, .sl 73 (.pair (.sl (.pair (.int .i64) (.int .i64))) (.int .i64)) (out.set i.toNat (r2_.2, r2_.1)) (.deep true .no))]) rfl rfl ⟨⟨rfl, rfl⟩, trivial⟩ ⟨.inl rfl, ⟨⟨rfl, rfl⟩, trivial⟩, rfl, trivial⟩)⟩
  · have he := ok_f he hb
    have he := ok_some he
    exact ⟨rfl, _, _, (leads_ren [(900, 10000000)] (l := [(2, .c (.own 900 false))]) (st' := [(900, .sl 73 (.pair (.sl (.pair (.int .i64) (.int .i64))) (.int .i64)) out (.deep true .no))]) rfl rfl ⟨⟨rfl, rfl⟩, trivial⟩ ⟨⟨⟨rfl, rfl⟩, trivial⟩, trivial⟩), he⟩

noncomputable def c_laws_toBoolS : Con := fun args st => match args, st with
  | [.c (.imm .bool a)], [] => .opt ((List Bool)) (laws_toBoolS a) (fun r => .ret (.c (.own 900 false)) [(900, .sl 4 .bool r .shallow)])
  | _, _ => .fail

noncomputable def C_laws_toBoolS : Cfg := { y := tys, n := 22, h := 0, tab := [], cut := [], hand := [], good := [], deep := [], sched := [] }

theorem t_laws_toBoolS : TabOk Try.prog C_laws_toBoolS := tabOk_of (fun p h => by cases h)

theorem k_laws_toBoolS : Entry Try.prog 27 c_laws_toBoolS := by
  refine entry_by (C := C_laws_toBoolS) mixed tys_ok t_laws_toBoolS (fn := Try.f27) (c := bd Try.f27) (by kernel_rfl) (by kernel_rfl) (by kernel_rfl) (by kernel_rfl) ?_
  intro args st k he
  unfold c_laws_toBoolS at he
  split at he
  rotate_left
  · exact he.elim
  rename_i a
  have he : Ok (laws_toBoolS a) (fun r => k (.c (.own 900 false)) [(900, .sl 4 .bool r .shallow)]) := he
  refine ⟨rfl, rfl, ?_⟩
  have he := ok_rq he
  refine And.intro he.1 ?_
  have he := he.2
  refine loop_model mixed tys_ok t_laws_toBoolS (S := Int × (List Bool)) (I := (fun (i, out) => (envOf [(0, .c (.imm .bool a)), (3, .c (.own 10000000 false)), (4, .c (.int .i64 i))], [(10000000, .sl 4 .bool out .shallow)]))) (f := laws_toBoolS_l1 a) (K := (fun r => k (.c (.own 900 false)) [(900, .sl 4 .bool r .shallow)])) he (leads_ren [(10000000, 7)] (l := [(0, .c (.imm .bool a)), (3, .c (.own 10000000 false)), (4, .c (.int .i64 (0:Int)))]) (st' := [(10000000, .sl 4 .bool (List.replicate (a.length:Int).toNat false) .shallow)]) rfl rfl ⟨⟨rfl, rfl⟩, trivial⟩ ⟨.inl rfl, ⟨⟨rfl, rfl⟩, trivial⟩, rfl, trivial⟩) ?_
  rintro ⟨i, out⟩ J1 he
  refine And.intro (fun hb => ?_) (fun hb => ?_)
  · have he := ok_t he hb
    have he := ok_rq he
    refine And.intro he.1 ?_
    have he := he.2
    have he := ok_rq he
    refine And.intro he.1 ?_
    have he := he.2
    have he := ok_rq he
    refine And.intro he.1 ?_
    have he := he.2
    have he := ok_some he
    exact ⟨((i + (1:Int)), (out.set i.toNat (a.getD i.toNat false))), he, (leads_ren [] (l := [(0, .c (.imm .bool a)), (3, .c (.own 10000000 false)), (4, .c (.int .i64 (i + (1:Int))))]) (st' := [(10000000, .sl 4 .bool (out.set i.toNat (a.getD i.toNat false)) .shallow)]) rfl rfl ⟨⟨rfl, rfl⟩, trivial⟩ ⟨.inl rfl, ⟨⟨rfl, rfl⟩, trivial⟩, rfl, trivial⟩)⟩
  · have he := ok_f he hb
    have he := ok_some he
    exact ⟨rfl, _, _, (leads_ren [(900, 10000000)] (l := [(2, .c (.own 900 false))]) (st' := [(900, .sl 4 .bool out .shallow)]) rfl rfl ⟨⟨rfl, rfl⟩, trivial⟩ ⟨⟨⟨rfl, rfl⟩, trivial⟩, trivial⟩), he⟩

noncomputable def c_spec_l1Lit : Con := fun args st => match args, st with
  | [.c (.int .i64 n)], [] => .opt (Bool) (spec_l1Lit n) (fun r => .ret (.c (.bool r)) [])
  | _, _ => .fail

noncomputable def C_spec_l1Lit : Cfg := { y := tys, n := 13, h := 0, tab := [], cut := [], hand := [], good := [], deep := [], sched := [] }

theorem t_spec_l1Lit : TabOk Try.prog C_spec_l1Lit := tabOk_of (fun p h => by cases h)

theorem k_spec_l1Lit : Entry Try.prog 152 c_spec_l1Lit := by
  refine entry_by (C := C_spec_l1Lit) mixed tys_ok t_spec_l1Lit (fn := Try.f152) (c := bd Try.f152) (by kernel_rfl) (by kernel_rfl) (by kernel_rfl) (by kernel_rfl) ?_
  intro args st k he
  unfold c_spec_l1Lit at he
  split at he
  rotate_left
  · exact he.elim
  rename_i n
  have he : Ok (spec_l1Lit n) (fun r => k (.c (.bool r)) []) := he
  refine ⟨rfl, rfl, ?_⟩
  refine And.intro (fun hb => ?_) (fun hb => ?_)
  · have he := ok_t he hb
    refine And.intro (fun hb => ?_) (fun hb => ?_)
    · have he := ok_t he hb
      have he := ok_some he
      exact ⟨rfl, _, _, Leads.refl _ _, he⟩
    · have he := ok_f he hb
      have he := ok_some he
      exact ⟨rfl, _, _, Leads.refl _ _, he⟩
  · have he := ok_f he hb
    have he := ok_some he
    exact ⟨rfl, _, _, Leads.refl _ _, he⟩

noncomputable def c_spec_l1Abs : Con := fun args st => match args, st with
  | [.c (.int .i64 n)], [] => .opt (Int) (spec_l1Abs n) (fun r => .ret (.c (.int .i64 r)) [])
  | _, _ => .fail

noncomputable def C_spec_l1Abs : Cfg := { y := tys, n := 8, h := 0, tab := [], cut := [], hand := [], good := [], deep := [], sched := [] }

theorem t_spec_l1Abs : TabOk Try.prog C_spec_l1Abs := tabOk_of (fun p h => by cases h)

theorem k_spec_l1Abs : Entry Try.prog 103 c_spec_l1Abs := by
  refine entry_by (C := C_spec_l1Abs) mixed tys_ok t_spec_l1Abs (fn := Try.f103) (c := bd Try.f103) (by kernel_rfl) (by kernel_rfl) (by kernel_rfl) (by kernel_rfl) ?_
  intro args st k he
  unfold c_spec_l1Abs at he
  split at he
  rotate_left
  · exact he.elim
  rename_i n
  have he : Ok (spec_l1Abs n) (fun r => k (.c (.int .i64 r)) []) := he
  refine ⟨rfl, rfl, ?_⟩
  refine And.intro (fun hb => ?_) (fun hb => ?_)
  · have he := ok_t he hb
    have he := ok_rq he
    refine And.intro he.1 ?_
    have he := he.2
    have he := ok_some he
    exact ⟨rfl, _, _, Leads.refl _ _, he⟩
  · have he := ok_f he hb
    have he := ok_some he
    exact ⟨rfl, _, _, Leads.refl _ _, he⟩

noncomputable def c_spec_ConstraintValid : Con := fun args st => match args, st with
  | [.agg [.imm (.pair (.int .i64) (.int .i64)) c__0, .int .i64 c__1]], [] => .opt (Bool) (spec_ConstraintValid (c__0, c__1)) (fun r => .ret (.c (.bool r)) [])
  | _, _ => .fail

noncomputable def C_spec_ConstraintValid : Cfg := { y := tys, n := 57, h := 0, tab := [(103, c_spec_l1Abs), (152, c_spec_l1Lit)], cut := [], hand := [], good := [], deep := [], sched := [(5, (.first 0 (.alt 1 (.alt 2 (.first 3 (.first 4 (.first 5 (.alt 6 (.first 7 (.first 8 (.first 9 (.first 10 (.alt 11 (.first 12 (.first 13 (.first 14 (.first 15 (.first 16 (.first 17 (.first 18 (.first 20 (.first 21 (.first 26 (.alt 19 (.first 22 (.first 23 (.first 24 (.alt 25 (.alt 27 (.alt 28 (.first 29 (.first 30 (.first 31 .done))) .stop) .stop) (.alt 27 (.alt 25 (.alt 28 (.first 29 (.first 30 (.first 31 .done))) .stop) .stop) .stop))))) (.alt 27 (.alt 19 (.first 22 (.first 23 (.first 24 (.alt 25 (.alt 28 (.first 29 (.first 30 (.first 31 .done))) .stop) .stop)))) .stop) .stop)))))))))))) .stop))))) .stop)))) .stop) .stop)))] }

theorem t_spec_ConstraintValid : TabOk Try.prog C_spec_ConstraintValid := by
  refine tabOk_of ?_
  simp only [C_spec_ConstraintValid, List.forall_mem_cons]
  exact ⟨k_spec_l1Abs, k_spec_l1Lit, fun p h => by cases h⟩

theorem k_spec_ConstraintValid : Entry Try.prog 124 c_spec_ConstraintValid := by
  refine entry_by (C := C_spec_ConstraintValid) mixed tys_ok t_spec_ConstraintValid (fn := Try.f124) (c := bd Try.f124) (by kernel_rfl) (by kernel_rfl) (by kernel_rfl) (by kernel_rfl) ?_
  intro args st k he
  unfold c_spec_ConstraintValid at he
  split at he
  rotate_left
  · exact he.elim
  rename_i c__0 c__1
  have he : Ok (spec_ConstraintValid (c__0, c__1)) (fun r => k (.c (.bool r)) []) := he
  refine ⟨rfl, rfl, ?_⟩
  refine loop_model mixed tys_ok t_spec_ConstraintValid (S := Int) (I := (fun i => (envOf [(1, .c (.ptr 10000000 0)), (3, .c (.int .i64 i))], [(10000000, .rc [.imm (.pair (.int .i64) (.int .i64)) (c__0, c__1).1, .int .i64 (c__0, c__1).2])]))) (f := spec_ConstraintValid_l1 (c__0, c__1)) (K := (fun r => k (.c (.bool r)) [])) he (leads_ren [(10000000, 1)] (l := [(1, .c (.ptr 10000000 0)), (3, .c (.int .i64 (0:Int)))]) (st' := [(10000000, .rc [.imm (.pair (.int .i64) (.int .i64)) (c__0, c__1).1, .int .i64 (c__0, c__1).2])]) rfl rfl ⟨⟨.inl rfl, rfl, trivial⟩, trivial⟩ ⟨⟨⟨rfl, rfl⟩, rfl⟩, rfl, trivial⟩) ?_
  rintro i J1 he
  refine And.intro (fun hb => ?_) (fun hb => ?_)
  · have he := ok_t he hb
    have he := ok_rq he
    refine And.intro he.1 ?_
    have he := he.2
    refine And.intro (by kernel_rfl) ?_
    refine And.intro ?_ trivial
    refine And.intro ?_ trivial
    obtain ⟨r4_, hr, he⟩ := ok_bind he
    refine ⟨r4_, hr, ?_⟩
    refine And.intro (fun hb => ?_) (fun hb => ?_)
    · have he := ok_f he hb
      refine And.intro ?_ trivial
      refine And.intro (fun hb => ?_) (fun hb => ?_)
      · have he := ok_f he hb
        refine And.intro ?_ trivial
        refine And.intro (fun hb => ?_) (fun hb => ?_)
        · have he := ok_f he hb
          refine And.intro (fun hb => ?_) (fun hb => ?_)
          · have he := ok_t he hb
            have he := ok_rq he
            refine And.intro he.1 ?_
            have he := he.2
            have he := ok_rq he
            have hq1 := he.1
            have he := he.2
            obtain ⟨r5_, hq2, he⟩ := ok_bind he
            obtain ⟨r6_, hq3, he⟩ := ok_bind he
            refine And.intro ?_ (And.intro ?_ (trivial))
            · skip
              refine And.intro hq1 ?_
              refine And.intro ?_ (And.intro ?_ (trivial))
              · skip
                refine ⟨r5_, hq2, ?_⟩
                refine And.intro ?_ trivial
                refine And.intro ?_ trivial
                refine ⟨r6_, hq3, ?_⟩
                refine And.intro (fun hb => ?_) (fun hb => ?_)
                · have he := ok_t he hb
                  have he := ok_some he
                  exact ⟨rfl, _, _, (leads_ren [] (l := [(2, .c (.bool false))]) (st' := []) rfl rfl trivial ⟨.inr rfl, trivial⟩), he⟩
                · have he := ok_f he hb
                  have he := ok_rq he
                  refine And.intro he.1 ?_
                  have he := he.2
                  have he := ok_some he
                  exact ⟨(i + (1:Int)), he, (leads_ren [] (l := [(1, .c (.ptr 10000000 0)), (3, .c (.int .i64 (i + (1:Int))))]) (st' := [(10000000, .rc [.imm (.pair (.int .i64) (.int .i64)) (c__0, c__1).1, .int .i64 (c__0, c__1).2])]) rfl rfl ⟨⟨.inl rfl, rfl, trivial⟩, trivial⟩ ⟨⟨⟨rfl, rfl⟩, rfl⟩, rfl, trivial⟩)⟩
              · skip
                refine And.intro ?_ trivial
                refine ⟨r5_, hq2, ?_⟩
                refine And.intro ?_ trivial
                refine ⟨r6_, hq3, ?_⟩
                refine And.intro (fun hb => ?_) (fun hb => ?_)
                · have he := ok_t he hb
                  have he := ok_some he
                  exact ⟨rfl, _, _, (leads_ren [] (l := [(2, .c (.bool false))]) (st' := []) rfl rfl trivial ⟨.inr rfl, trivial⟩), he⟩
                · have he := ok_f he hb
                  have he := ok_rq he
                  refine And.intro he.1 ?_
                  have he := he.2
                  have he := ok_some he
                  exact ⟨(i + (1:Int)), he, (leads_ren [] (l := [(1, .c (.ptr 10000000 0)), (3, .c (.int .i64 (i + (1:Int))))]) (st' := [(10000000, .rc [.imm (.pair (.int .i64) (.int .i64)) (c__0, c__1).1, .int .i64 (c__0, c__1).2])]) rfl rfl ⟨⟨.inl rfl, rfl, trivial⟩, trivial⟩ ⟨⟨⟨rfl, rfl⟩, rfl⟩, rfl, trivial⟩)⟩
            · skip
              refine And.intro ?_ trivial
              refine And.intro hq1 ?_
              refine And.intro ?_ trivial
              refine ⟨r5_, hq2, ?_⟩
              refine And.intro ?_ trivial
              refine ⟨r6_, hq3, ?_⟩
              refine And.intro (fun hb => ?_) (fun hb => ?_)
              · have he := ok_t he hb
                have he := ok_some he
                exact ⟨rfl, _, _, (leads_ren [] (l := [(2, .c (.bool false))]) (st' := []) rfl rfl trivial ⟨.inr rfl, trivial⟩), he⟩
              · have he := ok_f he hb
                have he := ok_rq he
                refine And.intro he.1 ?_
                have he := he.2
                have he := ok_some he
                exact ⟨(i + (1:Int)), he, (leads_ren [] (l := [(1, .c (.ptr 10000000 0)), (3, .c (.int .i64 (i + (1:Int))))]) (st' := [(10000000, .rc [.imm (.pair (.int .i64) (.int .i64)) (c__0, c__1).1, .int .i64 (c__0, c__1).2])]) rfl rfl ⟨⟨.inl rfl, rfl, trivial⟩, trivial⟩ ⟨⟨⟨rfl, rfl⟩, rfl⟩, rfl, trivial⟩)⟩
          · have he := ok_f he hb
            refine And.intro ?_ (And.intro ?_ (trivial))
            · skip
              refine And.intro ?_ (And.intro ?_ (trivial))
              · skip
                refine And.intro ?_ trivial
                refine And.intro ?_ trivial
                have he := ok_rq he
                refine And.intro he.1 ?_
                have he := he.2
                have he := ok_some he
                exact ⟨(i + (1:Int)), he, (leads_ren [] (l := [(1, .c (.ptr 10000000 0)), (3, .c (.int .i64 (i + (1:Int))))]) (st' := [(10000000, .rc [.imm (.pair (.int .i64) (.int .i64)) (c__0, c__1).1, .int .i64 (c__0, c__1).2])]) rfl rfl ⟨⟨.inl rfl, rfl, trivial⟩, trivial⟩ ⟨⟨⟨rfl, rfl⟩, rfl⟩, rfl, trivial⟩)⟩
              · skip
                refine And.intro ?_ trivial
                refine And.intro ?_ trivial
                have he := ok_rq he
                refine And.intro he.1 ?_
                have he := he.2
                have he := ok_some he
                exact ⟨(i + (1:Int)), he, (leads_ren [] (l := [(1, .c (.ptr 10000000 0)), (3, .c (.int .i64 (i + (1:Int))))]) (st' := [(10000000, .rc [.imm (.pair (.int .i64) (.int .i64)) (c__0, c__1).1, .int .i64 (c__0, c__1).2])]) rfl rfl ⟨⟨.inl rfl, rfl, trivial⟩, trivial⟩ ⟨⟨⟨rfl, rfl⟩, rfl⟩, rfl, trivial⟩)⟩
            · skip
              refine And.intro ?_ trivial
              refine And.intro ?_ trivial
              refine And.intro ?_ trivial
              have he := ok_rq he
              refine And.intro he.1 ?_
              have he := he.2
              have he := ok_some he
              exact ⟨(i + (1:Int)), he, (leads_ren [] (l := [(1, .c (.ptr 10000000 0)), (3, .c (.int .i64 (i + (1:Int))))]) (st' := [(10000000, .rc [.imm (.pair (.int .i64) (.int .i64)) (c__0, c__1).1, .int .i64 (c__0, c__1).2])]) rfl rfl ⟨⟨.inl rfl, rfl, trivial⟩, trivial⟩ ⟨⟨⟨rfl, rfl⟩, rfl⟩, rfl, trivial⟩)⟩
        · have he := ok_t he hb
          refine And.intro ?_ (And.intro ?_ (trivial))
          · skip
            refine And.intro ?_ (And.intro ?_ (trivial))
            · skip
              refine And.intro ?_ trivial
              refine And.intro ?_ trivial
              have he := ok_some he
              exact ⟨rfl, _, _, (leads_ren [] (l := [(2, .c (.bool false))]) (st' := []) rfl rfl trivial ⟨.inr rfl, trivial⟩), he⟩
            · skip
              refine And.intro ?_ trivial
              refine And.intro ?_ trivial
              have he := ok_some he
              exact ⟨rfl, _, _, (leads_ren [] (l := [(2, .c (.bool false))]) (st' := []) rfl rfl trivial ⟨.inr rfl, trivial⟩), he⟩
          · skip
            refine And.intro ?_ trivial
            refine And.intro ?_ trivial
            refine And.intro ?_ trivial
            have he := ok_some he
            exact ⟨rfl, _, _, (leads_ren [] (l := [(2, .c (.bool false))]) (st' := []) rfl rfl trivial ⟨.inr rfl, trivial⟩), he⟩
      · have he := ok_t he hb
        refine And.intro ?_ trivial
        refine And.intro ?_ (And.intro ?_ (trivial))
        · skip
          refine And.intro ?_ (And.intro ?_ (trivial))
          · skip
            refine And.intro ?_ trivial
            refine And.intro ?_ trivial
            have he := ok_some he
            exact ⟨rfl, _, _, (leads_ren [] (l := [(2, .c (.bool false))]) (st' := []) rfl rfl trivial ⟨.inr rfl, trivial⟩), he⟩
          · skip
            refine And.intro ?_ trivial
            refine And.intro ?_ trivial
            have he := ok_some he
            exact ⟨rfl, _, _, (leads_ren [] (l := [(2, .c (.bool false))]) (st' := []) rfl rfl trivial ⟨.inr rfl, trivial⟩), he⟩
        · skip
          refine And.intro ?_ trivial
          refine And.intro ?_ trivial
          refine And.intro ?_ trivial
          have he := ok_some he
          exact ⟨rfl, _, _, (leads_ren [] (l := [(2, .c (.bool false))]) (st' := []) rfl rfl trivial ⟨.inr rfl, trivial⟩), he⟩
    · have he := ok_t he hb
      refine And.intro ?_ trivial
      refine And.intro ?_ trivial
      refine And.intro ?_ (And.intro ?_ (trivial))
      · skip
        refine And.intro ?_ (And.intro ?_ (trivial))
        · skip
          refine And.intro ?_ trivial
          refine And.intro ?_ trivial
          have he := ok_some he
          exact ⟨rfl, _, _, (leads_ren [] (l := [(2, .c (.bool false))]) (st' := []) rfl rfl trivial ⟨.inr rfl, trivial⟩), he⟩
        · skip
          refine And.intro ?_ trivial
          refine And.intro ?_ trivial
          have he := ok_some he
          exact ⟨rfl, _, _, (leads_ren [] (l := [(2, .c (.bool false))]) (st' := []) rfl rfl trivial ⟨.inr rfl, trivial⟩), he⟩
      · skip
        refine And.intro ?_ trivial
        refine And.intro ?_ trivial
        refine And.intro ?_ trivial
        have he := ok_some he
        exact ⟨rfl, _, _, (leads_ren [] (l := [(2, .c (.bool false))]) (st' := []) rfl rfl trivial ⟨.inr rfl, trivial⟩), he⟩
  · have he := ok_f he hb
    refine And.intro (fun hb => ?_) (fun hb => ?_)
    · have he := ok_t he hb
      have he := ok_some he
      exact ⟨rfl, _, _, (leads_ren [] (l := [(2, .c (.bool (decide ((c__0, c__1).2 ≤ (20000:Int)))))]) (st' := []) rfl rfl trivial ⟨.inl rfl, trivial⟩), he⟩
    · have he := ok_f he hb
      have he := ok_some he
      exact ⟨rfl, _, _, (leads_ren [] (l := [(2, .c (.bool false))]) (st' := []) rfl rfl trivial ⟨.inr rfl, trivial⟩), he⟩

noncomputable def c_spec_ProblemValid : Con := fun args st => match args, st with
  | [.c (.imm (.pair (.sl (.pair (.int .i64) (.int .i64))) (.int .i64)) list_)], [] => .opt (Bool) (spec_ProblemValid list_) (fun r => .ret (.c (.bool r)) [])
  | _, _ => .fail

noncomputable def C_spec_ProblemValid : Cfg := { y := tys, n := 19, h := 0, tab := [(124, c_spec_ConstraintValid)], cut := [], hand := [], good := [], deep := [], sched := [] }

theorem t_spec_ProblemValid : TabOk Try.prog C_spec_ProblemValid := by
  refine tabOk_of ?_
  simp only [C_spec_ProblemValid, List.forall_mem_cons]
  exact ⟨k_spec_ConstraintValid, fun p h => by cases h⟩

theorem k_spec_ProblemValid : Entry Try.prog 64 c_spec_ProblemValid := by
  refine entry_by (C := C_spec_ProblemValid) mixed tys_ok t_spec_ProblemValid (fn := Try.f64) (c := bd Try.f64) (by kernel_rfl) (by kernel_rfl) (by kernel_rfl) (by kernel_rfl) ?_
  intro args st k he
  unfold c_spec_ProblemValid at he
  split at he
  rotate_left
  · exact he.elim
  rename_i list_
  have he : Ok (spec_ProblemValid list_) (fun r => k (.c (.bool r)) []) := he
  refine ⟨rfl, rfl, ?_⟩
  refine loop_model mixed tys_ok t_spec_ProblemValid (S := Int) (I := (fun i => (envOf [(0, .c (.imm (.pair (.sl (.pair (.int .i64) (.int .i64))) (.int .i64)) list_)), (3, .c (.int .i64 i))], []))) (f := spec_ProblemValid_l1 list_) (K := (fun r => k (.c (.bool r)) [])) he (leads_ren [] (l := [(0, .c (.imm (.pair (.sl (.pair (.int .i64) (.int .i64))) (.int .i64)) list_)), (3, .c (.int .i64 (0:Int)))]) (st' := []) rfl rfl trivial ⟨.inl rfl, rfl, trivial⟩) ?_
  rintro i J1 he
  refine And.intro (fun hb => ?_) (fun hb => ?_)
  · have he := ok_t he hb
    have he := ok_rq he
    refine And.intro he.1 ?_
    have he := he.2
    obtain ⟨r1_, hr, he⟩ := ok_bind he
    refine ⟨r1_, hr, ?_⟩
    refine And.intro (fun hb => ?_) (fun hb => ?_)
    · have he := ok_t he hb
      have he := ok_some he
      exact ⟨rfl, _, _, Leads.refl _ _, he⟩
    · have he := ok_f he hb
      have he := ok_rq he
      refine And.intro he.1 ?_
      have he := he.2
      have he := ok_some he
      exact ⟨(i + (1:Int)), he, (leads_ren [] (l := [(0, .c (.imm (.pair (.sl (.pair (.int .i64) (.int .i64))) (.int .i64)) list_)), (3, .c (.int .i64 (i + (1:Int))))]) (st' := []) rfl rfl trivial ⟨.inl rfl, rfl, trivial⟩)⟩
  · have he := ok_f he hb
    have he := ok_some he
    exact ⟨rfl, _, _, Leads.refl _ _, he⟩

noncomputable def c_spec_l1True : Con := fun args st => match args, st with
  | [.c (.imm .bool values), .c (.int .i64 lit)], [] => .opt (Bool) (spec_l1True values lit) (fun r => .ret (.c (.bool r)) [])
  | _, _ => .fail

noncomputable def C_spec_l1True : Cfg := { y := tys, n := 19, h := 0, tab := [], cut := [], hand := [], good := [], deep := [], sched := [] }

theorem t_spec_l1True : TabOk Try.prog C_spec_l1True := tabOk_of (fun p h => by cases h)

theorem k_spec_l1True : Entry Try.prog 159 c_spec_l1True := by
  refine entry_by (C := C_spec_l1True) mixed tys_ok t_spec_l1True (fn := Try.f159) (c := bd Try.f159) (by kernel_rfl) (by kernel_rfl) (by kernel_rfl) (by kernel_rfl) ?_
  intro args st k he
  unfold c_spec_l1True at he
  split at he
  rotate_left
  · exact he.elim
  rename_i values lit
  have he : Ok (spec_l1True values lit) (fun r => k (.c (.bool r)) []) := he
  refine ⟨rfl, rfl, ?_⟩
  refine And.intro (fun hb => ?_) (fun hb => ?_)
  · have he := ok_t he hb
    have he := ok_rq he
    refine And.intro he.1 ?_
    have he := he.2
    have he := ok_rq he
    refine And.intro he.1 ?_
    have he := he.2
    have he := ok_some he
    exact ⟨rfl, _, _, Leads.refl _ _, he⟩
  · have he := ok_f he hb
    have he := ok_rq he
    refine And.intro he.1 ?_
    have he := he.2
    have he := ok_rq he
    refine And.intro he.1 ?_
    have he := he.2
    have he := ok_rq he
    refine And.intro he.1 ?_
    have he := he.2
    have he := ok_some he
    exact ⟨rfl, _, _, Leads.refl _ _, he⟩

noncomputable def c_spec_l1Eval : Con := fun args st => match args, st with
  | [.agg [.imm (.pair (.int .i64) (.int .i64)) c__0, .int .i64 c__1], .c (.imm .bool values)], [] => .opt (Bool) (spec_l1Eval (c__0, c__1) values) (fun r => .ret (.c (.bool r)) [])
  | _, _ => .fail

noncomputable def C_spec_l1Eval : Cfg := { y := tys, n := 34, h := 0, tab := [(159, c_spec_l1True)], cut := [], hand := [], good := [], deep := [], sched := [] }

theorem t_spec_l1Eval : TabOk Try.prog C_spec_l1Eval := by
  refine tabOk_of ?_
  simp only [C_spec_l1Eval, List.forall_mem_cons]
  exact ⟨k_spec_l1True, fun p h => by cases h⟩

theorem k_spec_l1Eval : Entry Try.prog 125 c_spec_l1Eval := by
  refine entry_by (C := C_spec_l1Eval) mixed tys_ok t_spec_l1Eval (fn := Try.f125) (c := bd Try.f125) (by kernel_rfl) (by kernel_rfl) (by kernel_rfl) (by kernel_rfl) ?_
  intro args st k he
  unfold c_spec_l1Eval at he
  split at he
  rotate_left
  · exact he.elim
  rename_i c__0 c__1 values
  have he : Ok (spec_l1Eval (c__0, c__1) values) (fun r => k (.c (.bool r)) []) := he
  refine ⟨rfl, rfl, ?_⟩
  refine loop_model mixed tys_ok t_spec_l1Eval (S := Int × Int) (I := (fun (n, i) => (envOf [(1, .c (.imm .bool values)), (2, .c (.ptr 10000000 0)), (5, .c (.int .i64 n)), (6, .c (.int .i64 i))], [(10000000, .rc [.imm (.pair (.int .i64) (.int .i64)) (c__0, c__1).1, .int .i64 (c__0, c__1).2])]))) (f := spec_l1Eval_l1 (c__0, c__1) values) (K := (fun r => k (.c (.bool r)) [])) he (leads_ren [(10000000, 2)] (l := [(1, .c (.imm .bool values)), (2, .c (.ptr 10000000 0)), (5, .c (.int .i64 (0:Int))), (6, .c (.int .i64 (0:Int)))]) (st' := [(10000000, .rc [.imm (.pair (.int .i64) (.int .i64)) (c__0, c__1).1, .int .i64 (c__0, c__1).2])]) rfl rfl ⟨⟨.inl rfl, rfl, trivial⟩, trivial⟩ ⟨.inl rfl, ⟨⟨rfl, rfl⟩, rfl⟩, rfl, rfl, trivial⟩) ?_
  rintro ⟨n, i⟩ J1 he
  refine And.intro (fun hb => ?_) (fun hb => ?_)
  · have he := ok_t he hb
    have he := ok_rq he
    refine And.intro he.1 ?_
    have he := he.2
    obtain ⟨r1_, hr, he⟩ := ok_bind he
    refine ⟨r1_, hr, ?_⟩
    refine And.intro (fun hb => ?_) (fun hb => ?_)
    · have he := ok_t he hb
      have he := ok_rq he
      refine And.intro he.1 ?_
      have he := he.2
      have he := ok_rq he
      refine And.intro he.1 ?_
      have he := he.2
      have he := ok_rq he
      refine And.intro he.1 ?_
      have he := he.2
      have he := ok_some he
      exact ⟨((n + ((c__0, c__1).1.getD i.toNat (0, 0)).1), (i + (1:Int))), he, (leads_ren [] (l := [(1, .c (.imm .bool values)), (2, .c (.ptr 10000000 0)), (5, .c (.int .i64 (n + ((c__0, c__1).1.getD i.toNat (0, 0)).1))), (6, .c (.int .i64 (i + (1:Int))))]) (st' := [(10000000, .rc [.imm (.pair (.int .i64) (.int .i64)) (c__0, c__1).1, .int .i64 (c__0, c__1).2])]) rfl rfl ⟨⟨.inl rfl, rfl, trivial⟩, trivial⟩ ⟨.inl rfl, ⟨⟨rfl, rfl⟩, rfl⟩, rfl, rfl, trivial⟩)⟩
    · have he := ok_f he hb
      have he := ok_rq he
      refine And.intro he.1 ?_
      have he := he.2
      have he := ok_some he
      exact ⟨(n, (i + (1:Int))), he, (leads_ren [] (l := [(1, .c (.imm .bool values)), (2, .c (.ptr 10000000 0)), (5, .c (.int .i64 n)), (6, .c (.int .i64 (i + (1:Int))))]) (st' := [(10000000, .rc [.imm (.pair (.int .i64) (.int .i64)) (c__0, c__1).1, .int .i64 (c__0, c__1).2])]) rfl rfl ⟨⟨.inl rfl, rfl, trivial⟩, trivial⟩ ⟨.inl rfl, ⟨⟨rfl, rfl⟩, rfl⟩, rfl, rfl, trivial⟩)⟩
  · have he := ok_f he hb
    have he := ok_some he
    exact ⟨rfl, _, _, (leads_ren [] (l := [(4, .c (.bool (decide ((c__0, c__1).2 ≤ n))))]) (st' := []) rfl rfl trivial ⟨.inl rfl, trivial⟩), he⟩

noncomputable def c_spec_l11Bad : Con := fun args st => match args, st with
  | [.c (.imm (.pair (.sl (.pair (.int .i64) (.int .i64))) (.int .i64)) list_), .c (.imm .bool values)], [] => .opt (Int) (spec_l11Bad list_ values) (fun r => .ret (.c (.int .i64 r)) [])
  | _, _ => .fail

noncomputable def C_spec_l11Bad : Cfg := { y := tys, n := 23, h := 0, tab := [(125, c_spec_l1Eval)], cut := [], hand := [], good := [], deep := [], sched := [] }

theorem t_spec_l11Bad : TabOk Try.prog C_spec_l11Bad := by
  refine tabOk_of ?_
  simp only [C_spec_l11Bad, List.forall_mem_cons]
  exact ⟨k_spec_l1Eval, fun p h => by cases h⟩

theorem k_spec_l11Bad : Entry Try.prog 65 c_spec_l11Bad := by
  refine entry_by (C := C_spec_l11Bad) mixed tys_ok t_spec_l11Bad (fn := Try.f65) (c := bd Try.f65) (by kernel_rfl) (by kernel_rfl) (by kernel_rfl) (by kernel_rfl) ?_
  intro args st k he
  unfold c_spec_l11Bad at he
  split at he
  rotate_left
  · exact he.elim
  rename_i list_ values
  have he : Ok (spec_l11Bad list_ values) (fun r => k (.c (.int .i64 r)) []) := he
  refine ⟨rfl, rfl, ?_⟩
  refine loop_model mixed tys_ok t_spec_l11Bad (S := Int × Int) (I := (fun (n, i) => (envOf [(0, .c (.imm (.pair (.sl (.pair (.int .i64) (.int .i64))) (.int .i64)) list_)), (1, .c (.imm .bool values)), (5, .c (.int .i64 n)), (6, .c (.int .i64 i))], []))) (f := spec_l11Bad_l1 list_ values) (K := (fun r => k (.c (.int .i64 r)) [])) he (leads_ren [] (l := [(0, .c (.imm (.pair (.sl (.pair (.int .i64) (.int .i64))) (.int .i64)) list_)), (1, .c (.imm .bool values)), (5, .c (.int .i64 (0:Int))), (6, .c (.int .i64 (0:Int)))]) (st' := []) rfl rfl trivial ⟨.inl rfl, .inl rfl, rfl, rfl, trivial⟩) ?_
  rintro ⟨n, i⟩ J1 he
  refine And.intro (fun hb => ?_) (fun hb => ?_)
  · have he := ok_t he hb
    have he := ok_rq he
    refine And.intro he.1 ?_
    have he := he.2
    obtain ⟨r1_, hr, he⟩ := ok_bind he
    refine ⟨r1_, hr, ?_⟩
    refine And.intro (fun hb => ?_) (fun hb => ?_)
    · have he := ok_t he hb
      have he := ok_rq he
      refine And.intro he.1 ?_
      have he := he.2
      have he := ok_rq he
      refine And.intro he.1 ?_
      have he := he.2
      have he := ok_some he
      exact ⟨((n + (1:Int)), (i + (1:Int))), he, (leads_ren [] (l := [(0, .c (.imm (.pair (.sl (.pair (.int .i64) (.int .i64))) (.int .i64)) list_)), (1, .c (.imm .bool values)), (5, .c (.int .i64 (n + (1:Int)))), (6, .c (.int .i64 (i + (1:Int))))]) (st' := []) rfl rfl trivial ⟨.inl rfl, .inl rfl, rfl, rfl, trivial⟩)⟩
    · have he := ok_f he hb
      have he := ok_rq he
      refine And.intro he.1 ?_
      have he := he.2
      have he := ok_some he
      exact ⟨(n, (i + (1:Int))), he, (leads_ren [] (l := [(0, .c (.imm (.pair (.sl (.pair (.int .i64) (.int .i64))) (.int .i64)) list_)), (1, .c (.imm .bool values)), (5, .c (.int .i64 n)), (6, .c (.int .i64 (i + (1:Int))))]) (st' := []) rfl rfl trivial ⟨.inl rfl, .inl rfl, rfl, rfl, trivial⟩)⟩
  · have he := ok_f he hb
    have he := ok_some he
    exact ⟨rfl, _, _, Leads.refl _ _, he⟩

noncomputable def c_spec_FlipBest : Con := fun args st => match args, st with
  | [.c (.imm (.pair (.sl (.pair (.int .i64) (.int .i64))) (.int .i64)) list_), .c (.imm .bool values)], [] => .opt (Int × Bool × (List Bool)) (spec_FlipBest list_ values) (fun r => .ret (.tup [.c (.own 900 false), .c (.int .i64 r.1), .c (.bool r.2.1)]) [(900, .sl 4 .bool r.2.2 .shallow)])
  | _, _ => .fail

noncomputable def C_spec_FlipBest : Cfg := { y := tys, n := 51, h := 0, tab := [(64, c_spec_ProblemValid), (65, c_spec_l11Bad)], cut := [14], hand := [], good := [], deep := [], sched := [] }

theorem t_spec_FlipBest : TabOk Try.prog C_spec_FlipBest := by
  refine tabOk_of ?_
  simp only [C_spec_FlipBest, List.forall_mem_cons]
  exact ⟨k_spec_ProblemValid, k_spec_l11Bad, fun p h => by cases h⟩

theorem k_spec_FlipBest : Entry Try.prog 17 c_spec_FlipBest := by
  refine entry_by (C := C_spec_FlipBest) mixed tys_ok t_spec_FlipBest (fn := Try.f17) (c := bd Try.f17) (by kernel_rfl) (by kernel_rfl) (by kernel_rfl) (by kernel_rfl) ?_
  intro args st k he
  unfold c_spec_FlipBest at he
  split at he
  rotate_left
  · exact he.elim
  rename_i list_ values
  have he : Ok (spec_FlipBest list_ values) (fun r => k (.tup [.c (.own 900 false), .c (.int .i64 r.1), .c (.bool r.2.1)]) [(900, .sl 4 .bool r.2.2 .shallow)]) := he
  refine ⟨rfl, rfl, ?_⟩
  obtain ⟨r1_, hr, he⟩ := ok_bind he
  refine ⟨r1_, hr, ?_⟩
  refine And.intro (fun hb => ?_) (fun hb => ?_)
  · have he := ok_f he hb
    refine And.intro (fun hb => ?_) (fun hb => ?_)
    · have he := ok_t he hb
      have he := ok_some he
      exact ⟨rfl, _, _, (leads_ren [(900, 20)] (l := [(4, .c (.own 900 false)), (5, .c (.int .i64 (0:Int))), (6, .c (.bool false))]) (st' := [(900, .sl 4 .bool ([] : List Bool) .shallow)]) rfl rfl ⟨⟨rfl, rfl⟩, trivial⟩ ⟨⟨⟨rfl, rfl⟩, trivial⟩, rfl, .inr rfl, trivial⟩), he⟩
    · have he := ok_f he hb
      refine seq_model mixed tys_ok t_spec_FlipBest (S := Int × (List Bool)) (I := (fun (best1, out1) => (envOf [(7, .c (.int .i64 best1)), (8, .c (.own 10001000 false))], [(10001000, .sl 4 .bool out1 .shallow)]))) (B := fun s => Ok (spec_FlipBest_j1 s) (fun r => k (.tup [.c (.own 900 false), .c (.int .i64 r.1), .c (.bool r.2.1)]) [(900, .sl 4 .bool r.2.2 .shallow)])) ?_ ?_
      · rintro ⟨best1, out1⟩ he
        have he := ok_some he
        exact ⟨rfl, _, _, (leads_ren [(900, 10001000)] (l := [(4, .c (.own 900 false)), (5, .c (.int .i64 best1)), (6, .c (.bool true))]) (st' := [(900, .sl 4 .bool out1 .shallow)]) rfl rfl ⟨⟨rfl, rfl⟩, trivial⟩ ⟨⟨⟨rfl, rfl⟩, trivial⟩, rfl, .inr rfl, trivial⟩), he⟩
      · skip
        refine loop_model mixed tys_ok t_spec_FlipBest (S := Int × Int × (List Bool)) (I := (fun (best, v, out) => (envOf [(0, .c (.imm (.pair (.sl (.pair (.int .i64) (.int .i64))) (.int .i64)) list_)), (1, .c (.imm .bool values)), (7, .c (.int .i64 best)), (8, .c (.own 10000000 false)), (9, .c (.int .i64 v))], [(10000000, .sl 4 .bool out .shallow)]))) (f := spec_FlipBest_l1 list_ values) (K := (fun r => k (.tup [.c (.own 900 false), .c (.int .i64 r.1), .c (.bool r.2.1)]) [(900, .sl 4 .bool r.2.2 .shallow)])) he (leads_ren [(10000000, 21)] (l := [(0, .c (.imm (.pair (.sl (.pair (.int .i64) (.int .i64))) (.int .i64)) list_)), (1, .c (.imm .bool values)), (7, .c (.int .i64 (-1:Int))), (8, .c (.own 10000000 false)), (9, .c (.int .i64 (0:Int)))]) (st' := [(10000000, .sl 4 .bool ([] : List Bool) .shallow)]) rfl rfl ⟨⟨rfl, rfl⟩, trivial⟩ ⟨.inl rfl, .inl rfl, rfl, ⟨⟨rfl, rfl⟩, trivial⟩, rfl, trivial⟩) ?_
        rintro ⟨best, v, out⟩ J1 he
        refine And.intro (fun hb => ?_) (fun hb => ?_)
        · have he := ok_t he hb
          have he := ok_rq he
          refine And.intro he.1 ?_
          have he := he.2
          have he := ok_rq he
          refine And.intro he.1 ?_
          have he := he.2
          have he := ok_rq he
          refine And.intro he.1 ?_
          have he := he.2
          obtain ⟨r3_, hr, he⟩ := ok_bind he
          refine ⟨r3_, hr, ?_⟩
          refine And.intro (fun hb => ?_) (fun hb => ?_)
          · have he := ok_f he hb
            refine And.intro (fun hb => ?_) (fun hb => ?_)
            · have he := ok_t he hb
              have he := ok_rq he
              refine And.intro he.1 ?_
              have he := he.2
              have he := ok_some he
              exact ⟨(r3_, (v + (1:Int)), ((([] : List Bool) ++ values).set v.toNat (!((([] : List Bool) ++ values).getD v.toNat false)))), he, (leads_ren [(10000000, 28)] (l := [(0, .c (.imm (.pair (.sl (.pair (.int .i64) (.int .i64))) (.int .i64)) list_)), (1, .c (.imm .bool values)), (7, .c (.int .i64 r3_)), (8, .c (.own 10000000 false)), (9, .c (.int .i64 (v + (1:Int))))]) (st' := [(10000000, .sl 4 .bool ((([] : List Bool) ++ values).set v.toNat (!((([] : List Bool) ++ values).getD v.toNat false))) .shallow)]) rfl rfl ⟨⟨rfl, rfl⟩, trivial⟩ ⟨.inl rfl, .inl rfl, rfl, ⟨⟨rfl, rfl⟩, trivial⟩, rfl, trivial⟩)⟩
            · have he := ok_f he hb
              have he := ok_rq he
              refine And.intro he.1 ?_
              have he := he.2
              have he := ok_some he
              exact ⟨(best, (v + (1:Int)), out), he, (leads_ren [] (l := [(0, .c (.imm (.pair (.sl (.pair (.int .i64) (.int .i64))) (.int .i64)) list_)), (1, .c (.imm .bool values)), (7, .c (.int .i64 best)), (8, .c (.own 10000000 false)), (9, .c (.int .i64 (v + (1:Int))))]) (st' := [(10000000, .sl 4 .bool out .shallow)]) rfl rfl ⟨⟨rfl, rfl⟩, trivial⟩ ⟨.inl rfl, .inl rfl, rfl, ⟨⟨rfl, rfl⟩, trivial⟩, rfl, trivial⟩)⟩
          · have he := ok_t he hb
            have he := ok_rq he
            refine And.intro he.1 ?_
            have he := he.2
            have he := ok_some he
            exact ⟨(r3_, (v + (1:Int)), ((([] : List Bool) ++ values).set v.toNat (!((([] : List Bool) ++ values).getD v.toNat false)))), he, (leads_ren [(10000000, 28)] (l := [(0, .c (.imm (.pair (.sl (.pair (.int .i64) (.int .i64))) (.int .i64)) list_)), (1, .c (.imm .bool values)), (7, .c (.int .i64 r3_)), (8, .c (.own 10000000 false)), (9, .c (.int .i64 (v + (1:Int))))]) (st' := [(10000000, .sl 4 .bool ((([] : List Bool) ++ values).set v.toNat (!((([] : List Bool) ++ values).getD v.toNat false))) .shallow)]) rfl rfl ⟨⟨rfl, rfl⟩, trivial⟩ ⟨.inl rfl, .inl rfl, rfl, ⟨⟨rfl, rfl⟩, trivial⟩, rfl, trivial⟩)⟩
        · have he := ok_f he hb
          exact ⟨(best, out), ok_up he, (leads_ren [(10001000, 10000000)] (l := [(7, .c (.int .i64 best)), (8, .c (.own 10001000 false))]) (st' := [(10001000, .sl 4 .bool out .shallow)]) rfl rfl ⟨⟨rfl, rfl⟩, trivial⟩ ⟨rfl, ⟨⟨rfl, rfl⟩, trivial⟩, trivial⟩)⟩
  · have he := ok_t he hb
    have he := ok_some he
    exact ⟨rfl, _, _, (leads_ren [(900, 20)] (l := [(4, .c (.own 900 false)), (5, .c (.int .i64 (0:Int))), (6, .c (.bool false))]) (st' := [(900, .sl 4 .bool ([] : List Bool) .shallow)]) rfl rfl ⟨⟨rfl, rfl⟩, trivial⟩ ⟨⟨⟨rfl, rfl⟩, trivial⟩, rfl, .inr rfl, trivial⟩), he⟩

noncomputable def c_impl_within : Con := fun args st => match args, st with
  | [.c (.int .i64 n), .c (.int .i64 low), .c (.int .i64 high)], [] => .opt (Bool) (impl_within n low high) (fun r => .ret (.c (.bool r)) [])
  | _, _ => .fail

noncomputable def C_impl_within : Cfg := { y := tys, n := 15, h := 0, tab := [], cut := [], hand := [], good := [], deep := [], sched := [] }

theorem t_impl_within : TabOk Try.prog C_impl_within := tabOk_of (fun p h => by cases h)

theorem k_impl_within : Entry Try.prog 89 c_impl_within := by
  refine entry_by (C := C_impl_within) mixed tys_ok t_impl_within (fn := Try.f89) (c := bd Try.f89) (by kernel_rfl) (by kernel_rfl) (by kernel_rfl) (by kernel_rfl) ?_
  intro args st k he
  unfold c_impl_within at he
  split at he
  rotate_left
  · exact he.elim
  rename_i n low high
  have he : Ok (impl_within n low high) (fun r => k (.c (.bool r)) []) := he
  refine ⟨rfl, rfl, ?_⟩
  refine And.intro (fun hb => ?_) (fun hb => ?_)
  · have he := ok_t he hb
    have he := ok_some he
    exact ⟨rfl, _, _, Leads.refl _ _, he⟩
  · have he := ok_f he hb
    have he := ok_some he
    exact ⟨rfl, _, _, Leads.refl _ _, he⟩

noncomputable def c_impl_isLiteral : Con := fun args st => match args, st with
  | [.c (.int .i64 l)], [] => .opt (Bool) (impl_isLiteral l) (fun r => .ret (.c (.bool r)) [])
  | _, _ => .fail

noncomputable def C_impl_isLiteral : Cfg := { y := tys, n := 9, h := 0, tab := [(89, c_impl_within)], cut := [], hand := [], good := [], deep := [], sched := [] }

theorem t_impl_isLiteral : TabOk Try.prog C_impl_isLiteral := by
  refine tabOk_of ?_
  simp only [C_impl_isLiteral, List.forall_mem_cons]
  exact ⟨k_impl_within, fun p h => by cases h⟩

theorem k_impl_isLiteral : Entry Try.prog 150 c_impl_isLiteral := by
  refine entry_by (C := C_impl_isLiteral) mixed tys_ok t_impl_isLiteral (fn := Try.f150) (c := bd Try.f150) (by kernel_rfl) (by kernel_rfl) (by kernel_rfl) (by kernel_rfl) ?_
  intro args st k he
  unfold c_impl_isLiteral at he
  split at he
  rotate_left
  · exact he.elim
  rename_i l
  have he : Ok (impl_isLiteral l) (fun r => k (.c (.bool r)) []) := he
  refine ⟨rfl, rfl, ?_⟩
  refine And.intro (fun hb => ?_) (fun hb => ?_)
  · have he := ok_t he hb
    obtain ⟨r1_, hr, he⟩ := ok_bind he
    refine ⟨r1_, hr, ?_⟩
    have he := ok_some he
    exact ⟨rfl, _, _, Leads.refl _ _, he⟩
  · have he := ok_f he hb
    have he := ok_some he
    exact ⟨rfl, _, _, Leads.refl _ _, he⟩

noncomputable def c_impl_variableOf : Con := fun args st => match args, st with
  | [.c (.int .i64 l)], [] => .opt (Int) (impl_variableOf l) (fun r => .ret (.c (.int .i64 r)) [])
  | _, _ => .fail

noncomputable def C_impl_variableOf : Cfg := { y := tys, n := 7, h := 0, tab := [], cut := [], hand := [], good := [], deep := [], sched := [] }

theorem t_impl_variableOf : TabOk Try.prog C_impl_variableOf := tabOk_of (fun p h => by cases h)

theorem k_impl_variableOf : Entry Try.prog 151 c_impl_variableOf := by
  refine entry_by (C := C_impl_variableOf) mixed tys_ok t_impl_variableOf (fn := Try.f151) (c := bd Try.f151) (by kernel_rfl) (by kernel_rfl) (by kernel_rfl) (by kernel_rfl) ?_
  intro args st k he
  unfold c_impl_variableOf at he
  split at he
  rotate_left
  · exact he.elim
  rename_i l
  have he : Ok (impl_variableOf l) (fun r => k (.c (.int .i64 r)) []) := he
  refine ⟨rfl, rfl, ?_⟩
  have he := ok_rq he
  refine And.intro he.1 ?_
  have he := he.2
  have he := ok_some he
  exact ⟨rfl, _, _, Leads.refl _ _, he⟩

noncomputable def c_impl_ConstraintValid : Con := fun args st => match args, st with
  | [.agg [.imm (.pair (.int .i64) (.int .i64)) c__0, .int .i64 c__1]], [] => .opt (Bool) (impl_ConstraintValid (c__0, c__1)) (fun r => .ret (.c (.bool r)) [])
  | _, _ => .fail

noncomputable def C_impl_ConstraintValid : Cfg := { y := tys, n := 37, h := 0, tab := [(89, c_impl_within), (150, c_impl_isLiteral), (151, c_impl_variableOf)], cut := [], hand := [], good := [], deep := [], sched := [] }

theorem t_impl_ConstraintValid : TabOk Try.prog C_impl_ConstraintValid := by
  refine tabOk_of ?_
  simp only [C_impl_ConstraintValid, List.forall_mem_cons]
  exact ⟨k_impl_within, k_impl_isLiteral, k_impl_variableOf, fun p h => by cases h⟩

theorem k_impl_ConstraintValid : Entry Try.prog 158 c_impl_ConstraintValid := by
  refine entry_by (C := C_impl_ConstraintValid) mixed tys_ok t_impl_ConstraintValid (fn := Try.f158) (c := bd Try.f158) (by kernel_rfl) (by kernel_rfl) (by kernel_rfl) (by kernel_rfl) ?_
  intro args st k he
  unfold c_impl_ConstraintValid at he
  split at he
  rotate_left
  · exact he.elim
  rename_i c__0 c__1
  have he : Ok (impl_ConstraintValid (c__0, c__1)) (fun r => k (.c (.bool r)) []) := he
  refine ⟨rfl, rfl, ?_⟩
  refine loop_model mixed tys_ok t_impl_ConstraintValid (S := Int × Int) (I := (fun (before, i) => (envOf [(1, .c (.ptr 10000000 0)), (3, .c (.int .i64 before)), (7, .c (.imm (.pair (.int .i64) (.int .i64)) (c__0, c__1).1)), (8, .c (.int .i64 ((c__0, c__1).1.length:Int))), (9, .c (.int .i64 i))], [(10000000, .rc [.imm (.pair (.int .i64) (.int .i64)) (c__0, c__1).1, .int .i64 (c__0, c__1).2])]))) (f := impl_ConstraintValid_l1 (c__0, c__1)) (K := (fun r => k (.c (.bool r)) [])) he (leads_ren [(10000000, 1)] (l := [(1, .c (.ptr 10000000 0)), (3, .c (.int .i64 (0:Int))), (7, .c (.imm (.pair (.int .i64) (.int .i64)) (c__0, c__1).1)), (8, .c (.int .i64 ((c__0, c__1).1.length:Int))), (9, .c (.int .i64 (0:Int)))]) (st' := [(10000000, .rc [.imm (.pair (.int .i64) (.int .i64)) (c__0, c__1).1, .int .i64 (c__0, c__1).2])]) rfl rfl ⟨⟨.inl rfl, rfl, trivial⟩, trivial⟩ ⟨⟨⟨rfl, rfl⟩, rfl⟩, rfl, .inl rfl, rfl, rfl, trivial⟩) ?_
  rintro ⟨before, i⟩ J1 he
  refine And.intro (fun hb => ?_) (fun hb => ?_)
  · have he := ok_t he hb
    have he := ok_rq he
    refine And.intro he.1 ?_
    have he := he.2
    obtain ⟨r1_, hr, he⟩ := ok_bind he
    refine ⟨r1_, hr, ?_⟩
    refine And.intro (fun hb => ?_) (fun hb => ?_)
    · have he := ok_f he hb
      obtain ⟨r2_, hr, he⟩ := ok_bind he
      refine ⟨r2_, hr, ?_⟩
      refine And.intro (fun hb => ?_) (fun hb => ?_)
      · have he := ok_f he hb
        obtain ⟨r3_, hr, he⟩ := ok_bind he
        refine ⟨r3_, hr, ?_⟩
        refine And.intro (fun hb => ?_) (fun hb => ?_)
        · have he := ok_t he hb
          have he := ok_some he
          exact ⟨rfl, _, _, (leads_ren [] (l := [(2, .c (.bool false))]) (st' := []) rfl rfl trivial ⟨.inr rfl, trivial⟩), he⟩
        · have he := ok_f he hb
          obtain ⟨r4_, hr, he⟩ := ok_bind he
          refine ⟨r4_, hr, ?_⟩
          have he := ok_rq he
          refine And.intro he.1 ?_
          have he := he.2
          have he := ok_some he
          exact ⟨(r4_, (i + (1:Int))), he, (leads_ren [] (l := [(1, .c (.ptr 10000000 0)), (3, .c (.int .i64 r4_)), (7, .c (.imm (.pair (.int .i64) (.int .i64)) (c__0, c__1).1)), (8, .c (.int .i64 ((c__0, c__1).1.length:Int))), (9, .c (.int .i64 (i + (1:Int))))]) (st' := [(10000000, .rc [.imm (.pair (.int .i64) (.int .i64)) (c__0, c__1).1, .int .i64 (c__0, c__1).2])]) rfl rfl ⟨⟨.inl rfl, rfl, trivial⟩, trivial⟩ ⟨⟨⟨rfl, rfl⟩, rfl⟩, rfl, .inl rfl, rfl, rfl, trivial⟩)⟩
      · have he := ok_t he hb
        have he := ok_some he
        exact ⟨rfl, _, _, (leads_ren [] (l := [(2, .c (.bool false))]) (st' := []) rfl rfl trivial ⟨.inr rfl, trivial⟩), he⟩
    · have he := ok_t he hb
      have he := ok_some he
      exact ⟨rfl, _, _, (leads_ren [] (l := [(2, .c (.bool false))]) (st' := []) rfl rfl trivial ⟨.inr rfl, trivial⟩), he⟩
  · have he := ok_f he hb
    obtain ⟨r5_, hr, he⟩ := ok_bind he
    refine ⟨r5_, hr, ?_⟩
    have he := ok_some he
    exact ⟨rfl, _, _, (leads_ren [] (l := [(2, .c (.bool r5_))]) (st' := []) rfl rfl trivial ⟨.inl rfl, trivial⟩), he⟩

end Go.AE.Y
