/-
  Walks: each function keeps the contract that its model gives. No conditions.
-/
import Derived.Test.YtpeelmjecjbfjaaR4Tab
import Derived.Test.YtpeelmjecjbfjaaR4M
import Derived.Test.YtpeelmjecjbfjaaR4S
namespace Go.AE.Y
open Go Go.AE Go.Proofs
set_option linter.unusedVariables false
set_option maxHeartbeats 2000000
set_option maxRecDepth 100000

noncomputable def c_laws_szTermS : Con := fun args st => match args, st with
  | [.c (.imm (.pair (.int .i64) (.int .i64)) a), .c (.int .i64 left)], [] => .opt (Int) (laws_szTermS a left) (fun r => .ret (.c (.int .i64 r)) [])
  | _, _ => .fail

noncomputable def C_laws_szTermS : Cfg := { y := tys, n := 12, h := 0, tab := [], cut := [], hand := [], good := [], deep := [], sched := [] }

theorem t_laws_szTermS : TabOk Try.prog C_laws_szTermS := tabOk_of (fun p h => by cases h)

theorem k_laws_szTermS : Entry Try.prog 228 c_laws_szTermS := by
  refine entry_by (C := C_laws_szTermS) mixed tys_ok t_laws_szTermS (fn := Try.f228) (c := bd Try.f228) (by kernel_rfl) (by kernel_rfl) (by kernel_rfl) (by kernel_rfl) ?_
  intro args st k he
  unfold c_laws_szTermS at he
  split at he
  rotate_left
  · exact he.elim
  rename_i a left
  have he : Ok (laws_szTermS a left) (fun r => k (.c (.int .i64 r)) []) := he
  refine ⟨rfl, rfl, ?_⟩
  have he := ok_rq he
  refine And.intro he.1 ?_
  have he := he.2
  refine And.intro (fun hb => ?_) (fun hb => ?_)
  · have he := ok_t he hb
    have he := ok_some he
    exact ⟨rfl, _, _, Leads.refl _ _, he⟩
  · have he := ok_f he hb
    have he := ok_some he
    exact ⟨rfl, _, _, Leads.refl _ _, he⟩

noncomputable def c_laws_szConstraint : Con := fun args st => match args, st with
  | [.agg [.imm (.pair (.int .i64) (.int .i64)) a_0, .int .i64 a_1], .c (.int .i64 left)], [] => .opt (Int) (laws_szConstraint (a_0, a_1) left) (fun r => .ret (.c (.int .i64 r)) [])
  | _, _ => .fail

noncomputable def C_laws_szConstraint : Cfg := { y := tys, n := 12, h := 0, tab := [(228, c_laws_szTermS)], cut := [], hand := [], good := [], deep := [], sched := [] }

theorem t_laws_szConstraint : TabOk Try.prog C_laws_szConstraint := by
  refine tabOk_of ?_
  simp only [C_laws_szConstraint, List.forall_mem_cons]
  exact ⟨k_laws_szTermS, fun p h => by cases h⟩

theorem k_laws_szConstraint : Entry Try.prog 157 c_laws_szConstraint := by
  refine entry_by (C := C_laws_szConstraint) mixed tys_ok t_laws_szConstraint (fn := Try.f157) (c := bd Try.f157) (by kernel_rfl) (by kernel_rfl) (by kernel_rfl) (by kernel_rfl) ?_
  intro args st k he
  unfold c_laws_szConstraint at he
  split at he
  rotate_left
  · exact he.elim
  rename_i a_0 a_1 left
  have he : Ok (laws_szConstraint (a_0, a_1) left) (fun r => k (.c (.int .i64 r)) []) := he
  refine ⟨rfl, rfl, ?_⟩
  obtain ⟨r1_, hr, he⟩ := ok_bind he
  refine ⟨r1_, hr, ?_⟩
  refine And.intro (fun hb => ?_) (fun hb => ?_)
  · have he := ok_t he hb
    have he := ok_some he
    exact ⟨rfl, _, _, (leads_ren [] (l := [(4, .c (.int .i64 (-1:Int)))]) (st' := []) rfl rfl trivial ⟨rfl, trivial⟩), he⟩
  · have he := ok_f he hb
    have he := ok_some he
    exact ⟨rfl, _, _, (leads_ren [] (l := [(4, .c (.int .i64 r1_))]) (st' := []) rfl rfl trivial ⟨rfl, trivial⟩), he⟩

noncomputable def c_laws_szStep : Con := fun args st => match args, st with
  | [.agg [.int .i64 a_0, .int .i64 a_1, .int .i64 a_2, .imm (.pair (.int .i64) (.int .i64)) a_3, .int .i64 a_4], .c (.int .i64 left)], [] => .opt (Int) (laws_szStep (a_0, (a_1, (a_2, (a_3, a_4)))) left) (fun r => .ret (.c (.int .i64 r)) [])
  | _, _ => .fail

noncomputable def C_laws_szStep : Cfg := { y := tys, n := 12, h := 0, tab := [(157, c_laws_szConstraint)], cut := [], hand := [], good := [], deep := [], sched := [] }

theorem t_laws_szStep : TabOk Try.prog C_laws_szStep := by
  refine tabOk_of ?_
  simp only [C_laws_szStep, List.forall_mem_cons]
  exact ⟨k_laws_szConstraint, fun p h => by cases h⟩

theorem k_laws_szStep : Entry Try.prog 60 c_laws_szStep := by
  refine entry_by (C := C_laws_szStep) mixed tys_ok t_laws_szStep (fn := Try.f60) (c := bd Try.f60) (by kernel_rfl) (by kernel_rfl) (by kernel_rfl) (by kernel_rfl) ?_
  intro args st k he
  unfold c_laws_szStep at he
  split at he
  rotate_left
  · exact he.elim
  rename_i a_0 a_1 a_2 a_3 a_4 left
  have he : Ok (laws_szStep (a_0, (a_1, (a_2, (a_3, a_4)))) left) (fun r => k (.c (.int .i64 r)) []) := he
  refine ⟨rfl, rfl, ?_⟩
  obtain ⟨r1_, hr, he⟩ := ok_bind he
  refine ⟨r1_, hr, ?_⟩
  refine And.intro (fun hb => ?_) (fun hb => ?_)
  · have he := ok_t he hb
    have he := ok_some he
    exact ⟨rfl, _, _, (leads_ren [] (l := [(4, .c (.int .i64 (-1:Int)))]) (st' := []) rfl rfl trivial ⟨rfl, trivial⟩), he⟩
  · have he := ok_f he hb
    have he := ok_some he
    exact ⟨rfl, _, _, (leads_ren [] (l := [(4, .c (.int .i64 r1_))]) (st' := []) rfl rfl trivial ⟨rfl, trivial⟩), he⟩

noncomputable def c_laws_szStepS : Con := fun args st => match args, st with
  | [.c (.imm (.pair (.int .i64) (.pair (.int .i64) (.pair (.int .i64) (.pair (.sl (.pair (.int .i64) (.int .i64))) (.int .i64))))) a), .c (.int .i64 left)], [] => .opt (Int) (laws_szStepS a left) (fun r => .ret (.c (.int .i64 r)) [])
  | _, _ => .fail

noncomputable def C_laws_szStepS : Cfg := { y := tys, n := 27, h := 0, tab := [(60, c_laws_szStep)], cut := [], hand := [], good := [], deep := [], sched := [] }

theorem t_laws_szStepS : TabOk Try.prog C_laws_szStepS := by
  refine tabOk_of ?_
  simp only [C_laws_szStepS, List.forall_mem_cons]
  exact ⟨k_laws_szStep, fun p h => by cases h⟩

theorem k_laws_szStepS : Entry Try.prog 188 c_laws_szStepS := by
  refine entry_by (C := C_laws_szStepS) mixed tys_ok t_laws_szStepS (fn := Try.f188) (c := bd Try.f188) (by kernel_rfl) (by kernel_rfl) (by kernel_rfl) (by kernel_rfl) ?_
  intro args st k he
  unfold c_laws_szStepS at he
  split at he
  rotate_left
  · exact he.elim
  rename_i a left
  have he : Ok (laws_szStepS a left) (fun r => k (.c (.int .i64 r)) []) := he
  refine ⟨rfl, rfl, ?_⟩
  have he := ok_rq he
  refine And.intro he.1 ?_
  have he := he.2
  refine And.intro (fun hb => ?_) (fun hb => ?_)
  · have he := ok_t he hb
    have he := ok_some he
    exact ⟨rfl, _, _, Leads.refl _ _, he⟩
  · have he := ok_f he hb
    refine loop_model mixed tys_ok t_laws_szStepS (S := Int × Int) (I := (fun (left1, i) => (envOf [(0, .c (.imm (.pair (.int .i64) (.pair (.int .i64) (.pair (.int .i64) (.pair (.sl (.pair (.int .i64) (.int .i64))) (.int .i64))))) a)), (1, .c (.int .i64 left1)), (5, .c (.int .i64 i))], []))) (f := laws_szStepS_l1 a) (K := (fun r => k (.c (.int .i64 r)) [])) he (leads_ren [] (l := [(0, .c (.imm (.pair (.int .i64) (.pair (.int .i64) (.pair (.int .i64) (.pair (.sl (.pair (.int .i64) (.int .i64))) (.int .i64))))) a)), (1, .c (.int .i64 (left - (a.length:Int)))), (5, .c (.int .i64 (0:Int)))]) (st' := []) rfl rfl trivial ⟨.inl rfl, rfl, rfl, trivial⟩) ?_
    rintro ⟨left1, i⟩ J1 he
    refine And.intro (fun hb => ?_) (fun hb => ?_)
    · have he := ok_t he hb
      have he := ok_rq he
      refine And.intro he.1 ?_
      have he := he.2
      obtain ⟨r1_, hr, he⟩ := ok_bind he
      refine ⟨r1_, hr, ?_⟩
      refine And.intro (fun hb => ?_) (fun hb => ?_)
      · have he := ok_t he hb
        have he := ok_some he
        exact ⟨rfl, _, _, Leads.refl _ _, he⟩
      · have he := ok_f he hb
        have he := ok_rq he
        refine And.intro he.1 ?_
        have he := he.2
        have he := ok_some he
        exact ⟨(r1_, (i + (1:Int))), he, (leads_ren [] (l := [(0, .c (.imm (.pair (.int .i64) (.pair (.int .i64) (.pair (.int .i64) (.pair (.sl (.pair (.int .i64) (.int .i64))) (.int .i64))))) a)), (1, .c (.int .i64 r1_)), (5, .c (.int .i64 (i + (1:Int))))]) (st' := []) rfl rfl trivial ⟨.inl rfl, rfl, rfl, trivial⟩)⟩
    · have he := ok_f he hb
      have he := ok_some he
      exact ⟨rfl, _, _, Leads.refl _ _, he⟩

noncomputable def c_laws_szStepSS : Con := fun args st => match args, st with
  | [.c (.imm (.sl (.pair (.int .i64) (.pair (.int .i64) (.pair (.int .i64) (.pair (.sl (.pair (.int .i64) (.int .i64))) (.int .i64)))))) a), .c (.int .i64 left)], [] => .opt (Int) (laws_szStepSS a left) (fun r => .ret (.c (.int .i64 r)) [])
  | _, _ => .fail

noncomputable def C_laws_szStepSS : Cfg := { y := tys, n := 27, h := 0, tab := [(188, c_laws_szStepS)], cut := [], hand := [], good := [], deep := [], sched := [] }

theorem t_laws_szStepSS : TabOk Try.prog C_laws_szStepSS := by
  refine tabOk_of ?_
  simp only [C_laws_szStepSS, List.forall_mem_cons]
  exact ⟨k_laws_szStepS, fun p h => by cases h⟩

theorem k_laws_szStepSS : Entry Try.prog 78 c_laws_szStepSS := by
  refine entry_by (C := C_laws_szStepSS) mixed tys_ok t_laws_szStepSS (fn := Try.f78) (c := bd Try.f78) (by kernel_rfl) (by kernel_rfl) (by kernel_rfl) (by kernel_rfl) ?_
  intro args st k he
  unfold c_laws_szStepSS at he
  split at he
  rotate_left
  · exact he.elim
  rename_i a left
  have he : Ok (laws_szStepSS a left) (fun r => k (.c (.int .i64 r)) []) := he
  refine ⟨rfl, rfl, ?_⟩
  have he := ok_rq he
  refine And.intro he.1 ?_
  have he := he.2
  refine And.intro (fun hb => ?_) (fun hb => ?_)
  · have he := ok_t he hb
    have he := ok_some he
    exact ⟨rfl, _, _, Leads.refl _ _, he⟩
  · have he := ok_f he hb
    refine loop_model mixed tys_ok t_laws_szStepSS (S := Int × Int) (I := (fun (left1, i) => (envOf [(0, .c (.imm (.sl (.pair (.int .i64) (.pair (.int .i64) (.pair (.int .i64) (.pair (.sl (.pair (.int .i64) (.int .i64))) (.int .i64)))))) a)), (1, .c (.int .i64 left1)), (5, .c (.int .i64 i))], []))) (f := laws_szStepSS_l1 a) (K := (fun r => k (.c (.int .i64 r)) [])) he (leads_ren [] (l := [(0, .c (.imm (.sl (.pair (.int .i64) (.pair (.int .i64) (.pair (.int .i64) (.pair (.sl (.pair (.int .i64) (.int .i64))) (.int .i64)))))) a)), (1, .c (.int .i64 (left - (a.length:Int)))), (5, .c (.int .i64 (0:Int)))]) (st' := []) rfl rfl trivial ⟨.inl rfl, rfl, rfl, trivial⟩) ?_
    rintro ⟨left1, i⟩ J1 he
    refine And.intro (fun hb => ?_) (fun hb => ?_)
    · have he := ok_t he hb
      have he := ok_rq he
      refine And.intro he.1 ?_
      have he := he.2
      obtain ⟨r1_, hr, he⟩ := ok_bind he
      refine ⟨r1_, hr, ?_⟩
      refine And.intro (fun hb => ?_) (fun hb => ?_)
      · have he := ok_t he hb
        have he := ok_some he
        exact ⟨rfl, _, _, Leads.refl _ _, he⟩
      · have he := ok_f he hb
        have he := ok_rq he
        refine And.intro he.1 ?_
        have he := he.2
        have he := ok_some he
        exact ⟨(r1_, (i + (1:Int))), he, (leads_ren [] (l := [(0, .c (.imm (.sl (.pair (.int .i64) (.pair (.int .i64) (.pair (.int .i64) (.pair (.sl (.pair (.int .i64) (.int .i64))) (.int .i64)))))) a)), (1, .c (.int .i64 r1_)), (5, .c (.int .i64 (i + (1:Int))))]) (st' := []) rfl rfl trivial ⟨.inl rfl, rfl, rfl, trivial⟩)⟩
    · have he := ok_f he hb
      have he := ok_some he
      exact ⟨rfl, _, _, Leads.refl _ _, he⟩

noncomputable def c_laws_toIntS : Con := fun args st => match args, st with
  | [.c (.imm (.int .i64) a)], [] => .opt ((List Int)) (laws_toIntS a) (fun r => .ret (.c (.own 900 false)) [(900, .sl 3 (.int .i64) r .shallow)])
  | _, _ => .fail

noncomputable def C_laws_toIntS : Cfg := { y := tys, n := 22, h := 0, tab := [], cut := [], hand := [], good := [], deep := [], sched := [] }

theorem t_laws_toIntS : TabOk Try.prog C_laws_toIntS := tabOk_of (fun p h => by cases h)

theorem k_laws_toIntS : Entry Try.prog 26 c_laws_toIntS := by
  refine entry_by (C := C_laws_toIntS) mixed tys_ok t_laws_toIntS (fn := Try.f26) (c := bd Try.f26) (by kernel_rfl) (by kernel_rfl) (by kernel_rfl) (by kernel_rfl) ?_
  intro args st k he
  unfold c_laws_toIntS at he
  split at he
  rotate_left
  · exact he.elim
  rename_i a
  have he : Ok (laws_toIntS a) (fun r => k (.c (.own 900 false)) [(900, .sl 3 (.int .i64) r .shallow)]) := he
  refine ⟨rfl, rfl, ?_⟩
  have he := ok_rq he
  refine And.intro he.1 ?_
  have he := he.2
  refine loop_model mixed tys_ok t_laws_toIntS (S := Int × (List Int)) (I := (fun (i, out) => (envOf [(0, .c (.imm (.int .i64) a)), (3, .c (.own 10000000 false)), (4, .c (.int .i64 i))], [(10000000, .sl 3 (.int .i64) out .shallow)]))) (f := laws_toIntS_l1 a) (K := (fun r => k (.c (.own 900 false)) [(900, .sl 3 (.int .i64) r .shallow)])) he (leads_ren [(10000000, 7)] (l := [(0, .c (.imm (.int .i64) a)), (3, .c (.own 10000000 false)), (4, .c (.int .i64 (0:Int)))]) (st' := [(10000000, .sl 3 (.int .i64) (List.replicate (a.length:Int).toNat 0) .shallow)]) rfl rfl ⟨⟨rfl, rfl⟩, trivial⟩ ⟨.inl rfl, ⟨⟨rfl, rfl⟩, trivial⟩, rfl, trivial⟩) ?_
  rintro ⟨i, out⟩ J1 he
  refine And.intro (fun hb => ?_) (fun hb => ?_)
  · have he := ok_t he hb
    have he := ok_rq he
    refine And.intro he.1 ?_
    have he := he.2
    have he := ok_rq he
    refine And.intro he.1 ?_
    have he := he.2
    have he := ok_rq he
    refine And.intro he.1 ?_
    have he := he.2
    have he := ok_some he
    exact ⟨((i + (1:Int)), (out.set i.toNat (a.getD i.toNat 0))), he, (leads_ren [] (l := [(0, .c (.imm (.int .i64) a)), (3, .c (.own 10000000 false)), (4, .c (.int .i64 (i + (1:Int))))]) (st' := [(10000000, .sl 3 (.int .i64) (out.set i.toNat (a.getD i.toNat 0)) .shallow)]) rfl rfl ⟨⟨rfl, rfl⟩, trivial⟩ ⟨.inl rfl, ⟨⟨rfl, rfl⟩, trivial⟩, rfl, trivial⟩)⟩
  · have he := ok_f he hb
    have he := ok_some he
    exact ⟨rfl, _, _, (leads_ren [(900, 10000000)] (l := [(2, .c (.own 900 false))]) (st' := [(900, .sl 3 (.int .i64) out .shallow)]) rfl rfl ⟨⟨rfl, rfl⟩, trivial⟩ ⟨⟨⟨rfl, rfl⟩, trivial⟩, trivial⟩), he⟩

noncomputable def c_laws_toTerm : Con := fun args st => match args, st with
  | [.agg [.int .i64 a_0, .int .i64 a_1]], [] => .opt ((Int × Int)) (laws_toTerm (a_0, a_1)) (fun r => .ret (.agg [.int .i64 r.1, .int .i64 r.2]) [(900, .rc [.int .i64 r.1, .int .i64 r.2])])
  | _, _ => .fail

noncomputable def C_laws_toTerm : Cfg := { y := tys, n := 11, h := 0, tab := [], cut := [], hand := [], good := [], deep := [], sched := [] }

theorem t_laws_toTerm : TabOk Try.prog C_laws_toTerm := tabOk_of (fun p h => by cases h)

theorem k_laws_toTerm : Entry Try.prog 268 c_laws_toTerm := by
  refine entry_by (C := C_laws_toTerm) mixed tys_ok t_laws_toTerm (fn := Try.f268) (c := bd Try.f268) (by kernel_rfl) (by kernel_rfl) (by kernel_rfl) (by kernel_rfl) ?_
  intro args st k he
  unfold c_laws_toTerm at he
  split at he
  rotate_left
  · exact he.elim
  rename_i a_0 a_1
  have he : Ok (laws_toTerm (a_0, a_1)) (fun r => k (.agg [.int .i64 r.1, .int .i64 r.2]) [(900, .rc [.int .i64 r.1, .int .i64 r.2])]) := he
  refine ⟨rfl, rfl, ?_⟩
  have he := ok_some he
  exact ⟨rfl, _, _, (leads_ren [(900, 2)] (l := [(2, .c (.ptr 900 0))]) (st' := [(900, .rc [.int .i64 (a_0, a_1).1, .int .i64 (a_0, a_1).2])]) rfl rfl ⟨⟨rfl, rfl, trivial⟩, trivial⟩ ⟨⟨⟨rfl, rfl⟩, rfl⟩, trivial⟩), he⟩

noncomputable def c_laws_toTermS : Con := fun args st => match args, st with
  | [.c (.imm (.pair (.int .i64) (.int .i64)) a)], [] => .opt ((List (Int × Int))) (laws_toTermS a) (fun r => .ret (.c (.own 900 false)) [(900, .sl 140 (.pair (.int .i64) (.int .i64)) r .shallow)])
  | _, _ => .fail

noncomputable def C_laws_toTermS : Cfg := { y := tys, n := 23, h := 0, tab := [(268, c_laws_toTerm)], cut := [], hand := [], good := [], deep := [], sched := [] }

theorem t_laws_toTermS : TabOk Try.prog C_laws_toTermS := by
  refine tabOk_of ?_
  simp only [C_laws_toTermS, List.forall_mem_cons]
  exact ⟨k_laws_toTerm, fun p h => by cases h⟩

theorem k_laws_toTermS : Entry Try.prog 231 c_laws_toTermS := by
  refine entry_by (C := C_laws_toTermS) mixed tys_ok t_laws_toTermS (fn := Try.f231) (c := bd Try.f231) (by kernel_rfl) (by kernel_rfl) (by kernel_rfl) (by kernel_rfl) ?_
  intro args st k he
  unfold c_laws_toTermS at he
  split at he
  rotate_left
  · exact he.elim
  rename_i a
  have he : Ok (laws_toTermS a) (fun r => k (.c (.own 900 false)) [(900, .sl 140 (.pair (.int .i64) (.int .i64)) r .shallow)]) := he
  refine ⟨rfl, rfl, ?_⟩
  have he := ok_rq he
  refine And.intro he.1 ?_
  have he := he.2
  refine loop_model mixed tys_ok t_laws_toTermS (S := Int × (List (Int × Int))) (I := (fun (i, out) => (envOf [(0, .c (.imm (.pair (.int .i64) (.int .i64)) a)), (3, .c (.own 10000000 false)), (4, .c (.int .i64 i))], [(10000000, .sl 140 (.pair (.int .i64) (.int .i64)) out .shallow)]))) (f := laws_toTermS_l1 a) (K := (fun r => k (.c (.own 900 false)) [(900, .sl 140 (.pair (.int .i64) (.int .i64)) r .shallow)])) he (leads_ren [(10000000, 7)] (l := [(0, .c (.imm (.pair (.int .i64) (.int .i64)) a)), (3, .c (.own 10000000 false)), (4, .c (.int .i64 (0:Int)))]) (st' := [(10000000, .sl 140 (.pair (.int .i64) (.int .i64)) (List.replicate (a.length:Int).toNat (0, 0)) .shallow)]) rfl rfl ⟨⟨rfl, rfl⟩, trivial⟩ ⟨.inl rfl, ⟨⟨rfl, rfl⟩, trivial⟩, rfl, trivial⟩) ?_
  rintro ⟨i, out⟩ J1 he
  refine And.intro (fun hb => ?_) (fun hb => ?_)
  · have he := ok_t he hb
    have he := ok_rq he
    refine And.intro he.1 ?_
    have he := he.2
    obtain ⟨r2_, hr, he⟩ := ok_bind he
    refine ⟨r2_, hr, ?_⟩
    have he := ok_rq he
    refine And.intro he.1 ?_
    have he := he.2
    have he := ok_rq he
    refine And.intro he.1 ?_
    have he := he.2
    have he := ok_some he
    exact ⟨((i + (1:Int)), (out.set i.toNat r2_)), he, (leads_ren [] (l := [(0, .c (.imm (.pair (.int .i64) (.int .i64)) a)), (3, .c (.own 10000000 false)), (4, .c (.int .i64 (i + (1:Int))))]) (st' := [(10000000, .sl 140 (.pair (.int .i64) (.int .i64)) (out.set i.toNat r2_) .shallow)]) rfl rfl ⟨⟨rfl, rfl⟩, trivial⟩ ⟨.inl rfl, ⟨⟨rfl, rfl⟩, trivial⟩, rfl, trivial⟩)⟩
  · have he := ok_f he hb
    have he := ok_some he
    exact ⟨rfl, _, _, (leads_ren [(900, 10000000)] (l := [(2, .c (.own 900 false))]) (st' := [(900, .sl 140 (.pair (.int .i64) (.int .i64)) out .shallow)]) rfl rfl ⟨⟨rfl, rfl⟩, trivial⟩ ⟨⟨⟨rfl, rfl⟩, trivial⟩, trivial⟩), he⟩

noncomputable def c_laws_toConstraint : Con := fun args st => match args, st with
  | [.agg [.imm (.pair (.int .i64) (.int .i64)) a_0, .int .i64 a_1]], [] => .opt (Int × (List (Int × Int))) (laws_toConstraint (a_0, a_1)) (fun r => .ret (.agg [.own 901 false, .int .i64 r.1]) [(900, .rc [.own 901 false, .int .i64 r.1]), (901, .sl 140 (.pair (.int .i64) (.int .i64)) r.2 .shallow)])
  | _, _ => .fail

noncomputable def C_laws_toConstraint : Cfg := { y := tys, n := 12, h := 0, tab := [(231, c_laws_toTermS)], cut := [], hand := [], good := [], deep := [], sched := [] }

theorem t_laws_toConstraint : TabOk Try.prog C_laws_toConstraint := by
  refine tabOk_of ?_
  simp only [C_laws_toConstraint, List.forall_mem_cons]
  exact ⟨k_laws_toTermS, fun p h => by cases h⟩

theorem k_laws_toConstraint : Entry Try.prog 160 c_laws_toConstraint := by
  refine entry_by (C := C_laws_toConstraint) mixed tys_ok t_laws_toConstraint (fn := Try.f160) (c := bd Try.f160) (by kernel_rfl) (by kernel_rfl) (by kernel_rfl) (by kernel_rfl) ?_
  intro args st k he
  unfold c_laws_toConstraint at he
  split at he
  rotate_left
  · exact he.elim
  rename_i a_0 a_1
  have he : Ok (laws_toConstraint (a_0, a_1)) (fun r => k (.agg [.own 901 false, .int .i64 r.1]) [(900, .rc [.own 901 false, .int .i64 r.1]), (901, .sl 140 (.pair (.int .i64) (.int .i64)) r.2 .shallow)]) := he
  refine ⟨rfl, rfl, ?_⟩
  obtain ⟨r1_, hr, he⟩ := ok_bind he
  refine ⟨r1_, hr, ?_⟩
  have he := ok_some he
  exact ⟨rfl, _, _, (leads_ren [(900, 2), (901, 7900)] (l := [(2, .c (.ptr 900 0))]) (st' := [(900, .rc [.own 901 false, .int .i64 (a_0, a_1).2]), (901, .sl 140 (.pair (.int .i64) (.int .i64)) r1_ .shallow)]) rfl rfl ⟨⟨⟨⟨rfl, rfl⟩, trivial⟩, rfl, trivial⟩, ⟨rfl, rfl⟩, trivial⟩ ⟨⟨⟨rfl, rfl⟩, rfl⟩, trivial⟩), he⟩

noncomputable def c_laws_toStep : Con := fun args st => match args, st with
  | [.agg [.int .i64 a_0, .int .i64 a_1, .int .i64 a_2, .imm (.pair (.int .i64) (.int .i64)) a_3, .int .i64 a_4]], [] => .opt (Int × Int × Int × Int × (List (Int × Int))) (laws_toStep (a_0, (a_1, (a_2, (a_3, a_4))))) (fun r => .ret (.agg [.int .i64 r.1, .int .i64 r.2.1, .int .i64 r.2.2.1, .own 901 false, .int .i64 r.2.2.2.1]) [(900, .rc [.int .i64 r.1, .int .i64 r.2.1, .int .i64 r.2.2.1, .own 901 false, .int .i64 r.2.2.2.1]), (901, .sl 140 (.pair (.int .i64) (.int .i64)) r.2.2.2.2 .shallow)])
  | _, _ => .fail

noncomputable def C_laws_toStep : Cfg := { y := tys, n := 18, h := 0, tab := [(160, c_laws_toConstraint)], cut := [], hand := [], good := [], deep := [], sched := [] }

theorem t_laws_toStep : TabOk Try.prog C_laws_toStep := by
  refine tabOk_of ?_
  simp only [C_laws_toStep, List.forall_mem_cons]
  exact ⟨k_laws_toConstraint, fun p h => by cases h⟩

theorem k_laws_toStep : Entry Try.prog 62 c_laws_toStep := by
  refine entry_by (C := C_laws_toStep) mixed tys_ok t_laws_toStep (fn := Try.f62) (c := bd Try.f62) (by kernel_rfl) (by kernel_rfl) (by kernel_rfl) (by kernel_rfl) ?_
  intro args st k he
  unfold c_laws_toStep at he
  split at he
  rotate_left
  · exact he.elim
  rename_i a_0 a_1 a_2 a_3 a_4
  have he : Ok (laws_toStep (a_0, (a_1, (a_2, (a_3, a_4))))) (fun r => k (.agg [.int .i64 r.1, .int .i64 r.2.1, .int .i64 r.2.2.1, .own 901 false, .int .i64 r.2.2.2.1]) [(900, .rc [.int .i64 r.1, .int .i64 r.2.1, .int .i64 r.2.2.1, .own 901 false, .int .i64 r.2.2.2.1]), (901, .sl 140 (.pair (.int .i64) (.int .i64)) r.2.2.2.2 .shallow)]) := he
  refine ⟨rfl, rfl, ?_⟩
  obtain ⟨r1_, hr, he⟩ := ok_bind he
  refine ⟨r1_, hr, ?_⟩
  have he := ok_some he
  exact ⟨rfl, _, _, (leads_ren [(900, 2), (901, 16901)] (l := [(2, .c (.ptr 900 0))]) (st' := [(900, .rc [.int .i64 (a_0, (a_1, (a_2, (a_3, a_4)))).1, .int .i64 (a_0, (a_1, (a_2, (a_3, a_4)))).2.1, .int .i64 (a_0, (a_1, (a_2, (a_3, a_4)))).2.2.1, .own 901 false, .int .i64 r1_.1]), (901, .sl 140 (.pair (.int .i64) (.int .i64)) r1_.2 .shallow)]) rfl rfl ⟨⟨rfl, rfl, rfl, ⟨⟨rfl, rfl⟩, trivial⟩, rfl, trivial⟩, ⟨rfl, rfl⟩, trivial⟩ ⟨⟨⟨rfl, rfl⟩, rfl⟩, trivial⟩), he⟩

noncomputable def c_laws_toStepS : Con := fun args st => match args, st with
  | [.c (.imm (.pair (.int .i64) (.pair (.int .i64) (.pair (.int .i64) (.pair (.sl (.pair (.int .i64) (.int .i64))) (.int .i64))))) a)], [] => .opt ((List (Int × Int × Int × (List (Int × Int)) × Int))) (laws_toStepS a) (fun r => .ret (.c (.own 900 false)) [(900, .sl 86 (.pair (.int .i64) (.pair (.int .i64) (.pair (.int .i64) (.pair (.sl (.pair (.int .i64) (.int .i64))) (.int .i64))))) r (.deep true .no))])
  | _, _ => .fail

noncomputable def C_laws_toStepS : Cfg := { y := tys, n := 23, h := 0, tab := [(62, c_laws_toStep)], cut := [], hand := [], good := [], deep := [7], sched := [] }

theorem t_laws_toStepS : TabOk Try.prog C_laws_toStepS := by
  refine tabOk_of ?_
  simp only [C_laws_toStepS, List.forall_mem_cons]
  exact ⟨k_laws_toStep, fun p h => by cases h⟩

theorem k_laws_toStepS : Entry Try.prog 192 c_laws_toStepS := by
  refine entry_by (C := C_laws_toStepS) mixed tys_ok t_laws_toStepS (fn := Try.f192) (c := bd Try.f192) (by kernel_rfl) (by kernel_rfl) (by kernel_rfl) (by kernel_rfl) ?_
  intro args st k he
  unfold c_laws_toStepS at he
  split at he
  rotate_left
  · exact he.elim
  rename_i a
  have he : Ok (laws_toStepS a) (fun r => k (.c (.own 900 false)) [(900, .sl 86 (.pair (.int .i64) (.pair (.int .i64) (.pair (.int .i64) (.pair (.sl (.pair (.int .i64) (.int .i64))) (.int .i64))))) r (.deep true .no))]) := he
  refine ⟨rfl, rfl, ?_⟩
  have he := ok_rq he
  refine And.intro he.1 ?_
  have he := he.2
  refine loop_model mixed tys_ok t_laws_toStepS (S := Int × (List (Int × Int × Int × (List (Int × Int)) × Int))) (I := (fun (i, out) => (envOf [(0, .c (.imm (.pair (.int .i64) (.pair (.int .i64) (.pair (.int .i64) (.pair (.sl (.pair (.int .i64) (.int .i64))) (.int .i64))))) a)), (3, .c (.own 10000000 false)), (4, .c (.int .i64 i))], [(10000000, .sl 86 (.pair (.int .i64) (.pair (.int .i64) (.pair (.int .i64) (.pair (.sl (.pair (.int .i64) (.int .i64))) (.int .i64))))) out (.deep true .no))]))) (f := laws_toStepS_l1 a) (K := (fun r => k (.c (.own 900 false)) [(900, .sl 86 (.pair (.int .i64) (.pair (.int .i64) (.pair (.int .i64) (.pair (.sl (.pair (.int .i64) (.int .i64))) (.int .i64))))) r (.deep true .no))])) he (leads_ren [(10000000, 7)] (l := [(0, .c (.imm (.pair (.int .i64) (.pair (.int .i64) (.pair (.int .i64) (.pair (.sl (.pair (.int .i64) (.int .i64))) (.int .i64))))) a)), (3, .c (.own 10000000 false)), (4, .c (.int .i64 (0:Int)))]) (st' := [(10000000, .sl 86 (.pair (.int .i64) (.pair (.int .i64) (.pair (.int .i64) (.pair (.sl (.pair (.int .i64) (.int .i64))) (.int .i64))))) (List.replicate (a.length:Int).toNat (0, (0, (0, ([], 0))))) (.deep true .no))]) rfl rfl ⟨⟨rfl, rfl⟩, trivial⟩ ⟨.inl rfl, ⟨⟨rfl, rfl⟩, trivial⟩, rfl, trivial⟩) ?_
  rintro ⟨i, out⟩ J1 he
  refine And.intro (fun hb => ?_) (fun hb => ?_)
  · have he := ok_t he hb
    have he := ok_rq he
    refine And.intro he.1 ?_
    have he := he.2
    obtain ⟨r2_, hr, he⟩ := ok_bind he
    refine ⟨r2_, hr, ?_⟩
    have he := ok_rq he
    refine And.intro he.1 ?_
    have he := he.2
    have he := ok_rq he
    refine And.intro he.1 ?_
    have he := he.2
    have he := ok_some he
    exact ⟨((i + (1:Int)), (out.set i.toNat (r2_.1, (r2_.2.1, (r2_.2.2.1, (r2_.2.2.2.2, r2_.2.2.2.1)))))), he, (leads_ren [] (l := [(0, .c (.imm (.pair (.int .i64) (.pair (.int .i64) (.pair (.int .i64) (.pair (.sl (.pair (.int .i64) (.int .i64))) (.int .i64))))) a)), (3, .c (.own 10000000 false)), (4, .c (.int .i64 (i + (1:Int))))]) (st' := [(10000000, .sl 86 (.pair (.int .i64) (.pair (.int .i64) (.pair (.int .i64) (.pair (.sl (.pair (.int .i64) (.int .i64))) (.int .i64))))) (out.set i.toNat (r2_.1, (r2_.2.1, (r2_.2.2.1, (r2_.2.2.2.2, r2_.2.2.2.1))))) (.deep true .no))]) rfl rfl ⟨⟨rfl, rfl⟩, trivial⟩ ⟨.inl rfl, ⟨⟨rfl, rfl⟩, trivial⟩, rfl, trivial⟩)⟩
  · have he := ok_f he hb
    have he := ok_some he
    exact ⟨rfl, _, _, (leads_ren [(900, 10000000)] (l := [(2, .c (.own 900 false))]) (st' := [(900, .sl 86 (.pair (.int .i64) (.pair (.int .i64) (.pair (.int .i64) (.pair (.sl (.pair (.int .i64) (.int .i64))) (.int .i64))))) out (.deep true .no))]) rfl rfl ⟨⟨rfl, rfl⟩, trivial⟩ ⟨⟨⟨rfl, rfl⟩, trivial⟩, trivial⟩), he⟩

noncomputable def c_laws_toStepSS : Con := fun args st => match args, st with
  | [.c (.imm (.sl (.pair (.int .i64) (.pair (.int .i64) (.pair (.int .i64) (.pair (.sl (.pair (.int .i64) (.int .i64))) (.int .i64)))))) a)], [] => .opt ((List (List (Int × Int × Int × (List (Int × Int)) × Int)))) (laws_toStepSS a) (fun r => .ret (.c (.own 900 false)) [(900, .sl 98 (.sl (.pair (.int .i64) (.pair (.int .i64) (.pair (.int .i64) (.pair (.sl (.pair (.int .i64) (.int .i64))) (.int .i64)))))) r (.deep true .no))])
  | _, _ => .fail

noncomputable def C_laws_toStepSS : Cfg := { y := tys, n := 23, h := 0, tab := [(192, c_laws_toStepS)], cut := [], hand := [], good := [], deep := [7], sched := [] }

theorem t_laws_toStepSS : TabOk Try.prog C_laws_toStepSS := by
  refine tabOk_of ?_
  simp only [C_laws_toStepSS, List.forall_mem_cons]
  exact ⟨k_laws_toStepS, fun p h => by cases h⟩

theorem k_laws_toStepSS : Entry Try.prog 80 c_laws_toStepSS := by
  refine entry_by (C := C_laws_toStepSS) mixed tys_ok t_laws_toStepSS (fn := Try.f80) (c := bd Try.f80) (by kernel_rfl) (by kernel_rfl) (by kernel_rfl) (by kernel_rfl) ?_
  intro args st k he
  unfold c_laws_toStepSS at he
  split at he
  rotate_left
  · exact he.elim
  rename_i a
  have he : Ok (laws_toStepSS a) (fun r => k (.c (.own 900 false)) [(900, .sl 98 (.sl (.pair (.int .i64) (.pair (.int .i64) (.pair (.int .i64) (.pair (.sl (.pair (.int .i64) (.int .i64))) (.int .i64)))))) r (.deep true .no))]) := he
  refine ⟨rfl, rfl, ?_⟩
  have he := ok_rq he
  refine And.intro he.1 ?_
  have he := he.2
  refine loop_model mixed tys_ok t_laws_toStepSS (S := Int × (List (List (Int × Int × Int × (List (Int × Int)) × Int)))) (I := (fun (i, out) => (envOf [(0, .c (.imm (.sl (.pair (.int .i64) (.pair (.int .i64) (.pair (.int .i64) (.pair (.sl (.pair (.int .i64) (.int .i64))) (.int .i64)))))) a)), (3, .c (.own 10000000 false)), (4, .c (.int .i64 i))], [(10000000, .sl 98 (.sl (.pair (.int .i64) (.pair (.int .i64) (.pair (.int .i64) (.pair (.sl (.pair (.int .i64) (.int .i64))) (.int .i64)))))) out (.deep true .no))]))) (f := laws_toStepSS_l1 a) (K := (fun r => k (.c (.own 900 false)) [(900, .sl 98 (.sl (.pair (.int .i64) (.pair (.int .i64) (.pair (.int .i64) (.pair (.sl (.pair (.int .i64) (.int .i64))) (.int .i64)))))) r (.deep true .no))])) he (leads_ren [(10000000, 7)] (l := [(0, .c (.imm (.sl (.pair (.int .i64) (.pair (.int .i64) (.pair (.int .i64) (.pair (.sl (.pair (.int .i64) (.int .i64))) (.int .i64)))))) a)), (3, .c (.own 10000000 false)), (4, .c (.int .i64 (0:Int)))]) (st' := [(10000000, .sl 98 (.sl (.pair (.int .i64) (.pair (.int .i64) (.pair (.int .i64) (.pair (.sl (.pair (.int .i64) (.int .i64))) (.int .i64)))))) (List.replicate (a.length:Int).toNat []) (.deep true .no))]) rfl rfl ⟨⟨rfl, rfl⟩, trivial⟩ ⟨.inl rfl, ⟨⟨rfl, rfl⟩, trivial⟩, rfl, trivial⟩) ?_
  rintro ⟨i, out⟩ J1 he
  refine And.intro (fun hb => ?_) (fun hb => ?_)
  · have he := ok_t he hb
    have he := ok_rq he
    refine And.intro he.1 ?_
    have he := he.2
    obtain ⟨r2_, hr, he⟩ := ok_bind he
    refine ⟨r2_, hr, ?_⟩
    have he := ok_rq he
    refine And.intro he.1 ?_
    have he := he.2
    have he := ok_rq he
    refine And.intro he.1 ?_
    have he := he.2
    have he := ok_some he
    exact ⟨((i + (1:Int)), (out.set i.toNat r2_)), he, (leads_ren [] (l := [(0, .c (.imm (.sl (.pair (.int .i64) (.pair (.int .i64) (.pair (.int .i64) (.pair (.sl (.pair (.int .i64) (.int .i64))) (.int .i64)))))) a)), (3, .c (.own 10000000 false)), (4, .c (.int .i64 (i + (1:Int))))]) (st' := [(10000000, .sl 98 (.sl (.pair (.int .i64) (.pair (.int .i64) (.pair (.int .i64) (.pair (.sl (.pair (.int .i64) (.int .i64))) (.int .i64)))))) (out.set i.toNat r2_) (.deep true .no))]) rfl rfl ⟨⟨rfl, rfl⟩, trivial⟩ ⟨.inl rfl, ⟨⟨rfl, rfl⟩, trivial⟩, rfl, trivial⟩)⟩
  · have he := ok_f he hb
    have he := ok_some he
    exact ⟨rfl, _, _, (leads_ren [(900, 10000000)] (l := [(2, .c (.own 900 false))]) (st' := [(900, .sl 98 (.sl (.pair (.int .i64) (.pair (.int .i64) (.pair (.int .i64) (.pair (.sl (.pair (.int .i64) (.int .i64))) (.int .i64)))))) out (.deep true .no))]) rfl rfl ⟨⟨rfl, rfl⟩, trivial⟩ ⟨⟨⟨rfl, rfl⟩, trivial⟩, trivial⟩), he⟩

noncomputable def c_spec_l12Vars : Con := fun args st => match args, st with
  | [.c (.imm (.int .i64) vars)], [] => .opt (Bool) (spec_l12Vars vars) (fun r => .ret (.c (.bool r)) [])
  | _, _ => .fail

noncomputable def C_spec_l12Vars : Cfg := { y := tys, n := 41, h := 0, tab := [], cut := [], hand := [], good := [], deep := [], sched := [] }

theorem t_spec_l12Vars : TabOk Try.prog C_spec_l12Vars := tabOk_of (fun p h => by cases h)

theorem k_spec_l12Vars : Entry Try.prog 189 c_spec_l12Vars := by
  refine entry_by (C := C_spec_l12Vars) mixed tys_ok t_spec_l12Vars (fn := Try.f189) (c := bd Try.f189) (by kernel_rfl) (by kernel_rfl) (by kernel_rfl) (by kernel_rfl) ?_
  intro args st k he
  unfold c_spec_l12Vars at he
  split at he
  rotate_left
  · exact he.elim
  rename_i vars
  have he : Ok (spec_l12Vars vars) (fun r => k (.c (.bool r)) []) := he
  refine ⟨rfl, rfl, ?_⟩
  refine loop_model mixed tys_ok t_spec_l12Vars (S := Int) (I := (fun i => (envOf [(0, .c (.imm (.int .i64) vars)), (3, .c (.int .i64 i))], []))) (f := spec_l12Vars_l1 vars) (K := (fun r => k (.c (.bool r)) [])) he (leads_ren [] (l := [(0, .c (.imm (.int .i64) vars)), (3, .c (.int .i64 (0:Int)))]) (st' := []) rfl rfl trivial ⟨.inl rfl, rfl, trivial⟩) ?_
  rintro i J1 he
  refine And.intro (fun hb => ?_) (fun hb => ?_)
  · have he := ok_t he hb
    refine And.intro (by kernel_rfl) ?_
    have he := ok_rq he
    refine And.intro he.1 ?_
    have he := he.2
    refine And.intro (fun hb => ?_) (fun hb => ?_)
    · have he := ok_f he hb
      have he := ok_rq he
      refine And.intro he.1 ?_
      have he := he.2
      refine And.intro (fun hb => ?_) (fun hb => ?_)
      · have he := ok_f he hb
        refine And.intro (fun hb => ?_) (fun hb => ?_)
        · have he := ok_t he hb
          have he := ok_rq he
          refine And.intro he.1 ?_
          have he := he.2
          have he := ok_rq he
          refine And.intro he.1 ?_
          have he := he.2
          have he := ok_rq he
          refine And.intro he.1 ?_
          have he := he.2
          refine And.intro (fun hb => ?_) (fun hb => ?_)
          · have he := ok_t he hb
            have he := ok_some he
            exact ⟨rfl, _, _, Leads.refl _ _, he⟩
          · have he := ok_f he hb
            have he := ok_rq he
            refine And.intro he.1 ?_
            have he := he.2
            have he := ok_some he
            exact ⟨(i + (1:Int)), he, (leads_ren [] (l := [(0, .c (.imm (.int .i64) vars)), (3, .c (.int .i64 (i + (1:Int))))]) (st' := []) rfl rfl trivial ⟨.inl rfl, rfl, trivial⟩)⟩
        · have he := ok_f he hb
          have he := ok_rq he
          refine And.intro he.1 ?_
          have he := he.2
          have he := ok_some he
          exact ⟨(i + (1:Int)), he, (leads_ren [] (l := [(0, .c (.imm (.int .i64) vars)), (3, .c (.int .i64 (i + (1:Int))))]) (st' := []) rfl rfl trivial ⟨.inl rfl, rfl, trivial⟩)⟩
      · have he := ok_t he hb
        have he := ok_some he
        exact ⟨rfl, _, _, Leads.refl _ _, he⟩
    · have he := ok_t he hb
      have he := ok_some he
      exact ⟨rfl, _, _, Leads.refl _ _, he⟩
  · have he := ok_f he hb
    have he := ok_some he
    exact ⟨rfl, _, _, Leads.refl _ _, he⟩

noncomputable def c_spec_l12Cubes : Con := fun args st => match args, st with
  | [.c (.imm (.int .i64) vars)], [] => .opt ((List (List Int))) (spec_l12Cubes vars) (fun r => .ret (.c (.own 900 false)) [(900, .sl 23 (.sl (.int .i64)) r (.deep true .no))])
  | _, _ => .fail

noncomputable def C_spec_l12Cubes : Cfg := { y := tys, n := 55, h := 0, tab := [], cut := [10], hand := [], good := [], deep := [8, 15, 35, 51], sched := [(9, (.first 0 (.first 2 (.first 3 (.first 4 (.first 7 (.first 8 (.first 9 (.first 10 (.alt 1 (.alt 5 (.alt 6 (.alt 11 (.alt 12 (.alt 13 (.alt 14 (.first 15 .done) .stop) .stop) .stop) .stop) (.alt 11 (.alt 6 (.alt 12 (.alt 13 (.alt 14 (.first 15 .done) .stop) .stop) .stop) .stop) .stop)) (.alt 11 (.alt 5 (.alt 6 (.alt 12 (.alt 13 (.alt 14 (.first 15 .done) .stop) .stop) .stop) .stop) .stop) .stop)) (.alt 5 (.alt 1 (.alt 6 (.alt 11 (.alt 12 (.alt 13 (.alt 14 (.first 15 .done) .stop) .stop) .stop) .stop) (.alt 11 (.alt 6 (.alt 12 (.alt 13 (.alt 14 (.first 15 .done) .stop) .stop) .stop) .stop) .stop)) (.alt 11 (.alt 1 (.alt 6 (.alt 12 (.alt 13 (.alt 14 (.first 15 .done) .stop) .stop) .stop) .stop) .stop) .stop)) (.alt 11 (.alt 1 (.alt 5 (.alt 6 (.alt 12 (.alt 13 (.alt 14 (.first 15 .done) .stop) .stop) .stop) .stop) .stop) (.alt 5 (.alt 1 (.alt 6 (.alt 12 (.alt 13 (.alt 14 (.first 15 .done) .stop) .stop) .stop) .stop) .stop) .stop)) .stop)))))))))))), (10, (.first 0 (.first 2 (.first 3 (.first 4 (.first 7 (.first 8 (.first 9 (.first 10 (.first 11 (.alt 1 (.alt 5 (.alt 6 (.alt 12 (.alt 13 (.alt 14 (.alt 15 (.first 16 .done) .stop) .stop) .stop) .stop) (.alt 12 (.alt 6 (.alt 13 (.alt 14 (.alt 15 (.first 16 .done) .stop) .stop) .stop) .stop) .stop)) (.alt 12 (.alt 5 (.alt 6 (.alt 13 (.alt 14 (.alt 15 (.first 16 .done) .stop) .stop) .stop) .stop) .stop) .stop)) (.alt 5 (.alt 1 (.alt 6 (.alt 12 (.alt 13 (.alt 14 (.alt 15 (.first 16 .done) .stop) .stop) .stop) .stop) (.alt 12 (.alt 6 (.alt 13 (.alt 14 (.alt 15 (.first 16 .done) .stop) .stop) .stop) .stop) .stop)) (.alt 12 (.alt 1 (.alt 6 (.alt 13 (.alt 14 (.alt 15 (.first 16 .done) .stop) .stop) .stop) .stop) .stop) .stop)) (.alt 12 (.alt 1 (.alt 5 (.alt 6 (.alt 13 (.alt 14 (.alt 15 (.first 16 .done) .stop) .stop) .stop) .stop) .stop) (.alt 5 (.alt 1 (.alt 6 (.alt 13 (.alt 14 (.alt 15 (.first 16 .done) .stop) .stop) .stop) .stop) .stop) .stop)) .stop)))))))))))))] }

theorem t_spec_l12Cubes : TabOk Try.prog C_spec_l12Cubes := tabOk_of (fun p h => by cases h)

theorem k_spec_l12Cubes : Entry Try.prog 190 c_spec_l12Cubes := by
  refine entry_by (C := C_spec_l12Cubes) mixed tys_ok t_spec_l12Cubes (fn := Try.f190) (c := bd Try.f190) (by kernel_rfl) (by kernel_rfl) (by kernel_rfl) (by kernel_rfl) ?_
  intro args st k he
  unfold c_spec_l12Cubes at he
  split at he
  rotate_left
  · exact he.elim
  rename_i vars
  have he : Ok (spec_l12Cubes vars) (fun r => k (.c (.own 900 false)) [(900, .sl 23 (.sl (.int .i64)) r (.deep true .no))]) := he
  refine ⟨rfl, rfl, ?_⟩
  refine loop_model mixed tys_ok t_spec_l12Cubes (S := Int × (List (List Int))) (I := (fun (i, out1) => (envOf [(0, .c (.imm (.int .i64) vars)), (3, .c (.own 10000000 false)), (4, .c (.int .i64 i))], [(10000000, .sl 23 (.sl (.int .i64)) out1 (.deep true .no))]))) (f := spec_l12Cubes_l1 vars) (K := (fun r => k (.c (.own 900 false)) [(900, .sl 23 (.sl (.int .i64)) r (.deep true .no))])) he (leads_ren [(10000000, 8)] (l := [(0, .c (.imm (.int .i64) vars)), (3, .c (.own 10000000 false)), (4, .c (.int .i64 (0:Int)))]) (st' := [(10000000, .sl 23 (.sl (.int .i64)) [([] : List Int)] (.deep true .no))]) rfl rfl ⟨⟨rfl, rfl⟩, trivial⟩ ⟨.inl rfl, ⟨⟨rfl, rfl⟩, trivial⟩, rfl, trivial⟩) ?_
  rintro ⟨i, out1⟩ J1 he
  refine And.intro (fun hb => ?_) (fun hb => ?_)
  · have he := ok_t he hb
    refine loop_model mixed tys_ok t_spec_l12Cubes (S := Int × (List (List Int)) × (List (List Int))) (I := (fun (k_1, out2, next1) => (envOf [(0, .c (.imm (.int .i64) vars)), (3, .c (.own 10004000 false)), (4, .c (.int .i64 i)), (5, .c (.own 10004001 false)), (6, .c (.int .i64 k_1))], [(10004000, .sl 23 (.sl (.int .i64)) out2 (.deep true .no)), (10004001, .sl 23 (.sl (.int .i64)) next1 (.deep true .no))]))) (f := spec_l12Cubes_l2 vars i) (K := (LK J1 (fun r => k (.c (.own 900 false)) [(900, .sl 23 (.sl (.int .i64)) r (.deep true .no))]))) he (leads_ren [(10004000, 10000000), (10004001, 15)] (l := [(0, .c (.imm (.int .i64) vars)), (3, .c (.own 10004000 false)), (4, .c (.int .i64 i)), (5, .c (.own 10004001 false)), (6, .c (.int .i64 (0:Int)))]) (st' := [(10004000, .sl 23 (.sl (.int .i64)) out1 (.deep true .no)), (10004001, .sl 23 (.sl (.int .i64)) ([] : List (List Int)) (.deep true .no))]) rfl rfl ⟨⟨rfl, rfl⟩, ⟨rfl, rfl⟩, trivial⟩ ⟨.inl rfl, ⟨⟨rfl, rfl⟩, trivial⟩, rfl, ⟨⟨rfl, rfl⟩, trivial⟩, rfl, trivial⟩) ?_
    rintro ⟨k_1, out2, next1⟩ J2 he
    refine And.intro (fun hb => ?_) (fun hb => ?_)
    · have he := ok_t he hb
      refine seq_model mixed tys_ok t_spec_l12Cubes (S := Unit) (I := (fun _ => (envOf [(0, .c (.imm (.int .i64) vars)), (3, .c (.own 10006000 false)), (4, .c (.int .i64 i)), (5, .c (.own 10006001 false)), (6, .c (.int .i64 k_1))], [(10006000, .sl 23 (.sl (.int .i64)) (out2.set k_1.toNat (out2.getD k_1.toNat [])) (.deep true .no)), (10006001, .sl 23 (.sl (.int .i64)) (next1 ++ [((([] : List Int) ++ (out2.getD k_1.toNat [])) ++ [(vars.getD i.toNat 0)])]) (.deep true .no))]))) (B := fun s => Ok (spec_l12Cubes_j1 vars i k_1 out2 next1 s) (LK J2 (LK J1 (fun r => k (.c (.own 900 false)) [(900, .sl 23 (.sl (.int .i64)) r (.deep true .no))])))) ?_ ?_
      · rintro ⟨⟩ he
        refine And.intro (by kernel_rfl) ?_
        have he := ok_rq he
        refine And.intro he.1 ?_
        have he := he.2
        have he := ok_rq he
        refine And.intro he.1 ?_
        have he := he.2
        have he := ok_rq he
        refine And.intro he.1 ?_
        have he := he.2
        have he := ok_rq he
        have hq1 := he.1
        have he := he.2
        have he := ok_rq he
        have hq2 := he.1
        have he := he.2
        have he := ok_rq he
        have hq3 := he.1
        have he := he.2
        refine And.intro ?_ (And.intro ?_ (And.intro ?_ (trivial)))
        · skip
          refine And.intro ?_ (And.intro ?_ (trivial))
          · skip
            refine And.intro ?_ (And.intro ?_ (trivial))
            · skip
              refine And.intro hq1 ?_
              refine And.intro ?_ trivial
              refine And.intro ?_ trivial
              refine And.intro hq2 ?_
              refine And.intro ?_ trivial
              refine And.intro ?_ trivial
              refine And.intro hq3 ?_
              have he := ok_rq he
              refine And.intro he.1 ?_
              have he := he.2
              have he := ok_some he
              exact ⟨((k_1 + (1:Int)), ((out2.set k_1.toNat (out2.getD k_1.toNat [])).set k_1.toNat ((out2.set k_1.toNat (out2.getD k_1.toNat [])).getD k_1.toNat [])), ((next1 ++ [((([] : List Int) ++ (out2.getD k_1.toNat [])) ++ [(vars.getD i.toNat 0)])]) ++ [((([] : List Int) ++ ((out2.set k_1.toNat (out2.getD k_1.toNat [])).getD k_1.toNat [])) ++ [(0 - (vars.getD i.toNat 0))])])), he, ((leads_close [10006000] rfl).trans (leads_ren [(10004000, 10006000), (10004001, 52)] (l := [(0, .c (.imm (.int .i64) vars)), (3, .c (.own 10004000 false)), (4, .c (.int .i64 i)), (5, .c (.own 10004001 false)), (6, .c (.int .i64 (k_1 + (1:Int))))]) (st' := [(10004000, .sl 23 (.sl (.int .i64)) ((out2.set k_1.toNat (out2.getD k_1.toNat [])).set k_1.toNat ((out2.set k_1.toNat (out2.getD k_1.toNat [])).getD k_1.toNat [])) (.deep true .no)), (10004001, .sl 23 (.sl (.int .i64)) ((next1 ++ [((([] : List Int) ++ (out2.getD k_1.toNat [])) ++ [(vars.getD i.toNat 0)])]) ++ [((([] : List Int) ++ ((out2.set k_1.toNat (out2.getD k_1.toNat [])).getD k_1.toNat [])) ++ [(0 - (vars.getD i.toNat 0))])]) (.deep true .no))]) rfl rfl (by exact ⟨⟨rfl, rfl⟩, ⟨rfl, rfl⟩, trivial⟩) (by exact ⟨.inl rfl, ⟨⟨rfl, rfl⟩, trivial⟩, rfl, ⟨⟨rfl, rfl⟩, trivial⟩, rfl, trivial⟩)))⟩
            · skip
              refine And.intro ?_ trivial
              refine And.intro hq1 ?_
              refine And.intro ?_ trivial
              refine And.intro hq2 ?_
              refine And.intro ?_ trivial
              refine And.intro ?_ trivial
              refine And.intro hq3 ?_
              have he := ok_rq he
              refine And.intro he.1 ?_
              have he := he.2
              have he := ok_some he
              exact ⟨((k_1 + (1:Int)), ((out2.set k_1.toNat (out2.getD k_1.toNat [])).set k_1.toNat ((out2.set k_1.toNat (out2.getD k_1.toNat [])).getD k_1.toNat [])), ((next1 ++ [((([] : List Int) ++ (out2.getD k_1.toNat [])) ++ [(vars.getD i.toNat 0)])]) ++ [((([] : List Int) ++ ((out2.set k_1.toNat (out2.getD k_1.toNat [])).getD k_1.toNat [])) ++ [(0 - (vars.getD i.toNat 0))])])), he, ((leads_close [10006000] rfl).trans (leads_ren [(10004000, 10006000), (10004001, 52)] (l := [(0, .c (.imm (.int .i64) vars)), (3, .c (.own 10004000 false)), (4, .c (.int .i64 i)), (5, .c (.own 10004001 false)), (6, .c (.int .i64 (k_1 + (1:Int))))]) (st' := [(10004000, .sl 23 (.sl (.int .i64)) ((out2.set k_1.toNat (out2.getD k_1.toNat [])).set k_1.toNat ((out2.set k_1.toNat (out2.getD k_1.toNat [])).getD k_1.toNat [])) (.deep true .no)), (10004001, .sl 23 (.sl (.int .i64)) ((next1 ++ [((([] : List Int) ++ (out2.getD k_1.toNat [])) ++ [(vars.getD i.toNat 0)])]) ++ [((([] : List Int) ++ ((out2.set k_1.toNat (out2.getD k_1.toNat [])).getD k_1.toNat [])) ++ [(0 - (vars.getD i.toNat 0))])]) (.deep true .no))]) rfl rfl (by exact ⟨⟨rfl, rfl⟩, ⟨rfl, rfl⟩, trivial⟩) (by exact ⟨.inl rfl, ⟨⟨rfl, rfl⟩, trivial⟩, rfl, ⟨⟨rfl, rfl⟩, trivial⟩, rfl, trivial⟩)))⟩
          · skip
            refine And.intro ?_ trivial
            refine And.intro ?_ trivial
            refine And.intro hq1 ?_
            refine And.intro ?_ trivial
            refine And.intro hq2 ?_
            refine And.intro ?_ trivial
            refine And.intro ?_ trivial
            refine And.intro hq3 ?_
            have he := ok_rq he
            refine And.intro he.1 ?_
            have he := he.2
            have he := ok_some he
            exact ⟨((k_1 + (1:Int)), ((out2.set k_1.toNat (out2.getD k_1.toNat [])).set k_1.toNat ((out2.set k_1.toNat (out2.getD k_1.toNat [])).getD k_1.toNat [])), ((next1 ++ [((([] : List Int) ++ (out2.getD k_1.toNat [])) ++ [(vars.getD i.toNat 0)])]) ++ [((([] : List Int) ++ ((out2.set k_1.toNat (out2.getD k_1.toNat [])).getD k_1.toNat [])) ++ [(0 - (vars.getD i.toNat 0))])])), he, ((leads_close [10006000] rfl).trans (leads_ren [(10004000, 10006000), (10004001, 52)] (l := [(0, .c (.imm (.int .i64) vars)), (3, .c (.own 10004000 false)), (4, .c (.int .i64 i)), (5, .c (.own 10004001 false)), (6, .c (.int .i64 (k_1 + (1:Int))))]) (st' := [(10004000, .sl 23 (.sl (.int .i64)) ((out2.set k_1.toNat (out2.getD k_1.toNat [])).set k_1.toNat ((out2.set k_1.toNat (out2.getD k_1.toNat [])).getD k_1.toNat [])) (.deep true .no)), (10004001, .sl 23 (.sl (.int .i64)) ((next1 ++ [((([] : List Int) ++ (out2.getD k_1.toNat [])) ++ [(vars.getD i.toNat 0)])]) ++ [((([] : List Int) ++ ((out2.set k_1.toNat (out2.getD k_1.toNat [])).getD k_1.toNat [])) ++ [(0 - (vars.getD i.toNat 0))])]) (.deep true .no))]) rfl rfl (by exact ⟨⟨rfl, rfl⟩, ⟨rfl, rfl⟩, trivial⟩) (by exact ⟨.inl rfl, ⟨⟨rfl, rfl⟩, trivial⟩, rfl, ⟨⟨rfl, rfl⟩, trivial⟩, rfl, trivial⟩)))⟩
        · skip
          refine And.intro ?_ (And.intro ?_ (trivial))
          · skip
            refine And.intro ?_ (And.intro ?_ (trivial))
            · skip
              refine And.intro hq1 ?_
              refine And.intro ?_ trivial
              refine And.intro ?_ trivial
              refine And.intro hq2 ?_
              refine And.intro ?_ trivial
              refine And.intro ?_ trivial
              refine And.intro hq3 ?_
              have he := ok_rq he
              refine And.intro he.1 ?_
              have he := he.2
              have he := ok_some he
              exact ⟨((k_1 + (1:Int)), ((out2.set k_1.toNat (out2.getD k_1.toNat [])).set k_1.toNat ((out2.set k_1.toNat (out2.getD k_1.toNat [])).getD k_1.toNat [])), ((next1 ++ [((([] : List Int) ++ (out2.getD k_1.toNat [])) ++ [(vars.getD i.toNat 0)])]) ++ [((([] : List Int) ++ ((out2.set k_1.toNat (out2.getD k_1.toNat [])).getD k_1.toNat [])) ++ [(0 - (vars.getD i.toNat 0))])])), he, ((leads_close [10006000] rfl).trans (leads_ren [(10004000, 10006000), (10004001, 52)] (l := [(0, .c (.imm (.int .i64) vars)), (3, .c (.own 10004000 false)), (4, .c (.int .i64 i)), (5, .c (.own 10004001 false)), (6, .c (.int .i64 (k_1 + (1:Int))))]) (st' := [(10004000, .sl 23 (.sl (.int .i64)) ((out2.set k_1.toNat (out2.getD k_1.toNat [])).set k_1.toNat ((out2.set k_1.toNat (out2.getD k_1.toNat [])).getD k_1.toNat [])) (.deep true .no)), (10004001, .sl 23 (.sl (.int .i64)) ((next1 ++ [((([] : List Int) ++ (out2.getD k_1.toNat [])) ++ [(vars.getD i.toNat 0)])]) ++ [((([] : List Int) ++ ((out2.set k_1.toNat (out2.getD k_1.toNat [])).getD k_1.toNat [])) ++ [(0 - (vars.getD i.toNat 0))])]) (.deep true .no))]) rfl rfl (by exact ⟨⟨rfl, rfl⟩, ⟨rfl, rfl⟩, trivial⟩) (by exact ⟨.inl rfl, ⟨⟨rfl, rfl⟩, trivial⟩, rfl, ⟨⟨rfl, rfl⟩, trivial⟩, rfl, trivial⟩)))⟩
            · skip
              refine And.intro ?_ trivial
              refine And.intro hq1 ?_
              refine And.intro ?_ trivial
              refine And.intro hq2 ?_
              refine And.intro ?_ trivial
              refine And.intro ?_ trivial
              refine And.intro hq3 ?_
              have he := ok_rq he
              refine And.intro he.1 ?_
              have he := he.2
              have he := ok_some he
              exact ⟨((k_1 + (1:Int)), ((out2.set k_1.toNat (out2.getD k_1.toNat [])).set k_1.toNat ((out2.set k_1.toNat (out2.getD k_1.toNat [])).getD k_1.toNat [])), ((next1 ++ [((([] : List Int) ++ (out2.getD k_1.toNat [])) ++ [(vars.getD i.toNat 0)])]) ++ [((([] : List Int) ++ ((out2.set k_1.toNat (out2.getD k_1.toNat [])).getD k_1.toNat [])) ++ [(0 - (vars.getD i.toNat 0))])])), he, ((leads_close [10006000] rfl).trans (leads_ren [(10004000, 10006000), (10004001, 52)] (l := [(0, .c (.imm (.int .i64) vars)), (3, .c (.own 10004000 false)), (4, .c (.int .i64 i)), (5, .c (.own 10004001 false)), (6, .c (.int .i64 (k_1 + (1:Int))))]) (st' := [(10004000, .sl 23 (.sl (.int .i64)) ((out2.set k_1.toNat (out2.getD k_1.toNat [])).set k_1.toNat ((out2.set k_1.toNat (out2.getD k_1.toNat [])).getD k_1.toNat [])) (.deep true .no)), (10004001, .sl 23 (.sl (.int .i64)) ((next1 ++ [((([] : List Int) ++ (out2.getD k_1.toNat [])) ++ [(vars.getD i.toNat 0)])]) ++ [((([] : List Int) ++ ((out2.set k_1.toNat (out2.getD k_1.toNat [])).getD k_1.toNat [])) ++ [(0 - (vars.getD i.toNat 0))])]) (.deep true .no))]) rfl rfl (by exact ⟨⟨rfl, rfl⟩, ⟨rfl, rfl⟩, trivial⟩) (by exact ⟨.inl rfl, ⟨⟨rfl, rfl⟩, trivial⟩, rfl, ⟨⟨rfl, rfl⟩, trivial⟩, rfl, trivial⟩)))⟩
          · skip
            refine And.intro ?_ trivial
            refine And.intro ?_ trivial
            refine And.intro hq1 ?_
            refine And.intro ?_ trivial
            refine And.intro hq2 ?_
            refine And.intro ?_ trivial
            refine And.intro ?_ trivial
            refine And.intro hq3 ?_
            have he := ok_rq he
            refine And.intro he.1 ?_
            have he := he.2
            have he := ok_some he
            exact ⟨((k_1 + (1:Int)), ((out2.set k_1.toNat (out2.getD k_1.toNat [])).set k_1.toNat ((out2.set k_1.toNat (out2.getD k_1.toNat [])).getD k_1.toNat [])), ((next1 ++ [((([] : List Int) ++ (out2.getD k_1.toNat [])) ++ [(vars.getD i.toNat 0)])]) ++ [((([] : List Int) ++ ((out2.set k_1.toNat (out2.getD k_1.toNat [])).getD k_1.toNat [])) ++ [(0 - (vars.getD i.toNat 0))])])), he, ((leads_close [10006000] rfl).trans (leads_ren [(10004000, 10006000), (10004001, 52)] (l := [(0, .c (.imm (.int .i64) vars)), (3, .c (.own 10004000 false)), (4, .c (.int .i64 i)), (5, .c (.own 10004001 false)), (6, .c (.int .i64 (k_1 + (1:Int))))]) (st' := [(10004000, .sl 23 (.sl (.int .i64)) ((out2.set k_1.toNat (out2.getD k_1.toNat [])).set k_1.toNat ((out2.set k_1.toNat (out2.getD k_1.toNat [])).getD k_1.toNat [])) (.deep true .no)), (10004001, .sl 23 (.sl (.int .i64)) ((next1 ++ [((([] : List Int) ++ (out2.getD k_1.toNat [])) ++ [(vars.getD i.toNat 0)])]) ++ [((([] : List Int) ++ ((out2.set k_1.toNat (out2.getD k_1.toNat [])).getD k_1.toNat [])) ++ [(0 - (vars.getD i.toNat 0))])]) (.deep true .no))]) rfl rfl (by exact ⟨⟨rfl, rfl⟩, ⟨rfl, rfl⟩, trivial⟩) (by exact ⟨.inl rfl, ⟨⟨rfl, rfl⟩, trivial⟩, rfl, ⟨⟨rfl, rfl⟩, trivial⟩, rfl, trivial⟩)))⟩
        · skip
          refine And.intro ?_ (And.intro ?_ (trivial))
          · skip
            refine And.intro ?_ trivial
            refine And.intro ?_ trivial
            refine And.intro hq1 ?_
            refine And.intro ?_ trivial
            refine And.intro hq2 ?_
            refine And.intro ?_ trivial
            refine And.intro ?_ trivial
            refine And.intro hq3 ?_
            have he := ok_rq he
            refine And.intro he.1 ?_
            have he := he.2
            have he := ok_some he
            exact ⟨((k_1 + (1:Int)), ((out2.set k_1.toNat (out2.getD k_1.toNat [])).set k_1.toNat ((out2.set k_1.toNat (out2.getD k_1.toNat [])).getD k_1.toNat [])), ((next1 ++ [((([] : List Int) ++ (out2.getD k_1.toNat [])) ++ [(vars.getD i.toNat 0)])]) ++ [((([] : List Int) ++ ((out2.set k_1.toNat (out2.getD k_1.toNat [])).getD k_1.toNat [])) ++ [(0 - (vars.getD i.toNat 0))])])), he, ((leads_close [10006000] rfl).trans (leads_ren [(10004000, 10006000), (10004001, 52)] (l := [(0, .c (.imm (.int .i64) vars)), (3, .c (.own 10004000 false)), (4, .c (.int .i64 i)), (5, .c (.own 10004001 false)), (6, .c (.int .i64 (k_1 + (1:Int))))]) (st' := [(10004000, .sl 23 (.sl (.int .i64)) ((out2.set k_1.toNat (out2.getD k_1.toNat [])).set k_1.toNat ((out2.set k_1.toNat (out2.getD k_1.toNat [])).getD k_1.toNat [])) (.deep true .no)), (10004001, .sl 23 (.sl (.int .i64)) ((next1 ++ [((([] : List Int) ++ (out2.getD k_1.toNat [])) ++ [(vars.getD i.toNat 0)])]) ++ [((([] : List Int) ++ ((out2.set k_1.toNat (out2.getD k_1.toNat [])).getD k_1.toNat [])) ++ [(0 - (vars.getD i.toNat 0))])]) (.deep true .no))]) rfl rfl (by exact ⟨⟨rfl, rfl⟩, ⟨rfl, rfl⟩, trivial⟩) (by exact ⟨.inl rfl, ⟨⟨rfl, rfl⟩, trivial⟩, rfl, ⟨⟨rfl, rfl⟩, trivial⟩, rfl, trivial⟩)))⟩
          · skip
            refine And.intro ?_ trivial
            refine And.intro ?_ trivial
            refine And.intro hq1 ?_
            refine And.intro ?_ trivial
            refine And.intro hq2 ?_
            refine And.intro ?_ trivial
            refine And.intro ?_ trivial
            refine And.intro hq3 ?_
            have he := ok_rq he
            refine And.intro he.1 ?_
            have he := he.2
            have he := ok_some he
            exact ⟨((k_1 + (1:Int)), ((out2.set k_1.toNat (out2.getD k_1.toNat [])).set k_1.toNat ((out2.set k_1.toNat (out2.getD k_1.toNat [])).getD k_1.toNat [])), ((next1 ++ [((([] : List Int) ++ (out2.getD k_1.toNat [])) ++ [(vars.getD i.toNat 0)])]) ++ [((([] : List Int) ++ ((out2.set k_1.toNat (out2.getD k_1.toNat [])).getD k_1.toNat [])) ++ [(0 - (vars.getD i.toNat 0))])])), he, ((leads_close [10006000] rfl).trans (leads_ren [(10004000, 10006000), (10004001, 52)] (l := [(0, .c (.imm (.int .i64) vars)), (3, .c (.own 10004000 false)), (4, .c (.int .i64 i)), (5, .c (.own 10004001 false)), (6, .c (.int .i64 (k_1 + (1:Int))))]) (st' := [(10004000, .sl 23 (.sl (.int .i64)) ((out2.set k_1.toNat (out2.getD k_1.toNat [])).set k_1.toNat ((out2.set k_1.toNat (out2.getD k_1.toNat [])).getD k_1.toNat [])) (.deep true .no)), (10004001, .sl 23 (.sl (.int .i64)) ((next1 ++ [((([] : List Int) ++ (out2.getD k_1.toNat [])) ++ [(vars.getD i.toNat 0)])]) ++ [((([] : List Int) ++ ((out2.set k_1.toNat (out2.getD k_1.toNat [])).getD k_1.toNat [])) ++ [(0 - (vars.getD i.toNat 0))])]) (.deep true .no))]) rfl rfl (by exact ⟨⟨rfl, rfl⟩, ⟨rfl, rfl⟩, trivial⟩) (by exact ⟨.inl rfl, ⟨⟨rfl, rfl⟩, trivial⟩, rfl, ⟨⟨rfl, rfl⟩, trivial⟩, rfl, trivial⟩)))⟩
      · skip
        refine And.intro (by kernel_rfl) ?_
        have he := ok_rq he
        refine And.intro he.1 ?_
        have he := he.2
        have he := ok_rq he
        refine And.intro he.1 ?_
        have he := he.2
        have he := ok_rq he
        have hq1 := he.1
        have he := he.2
        have he := ok_rq he
        have hq2 := he.1
        have he := he.2
        have he := ok_rq he
        have hq3 := he.1
        have he := he.2
        refine And.intro ?_ (And.intro ?_ (And.intro ?_ (trivial)))
        · skip
          refine And.intro ?_ (And.intro ?_ (trivial))
          · skip
            refine And.intro ?_ (And.intro ?_ (trivial))
            · skip
              refine And.intro hq1 ?_
              refine And.intro ?_ trivial
              refine And.intro ?_ trivial
              refine And.intro hq2 ?_
              refine And.intro ?_ trivial
              refine And.intro ?_ trivial
              refine And.intro hq3 ?_
              exact ⟨(), he, ((leads_close [10004000] rfl).trans (leads_ren [(10006000, 10004000), (10006001, 36)] (l := [(0, .c (.imm (.int .i64) vars)), (3, .c (.own 10006000 false)), (4, .c (.int .i64 i)), (5, .c (.own 10006001 false)), (6, .c (.int .i64 k_1))]) (st' := [(10006000, .sl 23 (.sl (.int .i64)) (out2.set k_1.toNat (out2.getD k_1.toNat [])) (.deep true .no)), (10006001, .sl 23 (.sl (.int .i64)) (next1 ++ [((([] : List Int) ++ (out2.getD k_1.toNat [])) ++ [(vars.getD i.toNat 0)])]) (.deep true .no))]) rfl rfl (by exact ⟨⟨rfl, rfl⟩, ⟨rfl, rfl⟩, trivial⟩) (by exact ⟨.inl rfl, ⟨⟨rfl, rfl⟩, trivial⟩, rfl, ⟨⟨rfl, rfl⟩, trivial⟩, rfl, trivial⟩)))⟩
            · skip
              refine And.intro ?_ trivial
              refine And.intro hq1 ?_
              refine And.intro ?_ trivial
              refine And.intro hq2 ?_
              refine And.intro ?_ trivial
              refine And.intro ?_ trivial
              refine And.intro hq3 ?_
              exact ⟨(), he, ((leads_close [10004000] rfl).trans (leads_ren [(10006000, 10004000), (10006001, 36)] (l := [(0, .c (.imm (.int .i64) vars)), (3, .c (.own 10006000 false)), (4, .c (.int .i64 i)), (5, .c (.own 10006001 false)), (6, .c (.int .i64 k_1))]) (st' := [(10006000, .sl 23 (.sl (.int .i64)) (out2.set k_1.toNat (out2.getD k_1.toNat [])) (.deep true .no)), (10006001, .sl 23 (.sl (.int .i64)) (next1 ++ [((([] : List Int) ++ (out2.getD k_1.toNat [])) ++ [(vars.getD i.toNat 0)])]) (.deep true .no))]) rfl rfl (by exact ⟨⟨rfl, rfl⟩, ⟨rfl, rfl⟩, trivial⟩) (by exact ⟨.inl rfl, ⟨⟨rfl, rfl⟩, trivial⟩, rfl, ⟨⟨rfl, rfl⟩, trivial⟩, rfl, trivial⟩)))⟩
          · skip
            refine And.intro ?_ trivial
            refine And.intro ?_ trivial
            refine And.intro hq1 ?_
            refine And.intro ?_ trivial
            refine And.intro hq2 ?_
            refine And.intro ?_ trivial
            refine And.intro ?_ trivial
            refine And.intro hq3 ?_
            exact ⟨(), he, ((leads_close [10004000] rfl).trans (leads_ren [(10006000, 10004000), (10006001, 36)] (l := [(0, .c (.imm (.int .i64) vars)), (3, .c (.own 10006000 false)), (4, .c (.int .i64 i)), (5, .c (.own 10006001 false)), (6, .c (.int .i64 k_1))]) (st' := [(10006000, .sl 23 (.sl (.int .i64)) (out2.set k_1.toNat (out2.getD k_1.toNat [])) (.deep true .no)), (10006001, .sl 23 (.sl (.int .i64)) (next1 ++ [((([] : List Int) ++ (out2.getD k_1.toNat [])) ++ [(vars.getD i.toNat 0)])]) (.deep true .no))]) rfl rfl (by exact ⟨⟨rfl, rfl⟩, ⟨rfl, rfl⟩, trivial⟩) (by exact ⟨.inl rfl, ⟨⟨rfl, rfl⟩, trivial⟩, rfl, ⟨⟨rfl, rfl⟩, trivial⟩, rfl, trivial⟩)))⟩
        · skip
          refine And.intro ?_ (And.intro ?_ (trivial))
          · skip
            refine And.intro ?_ (And.intro ?_ (trivial))
            · skip
              refine And.intro hq1 ?_
              refine And.intro ?_ trivial
              refine And.intro ?_ trivial
              refine And.intro hq2 ?_
              refine And.intro ?_ trivial
              refine And.intro ?_ trivial
              refine And.intro hq3 ?_
              exact ⟨(), he, ((leads_close [10004000] rfl).trans (leads_ren [(10006000, 10004000), (10006001, 36)] (l := [(0, .c (.imm (.int .i64) vars)), (3, .c (.own 10006000 false)), (4, .c (.int .i64 i)), (5, .c (.own 10006001 false)), (6, .c (.int .i64 k_1))]) (st' := [(10006000, .sl 23 (.sl (.int .i64)) (out2.set k_1.toNat (out2.getD k_1.toNat [])) (.deep true .no)), (10006001, .sl 23 (.sl (.int .i64)) (next1 ++ [((([] : List Int) ++ (out2.getD k_1.toNat [])) ++ [(vars.getD i.toNat 0)])]) (.deep true .no))]) rfl rfl (by exact ⟨⟨rfl, rfl⟩, ⟨rfl, rfl⟩, trivial⟩) (by exact ⟨.inl rfl, ⟨⟨rfl, rfl⟩, trivial⟩, rfl, ⟨⟨rfl, rfl⟩, trivial⟩, rfl, trivial⟩)))⟩
            · skip
              refine And.intro ?_ trivial
              refine And.intro hq1 ?_
              refine And.intro ?_ trivial
              refine And.intro hq2 ?_
              refine And.intro ?_ trivial
              refine And.intro ?_ trivial
              refine And.intro hq3 ?_
              exact ⟨(), he, ((leads_close [10004000] rfl).trans (leads_ren [(10006000, 10004000), (10006001, 36)] (l := [(0, .c (.imm (.int .i64) vars)), (3, .c (.own 10006000 false)), (4, .c (.int .i64 i)), (5, .c (.own 10006001 false)), (6, .c (.int .i64 k_1))]) (st' := [(10006000, .sl 23 (.sl (.int .i64)) (out2.set k_1.toNat (out2.getD k_1.toNat [])) (.deep true .no)), (10006001, .sl 23 (.sl (.int .i64)) (next1 ++ [((([] : List Int) ++ (out2.getD k_1.toNat [])) ++ [(vars.getD i.toNat 0)])]) (.deep true .no))]) rfl rfl (by exact ⟨⟨rfl, rfl⟩, ⟨rfl, rfl⟩, trivial⟩) (by exact ⟨.inl rfl, ⟨⟨rfl, rfl⟩, trivial⟩, rfl, ⟨⟨rfl, rfl⟩, trivial⟩, rfl, trivial⟩)))⟩
          · skip
            refine And.intro ?_ trivial
            refine And.intro ?_ trivial
            refine And.intro hq1 ?_
            refine And.intro ?_ trivial
            refine And.intro hq2 ?_
            refine And.intro ?_ trivial
            refine And.intro ?_ trivial
            refine And.intro hq3 ?_
            exact ⟨(), he, ((leads_close [10004000] rfl).trans (leads_ren [(10006000, 10004000), (10006001, 36)] (l := [(0, .c (.imm (.int .i64) vars)), (3, .c (.own 10006000 false)), (4, .c (.int .i64 i)), (5, .c (.own 10006001 false)), (6, .c (.int .i64 k_1))]) (st' := [(10006000, .sl 23 (.sl (.int .i64)) (out2.set k_1.toNat (out2.getD k_1.toNat [])) (.deep true .no)), (10006001, .sl 23 (.sl (.int .i64)) (next1 ++ [((([] : List Int) ++ (out2.getD k_1.toNat [])) ++ [(vars.getD i.toNat 0)])]) (.deep true .no))]) rfl rfl (by exact ⟨⟨rfl, rfl⟩, ⟨rfl, rfl⟩, trivial⟩) (by exact ⟨.inl rfl, ⟨⟨rfl, rfl⟩, trivial⟩, rfl, ⟨⟨rfl, rfl⟩, trivial⟩, rfl, trivial⟩)))⟩
        · skip
          refine And.intro ?_ (And.intro ?_ (trivial))
          · skip
            refine And.intro ?_ trivial
            refine And.intro ?_ trivial
            refine And.intro hq1 ?_
            refine And.intro ?_ trivial
            refine And.intro hq2 ?_
            refine And.intro ?_ trivial
            refine And.intro ?_ trivial
            refine And.intro hq3 ?_
            exact ⟨(), he, ((leads_close [10004000] rfl).trans (leads_ren [(10006000, 10004000), (10006001, 36)] (l := [(0, .c (.imm (.int .i64) vars)), (3, .c (.own 10006000 false)), (4, .c (.int .i64 i)), (5, .c (.own 10006001 false)), (6, .c (.int .i64 k_1))]) (st' := [(10006000, .sl 23 (.sl (.int .i64)) (out2.set k_1.toNat (out2.getD k_1.toNat [])) (.deep true .no)), (10006001, .sl 23 (.sl (.int .i64)) (next1 ++ [((([] : List Int) ++ (out2.getD k_1.toNat [])) ++ [(vars.getD i.toNat 0)])]) (.deep true .no))]) rfl rfl (by exact ⟨⟨rfl, rfl⟩, ⟨rfl, rfl⟩, trivial⟩) (by exact ⟨.inl rfl, ⟨⟨rfl, rfl⟩, trivial⟩, rfl, ⟨⟨rfl, rfl⟩, trivial⟩, rfl, trivial⟩)))⟩
          · skip
            refine And.intro ?_ trivial
            refine And.intro ?_ trivial
            refine And.intro hq1 ?_
            refine And.intro ?_ trivial
            refine And.intro hq2 ?_
            refine And.intro ?_ trivial
            refine And.intro ?_ trivial
            refine And.intro hq3 ?_
            exact ⟨(), he, ((leads_close [10004000] rfl).trans (leads_ren [(10006000, 10004000), (10006001, 36)] (l := [(0, .c (.imm (.int .i64) vars)), (3, .c (.own 10006000 false)), (4, .c (.int .i64 i)), (5, .c (.own 10006001 false)), (6, .c (.int .i64 k_1))]) (st' := [(10006000, .sl 23 (.sl (.int .i64)) (out2.set k_1.toNat (out2.getD k_1.toNat [])) (.deep true .no)), (10006001, .sl 23 (.sl (.int .i64)) (next1 ++ [((([] : List Int) ++ (out2.getD k_1.toNat [])) ++ [(vars.getD i.toNat 0)])]) (.deep true .no))]) rfl rfl (by exact ⟨⟨rfl, rfl⟩, ⟨rfl, rfl⟩, trivial⟩) (by exact ⟨.inl rfl, ⟨⟨rfl, rfl⟩, trivial⟩, rfl, ⟨⟨rfl, rfl⟩, trivial⟩, rfl, trivial⟩)))⟩
    · have he := ok_f he hb
      have he := ok_rq he
      refine And.intro he.1 ?_
      have he := he.2
      have he := ok_some he
      exact ⟨((i + (1:Int)), next1), he, (leads_ren [(10000000, 10004001)] (l := [(0, .c (.imm (.int .i64) vars)), (3, .c (.own 10000000 false)), (4, .c (.int .i64 (i + (1:Int))))]) (st' := [(10000000, .sl 23 (.sl (.int .i64)) next1 (.deep true .no))]) rfl rfl ⟨⟨rfl, rfl⟩, trivial⟩ ⟨.inl rfl, ⟨⟨rfl, rfl⟩, trivial⟩, rfl, trivial⟩)⟩
  · have he := ok_f he hb
    have he := ok_some he
    exact ⟨rfl, _, _, (leads_ren [(900, 10000000)] (l := [(2, .c (.own 900 false))]) (st' := [(900, .sl 23 (.sl (.int .i64)) out1 (.deep true .no))]) rfl rfl ⟨⟨rfl, rfl⟩, trivial⟩ ⟨⟨⟨rfl, rfl⟩, trivial⟩, trivial⟩), he⟩

noncomputable def c_spec_l1Lit : Con := fun args st => match args, st with
  | [.c (.int .i64 n)], [] => .opt (Bool) (spec_l1Lit n) (fun r => .ret (.c (.bool r)) [])
  | _, _ => .fail

noncomputable def C_spec_l1Lit : Cfg := { y := tys, n := 13, h := 0, tab := [], cut := [], hand := [], good := [], deep := [], sched := [] }

theorem t_spec_l1Lit : TabOk Try.prog C_spec_l1Lit := tabOk_of (fun p h => by cases h)

theorem k_spec_l1Lit : Entry Try.prog 229 c_spec_l1Lit := by
  refine entry_by (C := C_spec_l1Lit) mixed tys_ok t_spec_l1Lit (fn := Try.f229) (c := bd Try.f229) (by kernel_rfl) (by kernel_rfl) (by kernel_rfl) (by kernel_rfl) ?_
  intro args st k he
  unfold c_spec_l1Lit at he
  split at he
  rotate_left
  · exact he.elim
  rename_i n
  have he : Ok (spec_l1Lit n) (fun r => k (.c (.bool r)) []) := he
  refine ⟨rfl, rfl, ?_⟩
  refine And.intro (fun hb => ?_) (fun hb => ?_)
  · have he := ok_t he hb
    refine And.intro (fun hb => ?_) (fun hb => ?_)
    · have he := ok_t he hb
      have he := ok_some he
      exact ⟨rfl, _, _, Leads.refl _ _, he⟩
    · have he := ok_f he hb
      have he := ok_some he
      exact ⟨rfl, _, _, Leads.refl _ _, he⟩
  · have he := ok_f he hb
    have he := ok_some he
    exact ⟨rfl, _, _, Leads.refl _ _, he⟩

noncomputable def c_spec_l1Abs : Con := fun args st => match args, st with
  | [.c (.int .i64 n)], [] => .opt (Int) (spec_l1Abs n) (fun r => .ret (.c (.int .i64 r)) [])
  | _, _ => .fail

noncomputable def C_spec_l1Abs : Cfg := { y := tys, n := 8, h := 0, tab := [], cut := [], hand := [], good := [], deep := [], sched := [] }

theorem t_spec_l1Abs : TabOk Try.prog C_spec_l1Abs := tabOk_of (fun p h => by cases h)

theorem k_spec_l1Abs : Entry Try.prog 171 c_spec_l1Abs := by
  refine entry_by (C := C_spec_l1Abs) mixed tys_ok t_spec_l1Abs (fn := Try.f171) (c := bd Try.f171) (by kernel_rfl) (by kernel_rfl) (by kernel_rfl) (by kernel_rfl) ?_
  intro args st k he
  unfold c_spec_l1Abs at he
  split at he
  rotate_left
  · exact he.elim
  rename_i n
  have he : Ok (spec_l1Abs n) (fun r => k (.c (.int .i64 r)) []) := he
  refine ⟨rfl, rfl, ?_⟩
  refine And.intro (fun hb => ?_) (fun hb => ?_)
  · have he := ok_t he hb
    have he := ok_rq he
    refine And.intro he.1 ?_
    have he := he.2
    have he := ok_some he
    exact ⟨rfl, _, _, Leads.refl _ _, he⟩
  · have he := ok_f he hb
    have he := ok_some he
    exact ⟨rfl, _, _, Leads.refl _ _, he⟩

noncomputable def c_spec_ConstraintValid : Con := fun args st => match args, st with
  | [.agg [.imm (.pair (.int .i64) (.int .i64)) c__0, .int .i64 c__1]], [] => .opt (Bool) (spec_ConstraintValid (c__0, c__1)) (fun r => .ret (.c (.bool r)) [])
  | _, _ => .fail

noncomputable def C_spec_ConstraintValid : Cfg := { y := tys, n := 57, h := 0, tab := [(171, c_spec_l1Abs), (229, c_spec_l1Lit)], cut := [], hand := [], good := [], deep := [], sched := [(5, (.first 0 (.alt 1 (.alt 2 (.first 3 (.first 4 (.first 5 (.alt 6 (.first 7 (.first 8 (.first 9 (.first 10 (.alt 11 (.first 12 (.first 13 (.first 14 (.first 15 (.first 16 (.first 17 (.first 18 (.first 20 (.first 21 (.first 26 (.alt 19 (.first 22 (.first 23 (.first 24 (.alt 25 (.alt 27 (.alt 28 (.first 29 (.first 30 (.first 31 .done))) .stop) .stop) (.alt 27 (.alt 25 (.alt 28 (.first 29 (.first 30 (.first 31 .done))) .stop) .stop) .stop))))) (.alt 27 (.alt 19 (.first 22 (.first 23 (.first 24 (.alt 25 (.alt 28 (.first 29 (.first 30 (.first 31 .done))) .stop) .stop)))) .stop) .stop)))))))))))) .stop))))) .stop)))) .stop) .stop)))] }

theorem t_spec_ConstraintValid : TabOk Try.prog C_spec_ConstraintValid := by
  refine tabOk_of ?_
  simp only [C_spec_ConstraintValid, List.forall_mem_cons]
  exact ⟨k_spec_l1Abs, k_spec_l1Lit, fun p h => by cases h⟩

theorem k_spec_ConstraintValid : Entry Try.prog 207 c_spec_ConstraintValid := by
  refine entry_by (C := C_spec_ConstraintValid) mixed tys_ok t_spec_ConstraintValid (fn := Try.f207) (c := bd Try.f207) (by kernel_rfl) (by kernel_rfl) (by kernel_rfl) (by kernel_rfl) ?_
  intro args st k he
  unfold c_spec_ConstraintValid at he
  split at he
  rotate_left
  · exact he.elim
  rename_i c__0 c__1
  have he : Ok (spec_ConstraintValid (c__0, c__1)) (fun r => k (.c (.bool r)) []) := he
  refine ⟨rfl, rfl, ?_⟩
  refine loop_model mixed tys_ok t_spec_ConstraintValid (S := Int) (I := (fun i => (envOf [(1, .c (.ptr 10000000 0)), (3, .c (.int .i64 i))], [(10000000, .rc [.imm (.pair (.int .i64) (.int .i64)) (c__0, c__1).1, .int .i64 (c__0, c__1).2])]))) (f := spec_ConstraintValid_l1 (c__0, c__1)) (K := (fun r => k (.c (.bool r)) [])) he (leads_ren [(10000000, 1)] (l := [(1, .c (.ptr 10000000 0)), (3, .c (.int .i64 (0:Int)))]) (st' := [(10000000, .rc [.imm (.pair (.int .i64) (.int .i64)) (c__0, c__1).1, .int .i64 (c__0, c__1).2])]) rfl rfl ⟨⟨.inl rfl, rfl, trivial⟩, trivial⟩ ⟨⟨⟨rfl, rfl⟩, rfl⟩, rfl, trivial⟩) ?_
  rintro i J1 he
  refine And.intro (fun hb => ?_) (fun hb => ?_)
  · have he := ok_t he hb
    have he := ok_rq he
    refine And.intro he.1 ?_
    have he := he.2
    refine And.intro (by kernel_rfl) ?_
    refine And.intro ?_ trivial
    refine And.intro ?_ trivial
    obtain ⟨r4_, hr, he⟩ := ok_bind he
    refine ⟨r4_, hr, ?_⟩
    refine And.intro (fun hb => ?_) (fun hb => ?_)
    · have he := ok_f he hb
      refine And.intro ?_ trivial
      refine And.intro (fun hb => ?_) (fun hb => ?_)
      · have he := ok_f he hb
        refine And.intro ?_ trivial
        refine And.intro (fun hb => ?_) (fun hb => ?_)
        · have he := ok_f he hb
          refine And.intro (fun hb => ?_) (fun hb => ?_)
          · have he := ok_t he hb
            have he := ok_rq he
            refine And.intro he.1 ?_
            have he := he.2
            have he := ok_rq he
            have hq1 := he.1
            have he := he.2
            obtain ⟨r5_, hq2, he⟩ := ok_bind he
            obtain ⟨r6_, hq3, he⟩ := ok_bind he
            refine And.intro ?_ (And.intro ?_ (trivial))
            · skip
              refine And.intro hq1 ?_
              refine And.intro ?_ (And.intro ?_ (trivial))
              · skip
                refine ⟨r5_, hq2, ?_⟩
                refine And.intro ?_ trivial
                refine And.intro ?_ trivial
                refine ⟨r6_, hq3, ?_⟩
                refine And.intro (fun hb => ?_) (fun hb => ?_)
                · have he := ok_t he hb
                  have he := ok_some he
                  exact ⟨rfl, _, _, (leads_ren [] (l := [(2, .c (.bool false))]) (st' := []) rfl rfl trivial ⟨.inr rfl, trivial⟩), he⟩
                · have he := ok_f he hb
                  have he := ok_rq he
                  refine And.intro he.1 ?_
                  have he := he.2
                  have he := ok_some he
                  exact ⟨(i + (1:Int)), he, (leads_ren [] (l := [(1, .c (.ptr 10000000 0)), (3, .c (.int .i64 (i + (1:Int))))]) (st' := [(10000000, .rc [.imm (.pair (.int .i64) (.int .i64)) (c__0, c__1).1, .int .i64 (c__0, c__1).2])]) rfl rfl ⟨⟨.inl rfl, rfl, trivial⟩, trivial⟩ ⟨⟨⟨rfl, rfl⟩, rfl⟩, rfl, trivial⟩)⟩
              · skip
                refine And.intro ?_ trivial
                refine ⟨r5_, hq2, ?_⟩
                refine And.intro ?_ trivial
                refine ⟨r6_, hq3, ?_⟩
                refine And.intro (fun hb => ?_) (fun hb => ?_)
                · have he := ok_t he hb
                  have he := ok_some he
                  exact ⟨rfl, _, _, (leads_ren [] (l := [(2, .c (.bool false))]) (st' := []) rfl rfl trivial ⟨.inr rfl, trivial⟩), he⟩
                · have he := ok_f he hb
                  have he := ok_rq he
                  refine And.intro he.1 ?_
                  have he := he.2
                  have he := ok_some he
                  exact ⟨(i + (1:Int)), he, (leads_ren [] (l := [(1, .c (.ptr 10000000 0)), (3, .c (.int .i64 (i + (1:Int))))]) (st' := [(10000000, .rc [.imm (.pair (.int .i64) (.int .i64)) (c__0, c__1).1, .int .i64 (c__0, c__1).2])]) rfl rfl ⟨⟨.inl rfl, rfl, trivial⟩, trivial⟩ ⟨⟨⟨rfl, rfl⟩, rfl⟩, rfl, trivial⟩)⟩
            · skip
              refine And.intro ?_ trivial
              refine And.intro hq1 ?_
              refine And.intro ?_ trivial
              refine ⟨r5_, hq2, ?_⟩
              refine And.intro ?_ trivial
              refine ⟨r6_, hq3, ?_⟩
              refine And.intro (fun hb => ?_) (fun hb => ?_)
              · have he := ok_t he hb
                have he := ok_some he
                exact ⟨rfl, _, _, (leads_ren [] (l := [(2, .c (.bool false))]) (st' := []) rfl rfl trivial ⟨.inr rfl, trivial⟩), he⟩
              · have he := ok_f he hb
                have he := ok_rq he
                refine And.intro he.1 ?_
                have he := he.2
                have he := ok_some he
                exact ⟨(i + (1:Int)), he, (leads_ren [] (l := [(1, .c (.ptr 10000000 0)), (3, .c (.int .i64 (i + (1:Int))))]) (st' := [(10000000, .rc [.imm (.pair (.int .i64) (.int .i64)) (c__0, c__1).1, .int .i64 (c__0, c__1).2])]) rfl rfl ⟨⟨.inl rfl, rfl, trivial⟩, trivial⟩ ⟨⟨⟨rfl, rfl⟩, rfl⟩, rfl, trivial⟩)⟩
          · have he := ok_f he hb
            refine And.intro ?_ (And.intro ?_ (trivial))
            · skip
              refine And.intro ?_ (And.intro ?_ (trivial))
              · skip
                refine And.intro ?_ trivial
                refine And.intro ?_ trivial
                have he := ok_rq he
                refine And.intro he.1 ?_
                have he := he.2
                have he := ok_some he
                exact ⟨(i + (1:Int)), he, (leads_ren [] (l := [(1, .c (.ptr 10000000 0)), (3, .c (.int .i64 (i + (1:Int))))]) (st' := [(10000000, .rc [.imm (.pair (.int .i64) (.int .i64)) (c__0, c__1).1, .int .i64 (c__0, c__1).2])]) rfl rfl ⟨⟨.inl rfl, rfl, trivial⟩, trivial⟩ ⟨⟨⟨rfl, rfl⟩, rfl⟩, rfl, trivial⟩)⟩
              · skip
                refine And.intro ?_ trivial
                refine And.intro ?_ trivial
                have he := ok_rq he
                refine And.intro he.1 ?_
                have he := he.2
                have he := ok_some he
                exact ⟨(i + (1:Int)), he, (leads_ren [] (l := [(1, .c (.ptr 10000000 0)), (3, .c (.int .i64 (i + (1:Int))))]) (st' := [(10000000, .rc [.imm (.pair (.int .i64) (.int .i64)) (c__0, c__1).1, .int .i64 (c__0, c__1).2])]) rfl rfl ⟨⟨.inl rfl, rfl, trivial⟩, trivial⟩ ⟨⟨⟨rfl, rfl⟩, rfl⟩, rfl, trivial⟩)⟩
            · skip
              refine And.intro ?_ trivial
              refine And.intro ?_ trivial
              refine And.intro ?_ trivial
              have he := ok_rq he
              refine And.intro he.1 ?_
              have he := he.2
              have he := ok_some he
              exact ⟨(i + (1:Int)), he, (leads_ren [] (l := [(1, .c (.ptr 10000000 0)), (3, .c (.int .i64 (i + (1:Int))))]) (st' := [(10000000, .rc [.imm (.pair (.int .i64) (.int .i64)) (c__0, c__1).1, .int .i64 (c__0, c__1).2])]) rfl rfl ⟨⟨.inl rfl, rfl, trivial⟩, trivial⟩ ⟨⟨⟨rfl, rfl⟩, rfl⟩, rfl, trivial⟩)⟩
        · have he := ok_t he hb
          refine And.intro ?_ (And.intro ?_ (trivial))
          · skip
            refine And.intro ?_ (And.intro ?_ (trivial))
            · skip
              refine And.intro ?_ trivial
              refine And.intro ?_ trivial
              have he := ok_some he
              exact ⟨rfl, _, _, (leads_ren [] (l := [(2, .c (.bool false))]) (st' := []) rfl rfl trivial ⟨.inr rfl, trivial⟩), he⟩
            · skip
              refine And.intro ?_ trivial
              refine And.intro ?_ trivial
              have he := ok_some he
              exact ⟨rfl, _, _, (leads_ren [] (l := [(2, .c (.bool false))]) (st' := []) rfl rfl trivial ⟨.inr rfl, trivial⟩), he⟩
          · skip
            refine And.intro ?_ trivial
            refine And.intro ?_ trivial
            refine And.intro ?_ trivial
            have he := ok_some he
            exact ⟨rfl, _, _, (leads_ren [] (l := [(2, .c (.bool false))]) (st' := []) rfl rfl trivial ⟨.inr rfl, trivial⟩), he⟩
      · have he := ok_t he hb
        refine And.intro ?_ trivial
        refine And.intro ?_ (And.intro ?_ (trivial))
        · skip
          refine And.intro ?_ (And.intro ?_ (trivial))
          · skip
            refine And.intro ?_ trivial
            refine And.intro ?_ trivial
            have he := ok_some he
            exact ⟨rfl, _, _, (leads_ren [] (l := [(2, .c (.bool false))]) (st' := []) rfl rfl trivial ⟨.inr rfl, trivial⟩), he⟩
          · skip
            refine And.intro ?_ trivial
            refine And.intro ?_ trivial
            have he := ok_some he
            exact ⟨rfl, _, _, (leads_ren [] (l := [(2, .c (.bool false))]) (st' := []) rfl rfl trivial ⟨.inr rfl, trivial⟩), he⟩
        · skip
          refine And.intro ?_ trivial
          refine And.intro ?_ trivial
          refine And.intro ?_ trivial
          have he := ok_some he
          exact ⟨rfl, _, _, (leads_ren [] (l := [(2, .c (.bool false))]) (st' := []) rfl rfl trivial ⟨.inr rfl, trivial⟩), he⟩
    · have he := ok_t he hb
      refine And.intro ?_ trivial
      refine And.intro ?_ trivial
      refine And.intro ?_ (And.intro ?_ (trivial))
      · skip
        refine And.intro ?_ (And.intro ?_ (trivial))
        · skip
          refine And.intro ?_ trivial
          refine And.intro ?_ trivial
          have he := ok_some he
          exact ⟨rfl, _, _, (leads_ren [] (l := [(2, .c (.bool false))]) (st' := []) rfl rfl trivial ⟨.inr rfl, trivial⟩), he⟩
        · skip
          refine And.intro ?_ trivial
          refine And.intro ?_ trivial
          have he := ok_some he
          exact ⟨rfl, _, _, (leads_ren [] (l := [(2, .c (.bool false))]) (st' := []) rfl rfl trivial ⟨.inr rfl, trivial⟩), he⟩
      · skip
        refine And.intro ?_ trivial
        refine And.intro ?_ trivial
        refine And.intro ?_ trivial
        have he := ok_some he
        exact ⟨rfl, _, _, (leads_ren [] (l := [(2, .c (.bool false))]) (st' := []) rfl rfl trivial ⟨.inr rfl, trivial⟩), he⟩
  · have he := ok_f he hb
    refine And.intro (fun hb => ?_) (fun hb => ?_)
    · have he := ok_t he hb
      have he := ok_some he
      exact ⟨rfl, _, _, (leads_ren [] (l := [(2, .c (.bool (decide ((c__0, c__1).2 ≤ (20000:Int)))))]) (st' := []) rfl rfl trivial ⟨.inl rfl, trivial⟩), he⟩
    · have he := ok_f he hb
      have he := ok_some he
      exact ⟨rfl, _, _, (leads_ren [] (l := [(2, .c (.bool false))]) (st' := []) rfl rfl trivial ⟨.inr rfl, trivial⟩), he⟩

noncomputable def c_spec_l12Clause : Con := fun args st => match args, st with
  | [.agg [.imm (.pair (.int .i64) (.int .i64)) c__0, .int .i64 c__1]], [] => .opt (Bool × (List Int)) (spec_l12Clause (c__0, c__1)) (fun r => .ret (.tup [.c (.own 900 false), .c (.bool r.1)]) [(900, .sl 3 (.int .i64) r.2 .shallow)])
  | _, _ => .fail

noncomputable def C_spec_l12Clause : Cfg := { y := tys, n := 39, h := 0, tab := [(207, c_spec_ConstraintValid)], cut := [8], hand := [], good := [], deep := [], sched := [(8, (.first 0 (.alt 1 (.alt 2 (.first 3 (.first 4 (.first 8 (.alt 5 (.first 6 (.first 7 (.first 9 .done))) .stop)))) .stop) .stop)))] }

theorem t_spec_l12Clause : TabOk Try.prog C_spec_l12Clause := by
  refine tabOk_of ?_
  simp only [C_spec_l12Clause, List.forall_mem_cons]
  exact ⟨k_spec_ConstraintValid, fun p h => by cases h⟩

theorem k_spec_l12Clause : Entry Try.prog 230 c_spec_l12Clause := by
  refine entry_by (C := C_spec_l12Clause) mixed tys_ok t_spec_l12Clause (fn := Try.f230) (c := bd Try.f230) (by kernel_rfl) (by kernel_rfl) (by kernel_rfl) (by kernel_rfl) ?_
  intro args st k he
  unfold c_spec_l12Clause at he
  split at he
  rotate_left
  · exact he.elim
  rename_i c__0 c__1
  have he : Ok (spec_l12Clause (c__0, c__1)) (fun r => k (.tup [.c (.own 900 false), .c (.bool r.1)]) [(900, .sl 3 (.int .i64) r.2 .shallow)]) := he
  refine ⟨rfl, rfl, ?_⟩
  refine seq_model mixed tys_ok t_spec_l12Clause (S := (List Int)) (I := (fun out1 => (envOf [(1, .c (.ptr 10001000 0)), (4, .c (.own 10001001 false))], [(10001000, .rc [.imm (.pair (.int .i64) (.int .i64)) (c__0, c__1).1, .int .i64 (c__0, c__1).2]), (10001001, .sl 3 (.int .i64) out1 .shallow)]))) (B := fun s => Ok (spec_l12Clause_j1 (c__0, c__1) s) (fun r => k (.tup [.c (.own 900 false), .c (.bool r.1)]) [(900, .sl 3 (.int .i64) r.2 .shallow)])) ?_ ?_
  · rintro out1 he
    refine And.intro (by kernel_rfl) ?_
    refine And.intro ?_ trivial
    refine And.intro ?_ trivial
    obtain ⟨r2_, hr, he⟩ := ok_bind he
    refine ⟨r2_, hr, ?_⟩
    refine And.intro (fun hb => ?_) (fun hb => ?_)
    · have he := ok_t he hb
      refine And.intro ?_ trivial
      have he := ok_some he
      exact ⟨rfl, _, _, (leads_ren [(900, 10001001)] (l := [(2, .c (.own 900 false)), (3, .c (.bool ((c__0, c__1).2 == (1:Int))))]) (st' := [(900, .sl 3 (.int .i64) out1 .shallow)]) rfl rfl ⟨⟨rfl, rfl⟩, trivial⟩ ⟨⟨⟨rfl, rfl⟩, trivial⟩, .inl rfl, trivial⟩), he⟩
    · have he := ok_f he hb
      refine And.intro ?_ trivial
      have he := ok_some he
      exact ⟨rfl, _, _, (leads_ren [(900, 10001001)] (l := [(2, .c (.own 900 false)), (3, .c (.bool false))]) (st' := [(900, .sl 3 (.int .i64) out1 .shallow)]) rfl rfl ⟨⟨rfl, rfl⟩, trivial⟩ ⟨⟨⟨rfl, rfl⟩, trivial⟩, .inr rfl, trivial⟩), he⟩
  · skip
    refine loop_model mixed tys_ok t_spec_l12Clause (S := Int × (List Int)) (I := (fun (i, out) => (envOf [(1, .c (.ptr 10000000 0)), (4, .c (.own 10000001 false)), (5, .c (.int .i64 i))], [(10000000, .rc [.imm (.pair (.int .i64) (.int .i64)) (c__0, c__1).1, .int .i64 (c__0, c__1).2]), (10000001, .sl 3 (.int .i64) out .shallow)]))) (f := spec_l12Clause_l1 (c__0, c__1)) (K := (fun r => k (.tup [.c (.own 900 false), .c (.bool r.1)]) [(900, .sl 3 (.int .i64) r.2 .shallow)])) he (leads_ren [(10000000, 1), (10000001, 6)] (l := [(1, .c (.ptr 10000000 0)), (4, .c (.own 10000001 false)), (5, .c (.int .i64 (0:Int)))]) (st' := [(10000000, .rc [.imm (.pair (.int .i64) (.int .i64)) (c__0, c__1).1, .int .i64 (c__0, c__1).2]), (10000001, .sl 3 (.int .i64) ([] : List Int) .shallow)]) rfl rfl ⟨⟨.inl rfl, rfl, trivial⟩, ⟨rfl, rfl⟩, trivial⟩ ⟨⟨⟨rfl, rfl⟩, rfl⟩, ⟨⟨rfl, rfl⟩, trivial⟩, rfl, trivial⟩) ?_
    rintro ⟨i, out⟩ J1 he
    refine And.intro (fun hb => ?_) (fun hb => ?_)
    · have he := ok_t he hb
      have he := ok_rq he
      refine And.intro he.1 ?_
      have he := he.2
      refine And.intro (fun hb => ?_) (fun hb => ?_)
      · have he := ok_t he hb
        have he := ok_some he
        exact ⟨rfl, _, _, (leads_ren [(900, 21)] (l := [(2, .c (.own 900 false)), (3, .c (.bool false))]) (st' := [(900, .sl 3 (.int .i64) ([] : List Int) .shallow)]) rfl rfl ⟨⟨rfl, rfl⟩, trivial⟩ ⟨⟨⟨rfl, rfl⟩, trivial⟩, .inr rfl, trivial⟩), he⟩
      · have he := ok_f he hb
        have he := ok_rq he
        refine And.intro he.1 ?_
        have he := he.2
        have he := ok_rq he
        refine And.intro he.1 ?_
        have he := he.2
        have he := ok_rq he
        refine And.intro he.1 ?_
        have he := he.2
        have he := ok_some he
        exact ⟨((i + (1:Int)), (out ++ [((c__0, c__1).1.getD i.toNat (0, 0)).2])), he, (leads_ren [(10000001, 30)] (l := [(1, .c (.ptr 10000000 0)), (4, .c (.own 10000001 false)), (5, .c (.int .i64 (i + (1:Int))))]) (st' := [(10000000, .rc [.imm (.pair (.int .i64) (.int .i64)) (c__0, c__1).1, .int .i64 (c__0, c__1).2]), (10000001, .sl 3 (.int .i64) (out ++ [((c__0, c__1).1.getD i.toNat (0, 0)).2]) .shallow)]) rfl rfl ⟨⟨.inl rfl, rfl, trivial⟩, ⟨rfl, rfl⟩, trivial⟩ ⟨⟨⟨rfl, rfl⟩, rfl⟩, ⟨⟨rfl, rfl⟩, trivial⟩, rfl, trivial⟩)⟩
    · have he := ok_f he hb
      exact ⟨out, ok_up he, (leads_ren [(10001000, 10000000), (10001001, 10000001)] (l := [(1, .c (.ptr 10001000 0)), (4, .c (.own 10001001 false))]) (st' := [(10001000, .rc [.imm (.pair (.int .i64) (.int .i64)) (c__0, c__1).1, .int .i64 (c__0, c__1).2]), (10001001, .sl 3 (.int .i64) out .shallow)]) rfl rfl ⟨⟨.inl rfl, rfl, trivial⟩, ⟨rfl, rfl⟩, trivial⟩ ⟨⟨⟨rfl, rfl⟩, rfl⟩, ⟨⟨rfl, rfl⟩, trivial⟩, trivial⟩)⟩

noncomputable def c_spec_ClauseOf : Con := fun args st => match args, st with
  | [.c (.imm (.int .i64) a0)], [] => .opt (Bool × Int × (List (Int × Int))) (spec_ClauseOf a0) (fun r => .ret (.tup [.agg [.own 901 false, .int .i64 r.2.1], .c (.bool r.1)]) [(900, .rc [.own 901 false, .int .i64 r.2.1]), (901, .sl 140 (.pair (.int .i64) (.int .i64)) r.2.2 .shallow)])
  | _, _ => .fail

noncomputable def C_spec_ClauseOf : Cfg := { y := tys, n := 71, h := 0, tab := [(171, c_spec_l1Abs), (229, c_spec_l1Lit)], cut := [13], hand := [], good := [], deep := [], sched := [(18, (.first 0 (.first 2 (.first 3 (.first 4 (.alt 1 (.alt 5 (.alt 6 (.alt 7 (.alt 8 (.first 9 (.alt 10 .done .stop)) .stop) .stop) .stop) .stop) (.alt 5 (.alt 1 (.alt 6 (.alt 7 (.alt 8 (.first 9 (.alt 10 .done .stop)) .stop) .stop) .stop) (.alt 6 (.alt 1 (.alt 7 (.alt 8 (.first 9 (.alt 10 .done .stop)) .stop) .stop) (.alt 7 (.alt 1 (.alt 8 (.first 9 (.alt 10 .done .stop)) .stop) .stop) .stop)) .stop)) .stop)))))))] }

theorem t_spec_ClauseOf : TabOk Try.prog C_spec_ClauseOf := by
  refine tabOk_of ?_
  simp only [C_spec_ClauseOf, List.forall_mem_cons]
  exact ⟨k_spec_l1Abs, k_spec_l1Lit, fun p h => by cases h⟩

theorem k_spec_ClauseOf : Entry Try.prog 164 c_spec_ClauseOf := by
  refine entry_by (C := C_spec_ClauseOf) mixed tys_ok t_spec_ClauseOf (fn := Try.f164) (c := bd Try.f164) (by kernel_rfl) (by kernel_rfl) (by kernel_rfl) (by kernel_rfl) ?_
  intro args st k he
  unfold c_spec_ClauseOf at he
  split at he
  rotate_left
  · exact he.elim
  rename_i a0
  have he : Ok (spec_ClauseOf a0) (fun r => k (.tup [.agg [.own 901 false, .int .i64 r.2.1], .c (.bool r.1)]) [(900, .rc [.own 901 false, .int .i64 r.2.1]), (901, .sl 140 (.pair (.int .i64) (.int .i64)) r.2.2 .shallow)]) := he
  refine ⟨rfl, rfl, ?_⟩
  have he := ok_rq he
  refine And.intro he.1 ?_
  have he := he.2
  refine And.intro (fun hb => ?_) (fun hb => ?_)
  · have he := ok_t he hb
    have he := ok_some he
    exact ⟨rfl, _, _, (leads_ren [(900, 2)] (l := [(2, .c (.ptr 900 0)), (3, .c (.bool false))]) (st' := [(900, .rc [.own 901 false, .int .i64 (0:Int)]), (901, .sl 140 (.pair (.int .i64) (.int .i64)) ([] : List (Int × Int)) .shallow)]) rfl rfl ⟨⟨⟨rfl, trivial⟩, rfl, trivial⟩, trivial, trivial⟩ ⟨⟨⟨rfl, rfl⟩, rfl⟩, .inr rfl, trivial⟩), he⟩
  · have he := ok_f he hb
    refine seq_model mixed tys_ok t_spec_ClauseOf (S := (List Int)) (I := (fun i2 => (envOf [(2, .c (.ptr 10001000 0)), (4, .c (.own 10001001 false))], [(10001000, .rc [.nil, .int .i64 (0:Int)]), (10001001, .sl 3 (.int .i64) i2 .shallow)]))) (B := fun s => Ok (spec_ClauseOf_j1 s) (fun r => k (.tup [.agg [.own 901 false, .int .i64 r.2.1], .c (.bool r.1)]) [(900, .rc [.own 901 false, .int .i64 r.2.1]), (901, .sl 140 (.pair (.int .i64) (.int .i64)) r.2.2 .shallow)])) ?_ ?_
    · rintro i2 he
      refine loop_model mixed tys_ok t_spec_ClauseOf (S := Int × (List (Int × Int))) (I := (fun (i3, i_0) => (envOf [(2, .c (.ptr 10002000 0)), (4, .c (.own 10002001 false)), (7, .c (.ptr 10002002 0)), (8, .c (.int .i64 i3))], [(10002000, .rc [.nil, .int .i64 (0:Int)]), (10002001, .sl 3 (.int .i64) i2 .shallow), (10002002, .rc [.own 10002003 false, .int .i64 (1:Int)]), (10002003, .sl 140 (.pair (.int .i64) (.int .i64)) i_0 .shallow)]))) (f := spec_ClauseOf_l1 i2) (K := (fun r => k (.tup [.agg [.own 901 false, .int .i64 r.2.1], .c (.bool r.1)]) [(900, .rc [.own 901 false, .int .i64 r.2.1]), (901, .sl 140 (.pair (.int .i64) (.int .i64)) r.2.2 .shallow)])) he (leads_ren [(10002000, 10001000), (10002001, 10001001), (10002002, 7)] (l := [(2, .c (.ptr 10002000 0)), (4, .c (.own 10002001 false)), (7, .c (.ptr 10002002 0)), (8, .c (.int .i64 (1:Int)))]) (st' := [(10002000, .rc [.nil, .int .i64 (0:Int)]), (10002001, .sl 3 (.int .i64) i2 .shallow), (10002002, .rc [.own 10002003 false, .int .i64 (1:Int)]), (10002003, .sl 140 (.pair (.int .i64) (.int .i64)) ([] : List (Int × Int)) .shallow)]) rfl rfl ⟨⟨rfl, rfl, trivial⟩, ⟨rfl, rfl⟩, ⟨⟨rfl, trivial⟩, rfl, trivial⟩, trivial, trivial⟩ ⟨⟨⟨rfl, rfl⟩, rfl⟩, ⟨⟨rfl, rfl⟩, trivial⟩, ⟨⟨rfl, rfl⟩, rfl⟩, rfl, trivial⟩) ?_
      rintro ⟨i3, i_0⟩ J1 he
      refine And.intro (fun hb => ?_) (fun hb => ?_)
      · have he := ok_t he hb
        have he := ok_rq he
        refine And.intro he.1 ?_
        have he := he.2
        refine And.intro (fun hb => ?_) (fun hb => ?_)
        · have he := ok_t he hb
          refine And.intro (by kernel_rfl) ?_
          have he := ok_rq he
          refine And.intro he.1 ?_
          have he := he.2
          have he := ok_rq he
          have hq1 := he.1
          have he := he.2
          refine And.intro ?_ (And.intro ?_ (trivial))
          · skip
            refine And.intro ?_ trivial
            refine And.intro ?_ trivial
            refine And.intro ?_ trivial
            refine And.intro ?_ trivial
            refine And.intro hq1 ?_
            refine And.intro ?_ trivial
            have he := ok_rq he
            refine And.intro he.1 ?_
            have he := he.2
            have he := ok_some he
            exact ⟨((i3 + (1:Int)), (i_0 ++ [((1:Int), (i2.getD i3.toNat 0))])), he, (leads_ren [(10002003, 68)] (l := [(2, .c (.ptr 10002000 0)), (4, .c (.own 10002001 false)), (7, .c (.ptr 10002002 0)), (8, .c (.int .i64 (i3 + (1:Int))))]) (st' := [(10002000, .rc [.nil, .int .i64 (0:Int)]), (10002001, .sl 3 (.int .i64) i2 .shallow), (10002002, .rc [.own 10002003 false, .int .i64 (1:Int)]), (10002003, .sl 140 (.pair (.int .i64) (.int .i64)) (i_0 ++ [((1:Int), (i2.getD i3.toNat 0))]) .shallow)]) rfl rfl ⟨⟨rfl, rfl, trivial⟩, ⟨rfl, rfl⟩, ⟨⟨⟨rfl, rfl⟩, trivial⟩, rfl, trivial⟩, ⟨rfl, rfl⟩, trivial⟩ ⟨⟨⟨rfl, rfl⟩, rfl⟩, ⟨⟨rfl, rfl⟩, trivial⟩, ⟨⟨rfl, rfl⟩, rfl⟩, rfl, trivial⟩)⟩
          · skip
            refine And.intro ?_ (And.intro ?_ (trivial))
            · skip
              refine And.intro ?_ trivial
              refine And.intro ?_ trivial
              refine And.intro ?_ trivial
              refine And.intro hq1 ?_
              refine And.intro ?_ trivial
              have he := ok_rq he
              refine And.intro he.1 ?_
              have he := he.2
              have he := ok_some he
              exact ⟨((i3 + (1:Int)), (i_0 ++ [((1:Int), (i2.getD i3.toNat 0))])), he, (leads_ren [(10002003, 68)] (l := [(2, .c (.ptr 10002000 0)), (4, .c (.own 10002001 false)), (7, .c (.ptr 10002002 0)), (8, .c (.int .i64 (i3 + (1:Int))))]) (st' := [(10002000, .rc [.nil, .int .i64 (0:Int)]), (10002001, .sl 3 (.int .i64) i2 .shallow), (10002002, .rc [.own 10002003 false, .int .i64 (1:Int)]), (10002003, .sl 140 (.pair (.int .i64) (.int .i64)) (i_0 ++ [((1:Int), (i2.getD i3.toNat 0))]) .shallow)]) rfl rfl ⟨⟨rfl, rfl, trivial⟩, ⟨rfl, rfl⟩, ⟨⟨⟨rfl, rfl⟩, trivial⟩, rfl, trivial⟩, ⟨rfl, rfl⟩, trivial⟩ ⟨⟨⟨rfl, rfl⟩, rfl⟩, ⟨⟨rfl, rfl⟩, trivial⟩, ⟨⟨rfl, rfl⟩, rfl⟩, rfl, trivial⟩)⟩
            · skip
              refine And.intro ?_ (And.intro ?_ (trivial))
              · skip
                refine And.intro ?_ trivial
                refine And.intro ?_ trivial
                refine And.intro hq1 ?_
                refine And.intro ?_ trivial
                have he := ok_rq he
                refine And.intro he.1 ?_
                have he := he.2
                have he := ok_some he
                exact ⟨((i3 + (1:Int)), (i_0 ++ [((1:Int), (i2.getD i3.toNat 0))])), he, (leads_ren [(10002003, 68)] (l := [(2, .c (.ptr 10002000 0)), (4, .c (.own 10002001 false)), (7, .c (.ptr 10002002 0)), (8, .c (.int .i64 (i3 + (1:Int))))]) (st' := [(10002000, .rc [.nil, .int .i64 (0:Int)]), (10002001, .sl 3 (.int .i64) i2 .shallow), (10002002, .rc [.own 10002003 false, .int .i64 (1:Int)]), (10002003, .sl 140 (.pair (.int .i64) (.int .i64)) (i_0 ++ [((1:Int), (i2.getD i3.toNat 0))]) .shallow)]) rfl rfl ⟨⟨rfl, rfl, trivial⟩, ⟨rfl, rfl⟩, ⟨⟨⟨rfl, rfl⟩, trivial⟩, rfl, trivial⟩, ⟨rfl, rfl⟩, trivial⟩ ⟨⟨⟨rfl, rfl⟩, rfl⟩, ⟨⟨rfl, rfl⟩, trivial⟩, ⟨⟨rfl, rfl⟩, rfl⟩, rfl, trivial⟩)⟩
              · skip
                refine And.intro ?_ trivial
                refine And.intro ?_ trivial
                refine And.intro hq1 ?_
                refine And.intro ?_ trivial
                have he := ok_rq he
                refine And.intro he.1 ?_
                have he := he.2
                have he := ok_some he
                exact ⟨((i3 + (1:Int)), (i_0 ++ [((1:Int), (i2.getD i3.toNat 0))])), he, (leads_ren [(10002003, 68)] (l := [(2, .c (.ptr 10002000 0)), (4, .c (.own 10002001 false)), (7, .c (.ptr 10002002 0)), (8, .c (.int .i64 (i3 + (1:Int))))]) (st' := [(10002000, .rc [.nil, .int .i64 (0:Int)]), (10002001, .sl 3 (.int .i64) i2 .shallow), (10002002, .rc [.own 10002003 false, .int .i64 (1:Int)]), (10002003, .sl 140 (.pair (.int .i64) (.int .i64)) (i_0 ++ [((1:Int), (i2.getD i3.toNat 0))]) .shallow)]) rfl rfl ⟨⟨rfl, rfl, trivial⟩, ⟨rfl, rfl⟩, ⟨⟨⟨rfl, rfl⟩, trivial⟩, rfl, trivial⟩, ⟨rfl, rfl⟩, trivial⟩ ⟨⟨⟨rfl, rfl⟩, rfl⟩, ⟨⟨rfl, rfl⟩, trivial⟩, ⟨⟨rfl, rfl⟩, rfl⟩, rfl, trivial⟩)⟩
        · have he := ok_f he hb
          have he := ok_rq he
          refine And.intro he.1 ?_
          have he := he.2
          have he := ok_some he
          exact ⟨((i3 + (1:Int)), i_0), he, (leads_ren [] (l := [(2, .c (.ptr 10002000 0)), (4, .c (.own 10002001 false)), (7, .c (.ptr 10002002 0)), (8, .c (.int .i64 (i3 + (1:Int))))]) (st' := [(10002000, .rc [.nil, .int .i64 (0:Int)]), (10002001, .sl 3 (.int .i64) i2 .shallow), (10002002, .rc [.own 10002003 false, .int .i64 (1:Int)]), (10002003, .sl 140 (.pair (.int .i64) (.int .i64)) i_0 .shallow)]) rfl rfl ⟨⟨rfl, rfl, trivial⟩, ⟨rfl, rfl⟩, ⟨⟨⟨rfl, rfl⟩, trivial⟩, rfl, trivial⟩, ⟨rfl, rfl⟩, trivial⟩ ⟨⟨⟨rfl, rfl⟩, rfl⟩, ⟨⟨rfl, rfl⟩, trivial⟩, ⟨⟨rfl, rfl⟩, rfl⟩, rfl, trivial⟩)⟩
      · have he := ok_f he hb
        have he := ok_some he
        exact ⟨rfl, _, _, (leads_ren [(900, 10002000), (901, 10002003)] (l := [(2, .c (.ptr 900 0)), (3, .c (.bool true))]) (st' := [(900, .rc [.own 901 false, .int .i64 (1:Int)]), (901, .sl 140 (.pair (.int .i64) (.int .i64)) i_0 .shallow)]) rfl rfl ⟨⟨⟨⟨rfl, rfl⟩, trivial⟩, rfl, trivial⟩, ⟨rfl, rfl⟩, trivial⟩ ⟨⟨⟨rfl, rfl⟩, rfl⟩, .inr rfl, trivial⟩), he⟩
    · skip
      refine loop_model mixed tys_ok t_spec_ClauseOf (S := Int × (List Int)) (I := (fun (i, i1) => (envOf [(0, .c (.imm (.int .i64) a0)), (2, .c (.ptr 10000000 0)), (4, .c (.own 10000001 false)), (5, .c (.int .i64 i))], [(10000000, .rc [.nil, .int .i64 (0:Int)]), (10000001, .sl 3 (.int .i64) i1 .shallow)]))) (f := spec_ClauseOf_l2 a0) (K := (fun r => k (.tup [.agg [.own 901 false, .int .i64 r.2.1], .c (.bool r.1)]) [(900, .rc [.own 901 false, .int .i64 r.2.1]), (901, .sl 140 (.pair (.int .i64) (.int .i64)) r.2.2 .shallow)])) he (leads_ren [(10000000, 2), (10000001, 9)] (l := [(0, .c (.imm (.int .i64) a0)), (2, .c (.ptr 10000000 0)), (4, .c (.own 10000001 false)), (5, .c (.int .i64 (0:Int)))]) (st' := [(10000000, .rc [.nil, .int .i64 (0:Int)]), (10000001, .sl 3 (.int .i64) (List.replicate (13:Int).toNat 0) .shallow)]) rfl rfl ⟨⟨rfl, rfl, trivial⟩, ⟨rfl, rfl⟩, trivial⟩ ⟨.inl rfl, ⟨⟨rfl, rfl⟩, rfl⟩, ⟨⟨rfl, rfl⟩, trivial⟩, rfl, trivial⟩) ?_
      rintro ⟨i, i1⟩ J1 he
      refine And.intro (fun hb => ?_) (fun hb => ?_)
      · have he := ok_t he hb
        have he := ok_rq he
        refine And.intro he.1 ?_
        have he := he.2
        obtain ⟨r3_, hr, he⟩ := ok_bind he
        refine ⟨r3_, hr, ?_⟩
        refine And.intro (fun hb => ?_) (fun hb => ?_)
        · have he := ok_t he hb
          have he := ok_some he
          exact ⟨rfl, _, _, (leads_ren [(900, 10000000)] (l := [(2, .c (.ptr 900 0)), (3, .c (.bool false))]) (st' := [(900, .rc [.own 901 false, .int .i64 (0:Int)]), (901, .sl 140 (.pair (.int .i64) (.int .i64)) ([] : List (Int × Int)) .shallow)]) rfl rfl ⟨⟨⟨rfl, trivial⟩, rfl, trivial⟩, trivial, trivial⟩ ⟨⟨⟨rfl, rfl⟩, rfl⟩, .inr rfl, trivial⟩), he⟩
        · have he := ok_f he hb
          have he := ok_rq he
          refine And.intro he.1 ?_
          have he := he.2
          obtain ⟨r4_, hr, he⟩ := ok_bind he
          refine ⟨r4_, hr, ?_⟩
          refine And.intro (by kernel_rfl) ?_
          have he := ok_rq he
          refine And.intro he.1 ?_
          have he := he.2
          have he := ok_rq he
          refine And.intro he.1 ?_
          have he := he.2
          have he := ok_rq he
          refine And.intro he.1 ?_
          have he := he.2
          refine And.intro (fun hb => ?_) (fun hb => ?_)
          · have he := ok_t he hb
            have he := ok_some he
            exact ⟨rfl, _, _, (leads_ren [(900, 10000000)] (l := [(2, .c (.ptr 900 0)), (3, .c (.bool false))]) (st' := [(900, .rc [.own 901 false, .int .i64 (0:Int)]), (901, .sl 140 (.pair (.int .i64) (.int .i64)) ([] : List (Int × Int)) .shallow)]) rfl rfl ⟨⟨⟨rfl, trivial⟩, rfl, trivial⟩, trivial, trivial⟩ ⟨⟨⟨rfl, rfl⟩, rfl⟩, .inr rfl, trivial⟩), he⟩
          · have he := ok_f he hb
            have he := ok_rq he
            refine And.intro he.1 ?_
            have he := he.2
            have he := ok_rq he
            refine And.intro he.1 ?_
            have he := he.2
            have he := ok_rq he
            refine And.intro he.1 ?_
            have he := he.2
            have he := ok_some he
            exact ⟨((i + (1:Int)), (i1.set r4_.toNat (a0.getD i.toNat 0))), he, (leads_ren [] (l := [(0, .c (.imm (.int .i64) a0)), (2, .c (.ptr 10000000 0)), (4, .c (.own 10000001 false)), (5, .c (.int .i64 (i + (1:Int))))]) (st' := [(10000000, .rc [.nil, .int .i64 (0:Int)]), (10000001, .sl 3 (.int .i64) (i1.set r4_.toNat (a0.getD i.toNat 0)) .shallow)]) rfl rfl ⟨⟨rfl, rfl, trivial⟩, ⟨rfl, rfl⟩, trivial⟩ ⟨.inl rfl, ⟨⟨rfl, rfl⟩, rfl⟩, ⟨⟨rfl, rfl⟩, trivial⟩, rfl, trivial⟩)⟩
      · have he := ok_f he hb
        exact ⟨i1, ok_up he, (leads_ren [(10001000, 10000000), (10001001, 10000001)] (l := [(2, .c (.ptr 10001000 0)), (4, .c (.own 10001001 false))]) (st' := [(10001000, .rc [.nil, .int .i64 (0:Int)]), (10001001, .sl 3 (.int .i64) i1 .shallow)]) rfl rfl ⟨⟨rfl, rfl, trivial⟩, ⟨rfl, rfl⟩, trivial⟩ ⟨⟨⟨rfl, rfl⟩, rfl⟩, ⟨⟨rfl, rfl⟩, trivial⟩, trivial⟩)⟩

noncomputable def c_spec_l12Lift : Con := fun args st => match args, st with
  | [.agg [.int .i64 s__0, .int .i64 s__1, .int .i64 s__2, .imm (.pair (.int .i64) (.int .i64)) s__3, .int .i64 s__4], .c (.imm (.int .i64) cube)], [] => .opt (Bool × Int × Int × Int × Int × (List (Int × Int))) (spec_l12Lift (s__0, (s__1, (s__2, (s__3, s__4)))) cube) (fun r => .ret (.tup [.agg [.int .i64 r.2.1, .int .i64 r.2.2.1, .int .i64 r.2.2.2.1, .own 901 false, .int .i64 r.2.2.2.2.1], .c (.bool r.1)]) [(900, .rc [.int .i64 r.2.1, .int .i64 r.2.2.1, .int .i64 r.2.2.2.1, .own 901 false, .int .i64 r.2.2.2.2.1]), (901, .sl 140 (.pair (.int .i64) (.int .i64)) r.2.2.2.2.2 .shallow)])
  | _, _ => .fail

noncomputable def C_spec_l12Lift : Cfg := { y := tys, n := 59, h := 0, tab := [(164, c_spec_ClauseOf), (230, c_spec_l12Clause)], cut := [8], hand := [], good := [], deep := [], sched := [] }

theorem t_spec_l12Lift : TabOk Try.prog C_spec_l12Lift := by
  refine tabOk_of ?_
  simp only [C_spec_l12Lift, List.forall_mem_cons]
  exact ⟨k_spec_ClauseOf, k_spec_l12Clause, fun p h => by cases h⟩

theorem k_spec_l12Lift : Entry Try.prog 159 c_spec_l12Lift := by
  refine entry_by (C := C_spec_l12Lift) mixed tys_ok t_spec_l12Lift (fn := Try.f159) (c := bd Try.f159) (by kernel_rfl) (by kernel_rfl) (by kernel_rfl) (by kernel_rfl) ?_
  intro args st k he
  unfold c_spec_l12Lift at he
  split at he
  rotate_left
  · exact he.elim
  rename_i s__0 s__1 s__2 s__3 s__4 cube
  have he : Ok (spec_l12Lift (s__0, (s__1, (s__2, (s__3, s__4)))) cube) (fun r => k (.tup [.agg [.int .i64 r.2.1, .int .i64 r.2.2.1, .int .i64 r.2.2.2.1, .own 901 false, .int .i64 r.2.2.2.2.1], .c (.bool r.1)]) [(900, .rc [.int .i64 r.2.1, .int .i64 r.2.2.1, .int .i64 r.2.2.2.1, .own 901 false, .int .i64 r.2.2.2.2.1]), (901, .sl 140 (.pair (.int .i64) (.int .i64)) r.2.2.2.2.2 .shallow)]) := he
  refine ⟨rfl, rfl, ?_⟩
  obtain ⟨r1_, hr, he⟩ := ok_bind he
  refine ⟨r1_, hr, ?_⟩
  refine And.intro (fun hb => ?_) (fun hb => ?_)
  · have he := ok_f he hb
    refine And.intro (fun hb => ?_) (fun hb => ?_)
    · have he := ok_f he hb
      refine And.intro (fun hb => ?_) (fun hb => ?_)
      · have he := ok_f he hb
        refine And.intro (fun hb => ?_) (fun hb => ?_)
        · have he := ok_t he hb
          have he := ok_some he
          exact ⟨rfl, _, _, (leads_ren [(900, 4)] (l := [(4, .c (.ptr 900 0)), (5, .c (.bool false))]) (st' := [(900, .rc [.int .i64 (0:Int), .int .i64 (0:Int), .int .i64 (0:Int), .own 901 false, .int .i64 (0:Int)]), (901, .sl 140 (.pair (.int .i64) (.int .i64)) ([] : List (Int × Int)) .shallow)]) rfl rfl ⟨⟨rfl, rfl, rfl, ⟨rfl, trivial⟩, rfl, trivial⟩, trivial, trivial⟩ ⟨⟨⟨rfl, rfl⟩, rfl⟩, .inr rfl, trivial⟩), he⟩
        · have he := ok_f he hb
          refine seq_model mixed tys_ok t_spec_l12Lift (S := (List Int)) (I := (fun lits1 => (envOf [(4, .c (.ptr 10001000 0)), (6, .c (.own 10001001 false))], [(10001000, .rc [.int .i64 (0:Int), .int .i64 (0:Int), .int .i64 (0:Int), .nil, .int .i64 (0:Int)]), (10001001, .sl 3 (.int .i64) lits1 .shallow)]))) (B := fun s => Ok (spec_l12Lift_j1 s) (fun r => k (.tup [.agg [.int .i64 r.2.1, .int .i64 r.2.2.1, .int .i64 r.2.2.2.1, .own 901 false, .int .i64 r.2.2.2.2.1], .c (.bool r.1)]) [(900, .rc [.int .i64 r.2.1, .int .i64 r.2.2.1, .int .i64 r.2.2.2.1, .own 901 false, .int .i64 r.2.2.2.2.1]), (901, .sl 140 (.pair (.int .i64) (.int .i64)) r.2.2.2.2.2 .shallow)])) ?_ ?_
          · rintro lits1 he
            obtain ⟨r2_, hr, he⟩ := ok_bind he
            refine ⟨r2_, hr, ?_⟩
            refine And.intro (fun hb => ?_) (fun hb => ?_)
            · have he := ok_t he hb
              have he := ok_some he
              exact ⟨rfl, _, _, (leads_ren [(900, 10001000)] (l := [(4, .c (.ptr 900 0)), (5, .c (.bool false))]) (st' := [(900, .rc [.int .i64 (0:Int), .int .i64 (0:Int), .int .i64 (0:Int), .own 901 false, .int .i64 (0:Int)]), (901, .sl 140 (.pair (.int .i64) (.int .i64)) ([] : List (Int × Int)) .shallow)]) rfl rfl ⟨⟨rfl, rfl, rfl, ⟨rfl, trivial⟩, rfl, trivial⟩, trivial, trivial⟩ ⟨⟨⟨rfl, rfl⟩, rfl⟩, .inr rfl, trivial⟩), he⟩
            · have he := ok_f he hb
              have he := ok_some he
              exact ⟨rfl, _, _, (leads_ren [(900, 10001000), (901, 52901)] (l := [(4, .c (.ptr 900 0)), (5, .c (.bool true))]) (st' := [(900, .rc [.int .i64 (7:Int), .int .i64 (0:Int), .int .i64 (0:Int), .own 901 false, .int .i64 r2_.2.1]), (901, .sl 140 (.pair (.int .i64) (.int .i64)) r2_.2.2 .shallow)]) rfl rfl ⟨⟨rfl, rfl, rfl, ⟨⟨rfl, rfl⟩, trivial⟩, rfl, trivial⟩, ⟨rfl, rfl⟩, trivial⟩ ⟨⟨⟨rfl, rfl⟩, rfl⟩, .inr rfl, trivial⟩), he⟩
          · skip
            refine loop_model mixed tys_ok t_spec_l12Lift (S := Int × (List Int)) (I := (fun (i, lits) => (envOf [(1, .c (.imm (.int .i64) cube)), (4, .c (.ptr 10000000 0)), (6, .c (.own 10000001 false)), (8, .c (.int .i64 i))], [(10000000, .rc [.int .i64 (0:Int), .int .i64 (0:Int), .int .i64 (0:Int), .nil, .int .i64 (0:Int)]), (10000001, .sl 3 (.int .i64) lits .shallow)]))) (f := spec_l12Lift_l1 cube) (K := (fun r => k (.tup [.agg [.int .i64 r.2.1, .int .i64 r.2.2.1, .int .i64 r.2.2.2.1, .own 901 false, .int .i64 r.2.2.2.2.1], .c (.bool r.1)]) [(900, .rc [.int .i64 r.2.1, .int .i64 r.2.2.1, .int .i64 r.2.2.2.1, .own 901 false, .int .i64 r.2.2.2.2.1]), (901, .sl 140 (.pair (.int .i64) (.int .i64)) r.2.2.2.2.2 .shallow)])) he (leads_ren [(10000000, 4), (10000001, 15900)] (l := [(1, .c (.imm (.int .i64) cube)), (4, .c (.ptr 10000000 0)), (6, .c (.own 10000001 false)), (8, .c (.int .i64 (0:Int)))]) (st' := [(10000000, .rc [.int .i64 (0:Int), .int .i64 (0:Int), .int .i64 (0:Int), .nil, .int .i64 (0:Int)]), (10000001, .sl 3 (.int .i64) r1_.2 .shallow)]) rfl rfl ⟨⟨rfl, rfl, rfl, rfl, rfl, trivial⟩, ⟨rfl, rfl⟩, trivial⟩ ⟨.inl rfl, ⟨⟨rfl, rfl⟩, rfl⟩, ⟨⟨rfl, rfl⟩, trivial⟩, rfl, trivial⟩) ?_
            rintro ⟨i, lits⟩ J1 he
            refine And.intro (fun hb => ?_) (fun hb => ?_)
            · have he := ok_t he hb
              have he := ok_rq he
              refine And.intro he.1 ?_
              have he := he.2
              have he := ok_rq he
              refine And.intro he.1 ?_
              have he := he.2
              have he := ok_rq he
              refine And.intro he.1 ?_
              have he := he.2
              have he := ok_rq he
              refine And.intro he.1 ?_
              have he := he.2
              have he := ok_some he
              exact ⟨((i + (1:Int)), (lits ++ [(0 - (cube.getD i.toNat 0))])), he, (leads_ren [(10000001, 48)] (l := [(1, .c (.imm (.int .i64) cube)), (4, .c (.ptr 10000000 0)), (6, .c (.own 10000001 false)), (8, .c (.int .i64 (i + (1:Int))))]) (st' := [(10000000, .rc [.int .i64 (0:Int), .int .i64 (0:Int), .int .i64 (0:Int), .nil, .int .i64 (0:Int)]), (10000001, .sl 3 (.int .i64) (lits ++ [(0 - (cube.getD i.toNat 0))]) .shallow)]) rfl rfl ⟨⟨rfl, rfl, rfl, rfl, rfl, trivial⟩, ⟨rfl, rfl⟩, trivial⟩ ⟨.inl rfl, ⟨⟨rfl, rfl⟩, rfl⟩, ⟨⟨rfl, rfl⟩, trivial⟩, rfl, trivial⟩)⟩
            · have he := ok_f he hb
              exact ⟨lits, ok_up he, (leads_ren [(10001000, 10000000), (10001001, 10000001)] (l := [(4, .c (.ptr 10001000 0)), (6, .c (.own 10001001 false))]) (st' := [(10001000, .rc [.int .i64 (0:Int), .int .i64 (0:Int), .int .i64 (0:Int), .nil, .int .i64 (0:Int)]), (10001001, .sl 3 (.int .i64) lits .shallow)]) rfl rfl ⟨⟨rfl, rfl, rfl, rfl, rfl, trivial⟩, ⟨rfl, rfl⟩, trivial⟩ ⟨⟨⟨rfl, rfl⟩, rfl⟩, ⟨⟨rfl, rfl⟩, trivial⟩, trivial⟩)⟩
      · have he := ok_t he hb
        have he := ok_some he
        exact ⟨rfl, _, _, (leads_ren [(900, 4)] (l := [(4, .c (.ptr 900 0)), (5, .c (.bool false))]) (st' := [(900, .rc [.int .i64 (0:Int), .int .i64 (0:Int), .int .i64 (0:Int), .own 901 false, .int .i64 (0:Int)]), (901, .sl 140 (.pair (.int .i64) (.int .i64)) ([] : List (Int × Int)) .shallow)]) rfl rfl ⟨⟨rfl, rfl, rfl, ⟨rfl, trivial⟩, rfl, trivial⟩, trivial, trivial⟩ ⟨⟨⟨rfl, rfl⟩, rfl⟩, .inr rfl, trivial⟩), he⟩
    · have he := ok_t he hb
      have he := ok_some he
      exact ⟨rfl, _, _, (leads_ren [(900, 4)] (l := [(4, .c (.ptr 900 0)), (5, .c (.bool false))]) (st' := [(900, .rc [.int .i64 (0:Int), .int .i64 (0:Int), .int .i64 (0:Int), .own 901 false, .int .i64 (0:Int)]), (901, .sl 140 (.pair (.int .i64) (.int .i64)) ([] : List (Int × Int)) .shallow)]) rfl rfl ⟨⟨rfl, rfl, rfl, ⟨rfl, trivial⟩, rfl, trivial⟩, trivial, trivial⟩ ⟨⟨⟨rfl, rfl⟩, rfl⟩, .inr rfl, trivial⟩), he⟩
  · have he := ok_t he hb
    have he := ok_some he
    exact ⟨rfl, _, _, (leads_ren [(900, 4)] (l := [(4, .c (.ptr 900 0)), (5, .c (.bool false))]) (st' := [(900, .rc [.int .i64 (0:Int), .int .i64 (0:Int), .int .i64 (0:Int), .own 901 false, .int .i64 (0:Int)]), (901, .sl 140 (.pair (.int .i64) (.int .i64)) ([] : List (Int × Int)) .shallow)]) rfl rfl ⟨⟨rfl, rfl, rfl, ⟨rfl, trivial⟩, rfl, trivial⟩, trivial, trivial⟩ ⟨⟨⟨rfl, rfl⟩, rfl⟩, .inr rfl, trivial⟩), he⟩

end Go.AE.Y
