/-
  Walks: each function keeps the contract that its model gives. No conditions.
-/
import Derived.Test.YtaeeiddjpigemaaGreatR7Tab
import Derived.Test.YtaeeiddjpigemaaGreatR7M
namespace Go.AE.Y
open Go Go.AE Go.Proofs
set_option linter.unusedVariables false
set_option maxHeartbeats 2000000
set_option maxRecDepth 100000

noncomputable def c_laws_szTermS : Con := fun args st => match args, st with
  | [.c (.imm (.pair (.int .i64) (.int .i64)) a), .c (.int .i64 left)], [] => .opt (Int) (laws_szTermS a left) (fun r => .ret (.c (.int .i64 r)) [])
  | _, _ => .fail

noncomputable def C_laws_szTermS : Cfg := { y := tys, n := 12, h := 0, tab := [], cut := [], hand := [], good := [], deep := [], sched := [] }

theorem t_laws_szTermS : TabOk Tryz.prog C_laws_szTermS := tabOk_of (fun p h => by cases h)

theorem k_laws_szTermS : Entry Tryz.prog 149 c_laws_szTermS := by
 refine entry_by (C := C_laws_szTermS) mixed tys_ok t_laws_szTermS (fn := Tryz.f149) (c := bd Tryz.f149) (by kernel_rfl) (by kernel_rfl) (by kernel_rfl) (by kernel_rfl) ?_
 intro args st k he
 unfold c_laws_szTermS at he
 split at he
 rotate_left
 ·exact he.elim
 rename_i a left
 have he : Ok (laws_szTermS a left) (fun r => k (.c (.int .i64 r)) []) := he
 refine ⟨rfl, rfl, ?_⟩
 refine go_rq he fun he => ?_
 refine go_if he (fun he => ?_) fun he => ?_
 ·have he := ok_some he
  exact ⟨rfl, _, _, Leads.refl _ _, he⟩
 ·have he := ok_some he
  exact ⟨rfl, _, _, Leads.refl _ _, he⟩

noncomputable def c_laws_szConstraint : Con := fun args st => match args, st with
  | [.agg [.imm (.pair (.int .i64) (.int .i64)) a_0, .int .i64 a_1], .c (.int .i64 left)], [] => .opt (Int) (laws_szConstraint (a_0, a_1) left) (fun r => .ret (.c (.int .i64 r)) [])
  | _, _ => .fail

noncomputable def C_laws_szConstraint : Cfg := { y := tys, n := 12, h := 0, tab := [(149, c_laws_szTermS)], cut := [], hand := [], good := [], deep := [], sched := [] }

theorem t_laws_szConstraint : TabOk Tryz.prog C_laws_szConstraint := by
  refine tabOk_of ?_
  simp only [C_laws_szConstraint, List.forall_mem_cons]
  exact ⟨k_laws_szTermS, fun p h => by cases h⟩

theorem k_laws_szConstraint : Entry Tryz.prog 89 c_laws_szConstraint := by
 refine entry_by (C := C_laws_szConstraint) mixed tys_ok t_laws_szConstraint (fn := Tryz.f89) (c := bd Tryz.f89) (by kernel_rfl) (by kernel_rfl) (by kernel_rfl) (by kernel_rfl) ?_
 intro args st k he
 unfold c_laws_szConstraint at he
 split at he
 rotate_left
 ·exact he.elim
 rename_i a_0 a_1 left
 have he : Ok (laws_szConstraint (a_0, a_1) left) (fun r => k (.c (.int .i64 r)) []) := he
 refine ⟨rfl, rfl, ?_⟩
 refine go_bind he fun r1_ he => ?_
 refine go_if he (fun he => ?_) fun he => ?_
 ·have he := ok_some he
  exact ⟨rfl, _, _, (leads_ren [] (l := [(4, .c (.int .i64 (-1:Int)))]) (st' := []) rfl rfl trivial ⟨rfl, trivial⟩), he⟩
 ·have he := ok_some he
  exact ⟨rfl, _, _, (leads_ren [] (l := [(4, .c (.int .i64 r1_))]) (st' := []) rfl rfl trivial ⟨rfl, trivial⟩), he⟩

noncomputable def c_laws_szConstraintS : Con := fun args st => match args, st with
  | [.c (.imm (.pair (.sl (.pair (.int .i64) (.int .i64))) (.int .i64)) a), .c (.int .i64 left)], [] => .opt (Int) (laws_szConstraintS a left) (fun r => .ret (.c (.int .i64 r)) [])
  | _, _ => .fail

noncomputable def C_laws_szConstraintS : Cfg := { y := tys, n := 27, h := 0, tab := [(89, c_laws_szConstraint)], cut := [], hand := [], good := [], deep := [], sched := [] }

theorem t_laws_szConstraintS : TabOk Tryz.prog C_laws_szConstraintS := by
  refine tabOk_of ?_
  simp only [C_laws_szConstraintS, List.forall_mem_cons]
  exact ⟨k_laws_szConstraint, fun p h => by cases h⟩

theorem k_laws_szConstraintS : Entry Tryz.prog 29 c_laws_szConstraintS := by
 refine entry_by (C := C_laws_szConstraintS) mixed tys_ok t_laws_szConstraintS (fn := Tryz.f29) (c := bd Tryz.f29) (by kernel_rfl) (by kernel_rfl) (by kernel_rfl) (by kernel_rfl) ?_
 intro args st k he
 unfold c_laws_szConstraintS at he
 split at he
 rotate_left
 ·exact he.elim
 rename_i a left
 have he : Ok (laws_szConstraintS a left) (fun r => k (.c (.int .i64 r)) []) := he
 refine ⟨rfl, rfl, ?_⟩
 refine go_rq he fun he => ?_
 refine go_if he (fun he => ?_) fun he => ?_
 ·have he := ok_some he
  exact ⟨rfl, _, _, Leads.refl _ _, he⟩
 ·refine loop_model mixed tys_ok t_laws_szConstraintS (S := Int × Int) (I := (fun (left1, i) => (envOf [(0, .c (.imm y2_ a)), (1, .c (.int .i64 left1)), (5, .c (.int .i64 i))], []))) (f := laws_szConstraintS_l1 a) (K := (fun r => k (.c (.int .i64 r)) [])) he (leads_ren [] rfl rfl trivial ⟨.inl rfl, rfl, rfl, trivial⟩) ?_
  rintro ⟨left1, i⟩ J1 he
  refine go_if he (fun he => ?_) fun he => ?_
  ·refine go_rq he fun he => ?_
   refine go_bind he fun r1_ he => ?_
   refine go_if he (fun he => ?_) fun he => ?_
   ·have he := ok_some he
    exact ⟨rfl, _, _, Leads.refl _ _, he⟩
   ·refine go_rq he fun he => ?_
    have he := ok_some he
    exact ⟨(r1_, (i + (1:Int))), he, (leads_ren [] rfl rfl trivial ⟨.inl rfl, rfl, rfl, trivial⟩)⟩
  ·have he := ok_some he
   exact ⟨rfl, _, _, Leads.refl _ _, he⟩

noncomputable def c_laws_szStep : Con := fun args st => match args, st with
  | [.agg [.int .i64 a_0, .int .i64 a_1, .int .i64 a_2, .imm (.pair (.int .i64) (.int .i64)) a_3, .int .i64 a_4], .c (.int .i64 left)], [] => .opt (Int) (laws_szStep (a_0, (a_1, (a_2, (a_3, a_4)))) left) (fun r => .ret (.c (.int .i64 r)) [])
  | _, _ => .fail

noncomputable def C_laws_szStep : Cfg := { y := tys, n := 12, h := 0, tab := [(89, c_laws_szConstraint)], cut := [], hand := [], good := [], deep := [], sched := [] }

theorem t_laws_szStep : TabOk Tryz.prog C_laws_szStep := by
  refine tabOk_of ?_
  simp only [C_laws_szStep, List.forall_mem_cons]
  exact ⟨k_laws_szConstraint, fun p h => by cases h⟩

theorem k_laws_szStep : Entry Tryz.prog 80 c_laws_szStep := by
 refine entry_by (C := C_laws_szStep) mixed tys_ok t_laws_szStep (fn := Tryz.f80) (c := bd Tryz.f80) (by kernel_rfl) (by kernel_rfl) (by kernel_rfl) (by kernel_rfl) ?_
 intro args st k he
 unfold c_laws_szStep at he
 split at he
 rotate_left
 ·exact he.elim
 rename_i a_0 a_1 a_2 a_3 a_4 left
 have he : Ok (laws_szStep (a_0, (a_1, (a_2, (a_3, a_4)))) left) (fun r => k (.c (.int .i64 r)) []) := he
 refine ⟨rfl, rfl, ?_⟩
 refine go_bind he fun r1_ he => ?_
 refine go_if he (fun he => ?_) fun he => ?_
 ·have he := ok_some he
  exact ⟨rfl, _, _, (leads_ren [] (l := [(4, .c (.int .i64 (-1:Int)))]) (st' := []) rfl rfl trivial ⟨rfl, trivial⟩), he⟩
 ·have he := ok_some he
  exact ⟨rfl, _, _, (leads_ren [] (l := [(4, .c (.int .i64 r1_))]) (st' := []) rfl rfl trivial ⟨rfl, trivial⟩), he⟩

noncomputable def c_laws_szStepS : Con := fun args st => match args, st with
  | [.c (.imm (.pair (.int .i64) (.pair (.int .i64) (.pair (.int .i64) (.pair (.sl (.pair (.int .i64) (.int .i64))) (.int .i64))))) a), .c (.int .i64 left)], [] => .opt (Int) (laws_szStepS a left) (fun r => .ret (.c (.int .i64 r)) [])
  | _, _ => .fail

noncomputable def C_laws_szStepS : Cfg := { y := tys, n := 27, h := 0, tab := [(80, c_laws_szStep)], cut := [], hand := [], good := [], deep := [], sched := [] }

theorem t_laws_szStepS : TabOk Tryz.prog C_laws_szStepS := by
  refine tabOk_of ?_
  simp only [C_laws_szStepS, List.forall_mem_cons]
  exact ⟨k_laws_szStep, fun p h => by cases h⟩

theorem k_laws_szStepS : Entry Tryz.prog 20 c_laws_szStepS := by
 refine entry_by (C := C_laws_szStepS) mixed tys_ok t_laws_szStepS (fn := Tryz.f20) (c := bd Tryz.f20) (by kernel_rfl) (by kernel_rfl) (by kernel_rfl) (by kernel_rfl) ?_
 intro args st k he
 unfold c_laws_szStepS at he
 split at he
 rotate_left
 ·exact he.elim
 rename_i a left
 have he : Ok (laws_szStepS a left) (fun r => k (.c (.int .i64 r)) []) := he
 refine ⟨rfl, rfl, ?_⟩
 refine go_rq he fun he => ?_
 refine go_if he (fun he => ?_) fun he => ?_
 ·have he := ok_some he
  exact ⟨rfl, _, _, Leads.refl _ _, he⟩
 ·refine loop_model mixed tys_ok t_laws_szStepS (S := Int × Int) (I := (fun (left1, i) => (envOf [(0, .c (.imm y5_ a)), (1, .c (.int .i64 left1)), (5, .c (.int .i64 i))], []))) (f := laws_szStepS_l1 a) (K := (fun r => k (.c (.int .i64 r)) [])) he (leads_ren [] rfl rfl trivial ⟨.inl rfl, rfl, rfl, trivial⟩) ?_
  rintro ⟨left1, i⟩ J1 he
  refine go_if he (fun he => ?_) fun he => ?_
  ·refine go_rq he fun he => ?_
   refine go_bind he fun r1_ he => ?_
   refine go_if he (fun he => ?_) fun he => ?_
   ·have he := ok_some he
    exact ⟨rfl, _, _, Leads.refl _ _, he⟩
   ·refine go_rq he fun he => ?_
    have he := ok_some he
    exact ⟨(r1_, (i + (1:Int))), he, (leads_ren [] rfl rfl trivial ⟨.inl rfl, rfl, rfl, trivial⟩)⟩
  ·have he := ok_some he
   exact ⟨rfl, _, _, Leads.refl _ _, he⟩

noncomputable def c_laws_toTerm : Con := fun args st => match args, st with
  | [.agg [.int .i64 a_0, .int .i64 a_1]], [] => .opt (D1_) (laws_toTerm (a_0, a_1)) (fun r => .ret (.agg [.int .i64 r.1, .int .i64 r.2]) [(900, .rc [.int .i64 r.1, .int .i64 r.2])])
  | _, _ => .fail

noncomputable def C_laws_toTerm : Cfg := { y := tys, n := 11, h := 0, tab := [], cut := [], hand := [], good := [], deep := [], sched := [] }

theorem t_laws_toTerm : TabOk Tryz.prog C_laws_toTerm := tabOk_of (fun p h => by cases h)

theorem k_laws_toTerm : Entry Tryz.prog 217 c_laws_toTerm := by
 refine entry_by (C := C_laws_toTerm) mixed tys_ok t_laws_toTerm (fn := Tryz.f217) (c := bd Tryz.f217) (by kernel_rfl) (by kernel_rfl) (by kernel_rfl) (by kernel_rfl) ?_
 intro args st k he
 unfold c_laws_toTerm at he
 split at he
 rotate_left
 ·exact he.elim
 rename_i a_0 a_1
 have he : Ok (laws_toTerm (a_0, a_1)) (fun r => k (.agg [.int .i64 r.1, .int .i64 r.2]) [(900, .rc [.int .i64 r.1, .int .i64 r.2])]) := he
 refine ⟨rfl, rfl, ?_⟩
 have he := ok_some he
 exact ⟨rfl, _, _, (leads_ren [(900, 2)] (l := [(2, .c (.ptr 900 0))]) (st' := [(900, .rc [.int .i64 (a_0, a_1).1, .int .i64 (a_0, a_1).2])]) rfl rfl ⟨⟨rfl, rfl, trivial⟩, trivial⟩ ⟨⟨⟨rfl, rfl⟩, rfl⟩, trivial⟩), he⟩

noncomputable def c_laws_toTermS : Con := fun args st => match args, st with
  | [.c (.imm (.pair (.int .i64) (.int .i64)) a)], [] => .opt ((List D1_)) (laws_toTermS a) (fun r => .ret (.c (.own 900 false)) [(900, .sl 155 y1_ r .shallow)])
  | _, _ => .fail

noncomputable def C_laws_toTermS : Cfg := { y := tys, n := 23, h := 0, tab := [(217, c_laws_toTerm)], cut := [], hand := [], good := [], deep := [], sched := [] }

theorem t_laws_toTermS : TabOk Tryz.prog C_laws_toTermS := by
  refine tabOk_of ?_
  simp only [C_laws_toTermS, List.forall_mem_cons]
  exact ⟨k_laws_toTerm, fun p h => by cases h⟩

theorem k_laws_toTermS : Entry Tryz.prog 154 c_laws_toTermS := by
 refine entry_by (C := C_laws_toTermS) mixed tys_ok t_laws_toTermS (fn := Tryz.f154) (c := bd Tryz.f154) (by kernel_rfl) (by kernel_rfl) (by kernel_rfl) (by kernel_rfl) ?_
 intro args st k he
 unfold c_laws_toTermS at he
 split at he
 rotate_left
 ·exact he.elim
 rename_i a
 have he : Ok (laws_toTermS a) (fun r => k (.c (.own 900 false)) [(900, .sl 155 y1_ r .shallow)]) := he
 refine ⟨rfl, rfl, ?_⟩
 refine go_rq he fun he => ?_
 refine loop_model mixed tys_ok t_laws_toTermS (S := Int × (List D1_)) (I := (fun (i, out) => (envOf [(0, .c (.imm y1_ a)), (3, .c (.own 10000000 false)), (4, .c (.int .i64 i))], [(10000000, .sl 155 y1_ out .shallow)]))) (f := laws_toTermS_l1 a) (K := (fun r => k (.c (.own 900 false)) [(900, .sl 155 y1_ r .shallow)])) he (leads_ren [(10000000, 7)] rfl rfl ⟨⟨rfl, rfl⟩, trivial⟩ ⟨.inl rfl, ⟨⟨rfl, rfl⟩, trivial⟩, rfl, trivial⟩) ?_
 rintro ⟨i, out⟩ J1 he
 refine go_if he (fun he => ?_) fun he => ?_
 ·refine go_rq he fun he => ?_
  refine go_bind he fun r2_ he => ?_
  refine go_rq he fun he => ?_
  refine go_rq he fun he => ?_
  have he := ok_some he
  exact ⟨((i + (1:Int)), (out.set i.toNat r2_)), he, (leads_ren [] rfl rfl ⟨⟨rfl, rfl⟩, trivial⟩ ⟨.inl rfl, ⟨⟨rfl, rfl⟩, trivial⟩, rfl, trivial⟩)⟩
 ·have he := ok_some he
  exact ⟨rfl, _, _, (leads_ren [(900, 10000000)] (l := [(2, .c (.own 900 false))]) (st' := [(900, .sl 155 y1_ out .shallow)]) rfl rfl ⟨⟨rfl, rfl⟩, trivial⟩ ⟨⟨⟨rfl, rfl⟩, trivial⟩, trivial⟩), he⟩

noncomputable def c_laws_toConstraint : Con := fun args st => match args, st with
  | [.agg [.imm (.pair (.int .i64) (.int .i64)) a_0, .int .i64 a_1]], [] => .opt (Int × (List D1_)) (laws_toConstraint (a_0, a_1)) (fun r => .ret (.agg [.own 901 false, .int .i64 r.1]) [(900, .rc [.own 901 false, .int .i64 r.1]), (901, .sl 155 y1_ r.2 .shallow)])
  | _, _ => .fail

noncomputable def C_laws_toConstraint : Cfg := { y := tys, n := 12, h := 0, tab := [(154, c_laws_toTermS)], cut := [], hand := [], good := [], deep := [], sched := [] }

theorem t_laws_toConstraint : TabOk Tryz.prog C_laws_toConstraint := by
  refine tabOk_of ?_
  simp only [C_laws_toConstraint, List.forall_mem_cons]
  exact ⟨k_laws_toTermS, fun p h => by cases h⟩

theorem k_laws_toConstraint : Entry Tryz.prog 93 c_laws_toConstraint := by
 refine entry_by (C := C_laws_toConstraint) mixed tys_ok t_laws_toConstraint (fn := Tryz.f93) (c := bd Tryz.f93) (by kernel_rfl) (by kernel_rfl) (by kernel_rfl) (by kernel_rfl) ?_
 intro args st k he
 unfold c_laws_toConstraint at he
 split at he
 rotate_left
 ·exact he.elim
 rename_i a_0 a_1
 have he : Ok (laws_toConstraint (a_0, a_1)) (fun r => k (.agg [.own 901 false, .int .i64 r.1]) [(900, .rc [.own 901 false, .int .i64 r.1]), (901, .sl 155 y1_ r.2 .shallow)]) := he
 refine ⟨rfl, rfl, ?_⟩
 refine go_bind he fun r1_ he => ?_
 have he := ok_some he
 exact ⟨rfl, _, _, (leads_ren [(900, 2), (901, 7900)] (l := [(2, .c (.ptr 900 0))]) (st' := [(900, .rc [.own 901 false, .int .i64 (a_0, a_1).2]), (901, .sl 155 y1_ r1_ .shallow)]) rfl rfl ⟨⟨⟨⟨rfl, rfl⟩, trivial⟩, rfl, trivial⟩, ⟨rfl, rfl⟩, trivial⟩ ⟨⟨⟨rfl, rfl⟩, rfl⟩, trivial⟩), he⟩

noncomputable def c_laws_toConstraintS : Con := fun args st => match args, st with
  | [.c (.imm (.pair (.sl (.pair (.int .i64) (.int .i64))) (.int .i64)) a)], [] => .opt ((List D2_)) (laws_toConstraintS a) (fun r => .ret (.c (.own 900 false)) [(900, .sl 89 y2_ r (.deep true .no))])
  | _, _ => .fail

noncomputable def C_laws_toConstraintS : Cfg := { y := tys, n := 23, h := 0, tab := [(93, c_laws_toConstraint)], cut := [], hand := [], good := [], deep := [7], sched := [] }

theorem t_laws_toConstraintS : TabOk Tryz.prog C_laws_toConstraintS := by
  refine tabOk_of ?_
  simp only [C_laws_toConstraintS, List.forall_mem_cons]
  exact ⟨k_laws_toConstraint, fun p h => by cases h⟩

theorem k_laws_toConstraintS : Entry Tryz.prog 31 c_laws_toConstraintS := by
 refine entry_by (C := C_laws_toConstraintS) mixed tys_ok t_laws_toConstraintS (fn := Tryz.f31) (c := bd Tryz.f31) (by kernel_rfl) (by kernel_rfl) (by kernel_rfl) (by kernel_rfl) ?_
 intro args st k he
 unfold c_laws_toConstraintS at he
 split at he
 rotate_left
 ·exact he.elim
 rename_i a
 have he : Ok (laws_toConstraintS a) (fun r => k (.c (.own 900 false)) [(900, .sl 89 y2_ r (.deep true .no))]) := he
 refine ⟨rfl, rfl, ?_⟩
 refine go_rq he fun he => ?_
 refine loop_model mixed tys_ok t_laws_toConstraintS (S := Int × (List D2_)) (I := (fun (i, out) => (envOf [(0, .c (.imm y2_ a)), (3, .c (.own 10000000 false)), (4, .c (.int .i64 i))], [(10000000, .sl 89 y2_ out (.deep true .no))]))) (f := laws_toConstraintS_l1 a) (K := (fun r => k (.c (.own 900 false)) [(900, .sl 89 y2_ r (.deep true .no))])) he (leads_ren [(10000000, 7)] rfl rfl ⟨⟨rfl, rfl⟩, trivial⟩ ⟨.inl rfl, ⟨⟨rfl, rfl⟩, trivial⟩, rfl, trivial⟩) ?_
 rintro ⟨i, out⟩ J1 he
 refine go_if he (fun he => ?_) fun he => ?_
 ·refine go_rq he fun he => ?_
  refine go_bind he fun r2_ he => ?_
  refine go_rq he fun he => ?_
  refine go_rq he fun he => ?_
  have he := ok_some he
  exact ⟨((i + (1:Int)), (out.set i.toNat (r2_.2, r2_.1))), he, (leads_ren [] rfl rfl ⟨⟨rfl, rfl⟩, trivial⟩ ⟨.inl rfl, ⟨⟨rfl, rfl⟩, trivial⟩, rfl, trivial⟩)⟩
 ·have he := ok_some he
  exact ⟨rfl, _, _, (leads_ren [(900, 10000000)] (l := [(2, .c (.own 900 false))]) (st' := [(900, .sl 89 y2_ out (.deep true .no))]) rfl rfl ⟨⟨rfl, rfl⟩, trivial⟩ ⟨⟨⟨rfl, rfl⟩, trivial⟩, trivial⟩), he⟩

noncomputable def c_laws_toStep : Con := fun args st => match args, st with
  | [.agg [.int .i64 a_0, .int .i64 a_1, .int .i64 a_2, .imm (.pair (.int .i64) (.int .i64)) a_3, .int .i64 a_4]], [] => .opt (Int × Int × Int × Int × (List D1_)) (laws_toStep (a_0, (a_1, (a_2, (a_3, a_4))))) (fun r => .ret (.agg [.int .i64 r.1, .int .i64 r.2.1, .int .i64 r.2.2.1, .own 901 false, .int .i64 r.2.2.2.1]) [(900, .rc [.int .i64 r.1, .int .i64 r.2.1, .int .i64 r.2.2.1, .own 901 false, .int .i64 r.2.2.2.1]), (901, .sl 155 y1_ r.2.2.2.2 .shallow)])
  | _, _ => .fail

noncomputable def C_laws_toStep : Cfg := { y := tys, n := 18, h := 0, tab := [(93, c_laws_toConstraint)], cut := [], hand := [], good := [], deep := [], sched := [] }

theorem t_laws_toStep : TabOk Tryz.prog C_laws_toStep := by
  refine tabOk_of ?_
  simp only [C_laws_toStep, List.forall_mem_cons]
  exact ⟨k_laws_toConstraint, fun p h => by cases h⟩

theorem k_laws_toStep : Entry Tryz.prog 84 c_laws_toStep := by
 refine entry_by (C := C_laws_toStep) mixed tys_ok t_laws_toStep (fn := Tryz.f84) (c := bd Tryz.f84) (by kernel_rfl) (by kernel_rfl) (by kernel_rfl) (by kernel_rfl) ?_
 intro args st k he
 unfold c_laws_toStep at he
 split at he
 rotate_left
 ·exact he.elim
 rename_i a_0 a_1 a_2 a_3 a_4
 have he : Ok (laws_toStep (a_0, (a_1, (a_2, (a_3, a_4))))) (fun r => k (.agg [.int .i64 r.1, .int .i64 r.2.1, .int .i64 r.2.2.1, .own 901 false, .int .i64 r.2.2.2.1]) [(900, .rc [.int .i64 r.1, .int .i64 r.2.1, .int .i64 r.2.2.1, .own 901 false, .int .i64 r.2.2.2.1]), (901, .sl 155 y1_ r.2.2.2.2 .shallow)]) := he
 refine ⟨rfl, rfl, ?_⟩
 refine go_bind he fun r1_ he => ?_
 have he := ok_some he
 exact ⟨rfl, _, _, (leads_ren [(900, 2), (901, 16901)] (l := [(2, .c (.ptr 900 0))]) (st' := [(900, .rc [.int .i64 (a_0, (a_1, (a_2, (a_3, a_4)))).1, .int .i64 (a_0, (a_1, (a_2, (a_3, a_4)))).2.1, .int .i64 (a_0, (a_1, (a_2, (a_3, a_4)))).2.2.1, .own 901 false, .int .i64 r1_.1]), (901, .sl 155 y1_ r1_.2 .shallow)]) rfl rfl ⟨⟨rfl, rfl, rfl, ⟨⟨rfl, rfl⟩, trivial⟩, rfl, trivial⟩, ⟨rfl, rfl⟩, trivial⟩ ⟨⟨⟨rfl, rfl⟩, rfl⟩, trivial⟩), he⟩

noncomputable def c_laws_toStepS : Con := fun args st => match args, st with
  | [.c (.imm (.pair (.int .i64) (.pair (.int .i64) (.pair (.int .i64) (.pair (.sl (.pair (.int .i64) (.int .i64))) (.int .i64))))) a)], [] => .opt ((List D5_)) (laws_toStepS a) (fun r => .ret (.c (.own 900 false)) [(900, .sl 96 y5_ r (.deep true .no))])
  | _, _ => .fail

noncomputable def C_laws_toStepS : Cfg := { y := tys, n := 23, h := 0, tab := [(84, c_laws_toStep)], cut := [], hand := [], good := [], deep := [7], sched := [] }

theorem t_laws_toStepS : TabOk Tryz.prog C_laws_toStepS := by
  refine tabOk_of ?_
  simp only [C_laws_toStepS, List.forall_mem_cons]
  exact ⟨k_laws_toStep, fun p h => by cases h⟩

theorem k_laws_toStepS : Entry Tryz.prog 24 c_laws_toStepS := by
 refine entry_by (C := C_laws_toStepS) mixed tys_ok t_laws_toStepS (fn := Tryz.f24) (c := bd Tryz.f24) (by kernel_rfl) (by kernel_rfl) (by kernel_rfl) (by kernel_rfl) ?_
 intro args st k he
 unfold c_laws_toStepS at he
 split at he
 rotate_left
 ·exact he.elim
 rename_i a
 have he : Ok (laws_toStepS a) (fun r => k (.c (.own 900 false)) [(900, .sl 96 y5_ r (.deep true .no))]) := he
 refine ⟨rfl, rfl, ?_⟩
 refine go_rq he fun he => ?_
 refine loop_model mixed tys_ok t_laws_toStepS (S := Int × (List D5_)) (I := (fun (i, out) => (envOf [(0, .c (.imm y5_ a)), (3, .c (.own 10000000 false)), (4, .c (.int .i64 i))], [(10000000, .sl 96 y5_ out (.deep true .no))]))) (f := laws_toStepS_l1 a) (K := (fun r => k (.c (.own 900 false)) [(900, .sl 96 y5_ r (.deep true .no))])) he (leads_ren [(10000000, 7)] rfl rfl ⟨⟨rfl, rfl⟩, trivial⟩ ⟨.inl rfl, ⟨⟨rfl, rfl⟩, trivial⟩, rfl, trivial⟩) ?_
 rintro ⟨i, out⟩ J1 he
 refine go_if he (fun he => ?_) fun he => ?_
 ·refine go_rq he fun he => ?_
  refine go_bind he fun r2_ he => ?_
  refine go_rq he fun he => ?_
  refine go_rq he fun he => ?_
  have he := ok_some he
  exact ⟨((i + (1:Int)), (out.set i.toNat (r2_.1, (r2_.2.1, (r2_.2.2.1, (r2_.2.2.2.2, r2_.2.2.2.1)))))), he, (leads_ren [] rfl rfl ⟨⟨rfl, rfl⟩, trivial⟩ ⟨.inl rfl, ⟨⟨rfl, rfl⟩, trivial⟩, rfl, trivial⟩)⟩
 ·have he := ok_some he
  exact ⟨rfl, _, _, (leads_ren [(900, 10000000)] (l := [(2, .c (.own 900 false))]) (st' := [(900, .sl 96 y5_ out (.deep true .no))]) rfl rfl ⟨⟨rfl, rfl⟩, trivial⟩ ⟨⟨⟨rfl, rfl⟩, trivial⟩, trivial⟩), he⟩

noncomputable def c_spec_l1Lit : Con := fun args st => match args, st with
  | [.c (.int .i64 n)], [] => .opt (Bool) (spec_l1Lit n) (fun r => .ret (.c (.bool r)) [])
  | _, _ => .fail

noncomputable def C_spec_l1Lit : Cfg := { y := tys, n := 13, h := 0, tab := [], cut := [], hand := [], good := [], deep := [], sched := [] }

theorem t_spec_l1Lit : TabOk Tryz.prog C_spec_l1Lit := tabOk_of (fun p h => by cases h)

theorem k_spec_l1Lit : Entry Tryz.prog 228 c_spec_l1Lit := by
 refine entry_by (C := C_spec_l1Lit) mixed tys_ok t_spec_l1Lit (fn := Tryz.f228) (c := bd Tryz.f228) (by kernel_rfl) (by kernel_rfl) (by kernel_rfl) (by kernel_rfl) ?_
 intro args st k he
 unfold c_spec_l1Lit at he
 split at he
 rotate_left
 ·exact he.elim
 rename_i n
 have he : Ok (spec_l1Lit n) (fun r => k (.c (.bool r)) []) := he
 refine ⟨rfl, rfl, ?_⟩
 refine go_if he (fun he => ?_) fun he => ?_
 ·refine go_if he (fun he => ?_) fun he => ?_
  ·have he := ok_some he
   exact ⟨rfl, _, _, Leads.refl _ _, he⟩
  ·have he := ok_some he
   exact ⟨rfl, _, _, Leads.refl _ _, he⟩
 ·have he := ok_some he
  exact ⟨rfl, _, _, Leads.refl _ _, he⟩

noncomputable def c_spec_l1Abs : Con := fun args st => match args, st with
  | [.c (.int .i64 n)], [] => .opt (Int) (spec_l1Abs n) (fun r => .ret (.c (.int .i64 r)) [])
  | _, _ => .fail

noncomputable def C_spec_l1Abs : Cfg := { y := tys, n := 8, h := 0, tab := [], cut := [], hand := [], good := [], deep := [], sched := [] }

theorem t_spec_l1Abs : TabOk Tryz.prog C_spec_l1Abs := tabOk_of (fun p h => by cases h)

theorem k_spec_l1Abs : Entry Tryz.prog 229 c_spec_l1Abs := by
 refine entry_by (C := C_spec_l1Abs) mixed tys_ok t_spec_l1Abs (fn := Tryz.f229) (c := bd Tryz.f229) (by kernel_rfl) (by kernel_rfl) (by kernel_rfl) (by kernel_rfl) ?_
 intro args st k he
 unfold c_spec_l1Abs at he
 split at he
 rotate_left
 ·exact he.elim
 rename_i n
 have he : Ok (spec_l1Abs n) (fun r => k (.c (.int .i64 r)) []) := he
 refine ⟨rfl, rfl, ?_⟩
 refine go_if he (fun he => ?_) fun he => ?_
 ·refine go_rq he fun he => ?_
  have he := ok_some he
  exact ⟨rfl, _, _, Leads.refl _ _, he⟩
 ·have he := ok_some he
  exact ⟨rfl, _, _, Leads.refl _ _, he⟩

noncomputable def c_spec_ConstraintValid : Con := fun args st => match args, st with
  | [.agg [.imm (.pair (.int .i64) (.int .i64)) c__0, .int .i64 c__1]], [] => .opt (Bool) (spec_ConstraintValid (c__0, c__1)) (fun r => .ret (.c (.bool r)) [])
  | _, _ => .fail

noncomputable def C_spec_ConstraintValid : Cfg := { y := tys, n := 57, h := 0, tab := [(228, c_spec_l1Lit), (229, c_spec_l1Abs)], cut := [], hand := [], good := [], deep := [], sched := [(5, (.first 0 (.alt 1 (.alt 2 (.first 3 (.first 4 (.first 5 (.alt 6 (.first 7 (.first 8 (.first 9 (.first 10 (.alt 11 (.first 12 (.first 13 (.first 14 (.first 15 (.first 16 (.first 17 (.first 18 (.first 20 (.first 21 (.first 26 (.alt 19 (.first 22 (.first 23 (.first 24 (.alt 25 (.alt 27 (.alt 28 (.first 29 (.first 30 (.first 31 .done))) .stop) .stop) (.alt 27 (.alt 25 (.alt 28 (.first 29 (.first 30 (.first 31 .done))) .stop) .stop) .stop))))) (.alt 27 (.alt 19 (.first 22 (.first 23 (.first 24 (.alt 25 (.alt 28 (.first 29 (.first 30 (.first 31 .done))) .stop) .stop)))) .stop) .stop)))))))))))) .stop))))) .stop)))) .stop) .stop)))] }

theorem t_spec_ConstraintValid : TabOk Tryz.prog C_spec_ConstraintValid := by
  refine tabOk_of ?_
  simp only [C_spec_ConstraintValid, List.forall_mem_cons]
  exact ⟨k_spec_l1Lit, k_spec_l1Abs, fun p h => by cases h⟩

theorem k_spec_ConstraintValid : Entry Tryz.prog 168 c_spec_ConstraintValid := by
 refine entry_by (C := C_spec_ConstraintValid) mixed tys_ok t_spec_ConstraintValid (fn := Tryz.f168) (c := bd Tryz.f168) (by kernel_rfl) (by kernel_rfl) (by kernel_rfl) (by kernel_rfl) ?_
 intro args st k he
 unfold c_spec_ConstraintValid at he
 split at he
 rotate_left
 ·exact he.elim
 rename_i c__0 c__1
 have he : Ok (spec_ConstraintValid (c__0, c__1)) (fun r => k (.c (.bool r)) []) := he
 refine ⟨rfl, rfl, ?_⟩
 refine loop_model mixed tys_ok t_spec_ConstraintValid (S := Int) (I := (fun i => (envOf [(1, .c (.ptr 10000000 0)), (3, .c (.int .i64 i))], [(10000000, .rc [.imm y1_ (c__0, c__1).1, .int .i64 (c__0, c__1).2])]))) (f := spec_ConstraintValid_l1 (c__0, c__1)) (K := (fun r => k (.c (.bool r)) [])) he (leads_ren [(10000000, 1)] rfl rfl ⟨⟨.inl rfl, rfl, trivial⟩, trivial⟩ ⟨⟨⟨rfl, rfl⟩, rfl⟩, rfl, trivial⟩) ?_
 rintro i J1 he
 refine go_if he (fun he => ?_) fun he => ?_
 ·refine go_rq he fun he => ?_
  refine And.intro (by kernel_rfl) ?_
  refine And.intro ?_ trivial
  refine And.intro ?_ trivial
  refine go_bind he fun r4_ he => ?_
  refine go_if2 he (fun he => ?_) fun he => ?_
  ·refine And.intro ?_ trivial
   refine go_if2 he (fun he => ?_) fun he => ?_
   ·refine And.intro ?_ trivial
    refine go_if2 he (fun he => ?_) fun he => ?_
    ·refine go_if he (fun he => ?_) fun he => ?_
     ·refine go_rq he fun he => ?_
      have he := ok_rq he
      have hq1 := he.1
      have he := he.2
      obtain ⟨r5_, hq2, he⟩ := ok_bind he
      obtain ⟨r6_, hq3, he⟩ := ok_bind he
      refine And.intro ?_ (And.intro ?_ (trivial))
      ·skip
       refine And.intro hq1 ?_
       refine And.intro ?_ (And.intro ?_ (trivial))
       ·skip
        refine ⟨r5_, hq2, ?_⟩
        refine And.intro ?_ trivial
        refine And.intro ?_ trivial
        refine ⟨r6_, hq3, ?_⟩
        refine go_if he (fun he => ?_) fun he => ?_
        ·have he := ok_some he
         exact ⟨rfl, _, _, (leads_ren [] (l := [(2, .c (.bool false))]) (st' := []) rfl rfl trivial ⟨.inr rfl, trivial⟩), he⟩
        ·refine go_rq he fun he => ?_
         have he := ok_some he
         exact ⟨(i + (1:Int)), he, (leads_ren [] rfl rfl ⟨⟨.inl rfl, rfl, trivial⟩, trivial⟩ ⟨⟨⟨rfl, rfl⟩, rfl⟩, rfl, trivial⟩)⟩
       ·skip
        refine And.intro ?_ trivial
        refine ⟨r5_, hq2, ?_⟩
        refine And.intro ?_ trivial
        refine ⟨r6_, hq3, ?_⟩
        refine go_if he (fun he => ?_) fun he => ?_
        ·have he := ok_some he
         exact ⟨rfl, _, _, (leads_ren [] (l := [(2, .c (.bool false))]) (st' := []) rfl rfl trivial ⟨.inr rfl, trivial⟩), he⟩
        ·refine go_rq he fun he => ?_
         have he := ok_some he
         exact ⟨(i + (1:Int)), he, (leads_ren [] rfl rfl ⟨⟨.inl rfl, rfl, trivial⟩, trivial⟩ ⟨⟨⟨rfl, rfl⟩, rfl⟩, rfl, trivial⟩)⟩
      ·skip
       refine And.intro ?_ trivial
       refine And.intro hq1 ?_
       refine And.intro ?_ trivial
       refine ⟨r5_, hq2, ?_⟩
       refine And.intro ?_ trivial
       refine ⟨r6_, hq3, ?_⟩
       refine go_if he (fun he => ?_) fun he => ?_
       ·have he := ok_some he
        exact ⟨rfl, _, _, (leads_ren [] (l := [(2, .c (.bool false))]) (st' := []) rfl rfl trivial ⟨.inr rfl, trivial⟩), he⟩
       ·refine go_rq he fun he => ?_
        have he := ok_some he
        exact ⟨(i + (1:Int)), he, (leads_ren [] rfl rfl ⟨⟨.inl rfl, rfl, trivial⟩, trivial⟩ ⟨⟨⟨rfl, rfl⟩, rfl⟩, rfl, trivial⟩)⟩
     ·refine And.intro ?_ (And.intro ?_ (trivial))
      ·skip
       refine And.intro ?_ (And.intro ?_ (trivial))
       ·skip
        refine And.intro ?_ trivial
        refine And.intro ?_ trivial
        refine go_rq he fun he => ?_
        have he := ok_some he
        exact ⟨(i + (1:Int)), he, (leads_ren [] rfl rfl ⟨⟨.inl rfl, rfl, trivial⟩, trivial⟩ ⟨⟨⟨rfl, rfl⟩, rfl⟩, rfl, trivial⟩)⟩
       ·skip
        refine And.intro ?_ trivial
        refine And.intro ?_ trivial
        refine go_rq he fun he => ?_
        have he := ok_some he
        exact ⟨(i + (1:Int)), he, (leads_ren [] rfl rfl ⟨⟨.inl rfl, rfl, trivial⟩, trivial⟩ ⟨⟨⟨rfl, rfl⟩, rfl⟩, rfl, trivial⟩)⟩
      ·skip
       refine And.intro ?_ trivial
       refine And.intro ?_ trivial
       refine And.intro ?_ trivial
       refine go_rq he fun he => ?_
       have he := ok_some he
       exact ⟨(i + (1:Int)), he, (leads_ren [] rfl rfl ⟨⟨.inl rfl, rfl, trivial⟩, trivial⟩ ⟨⟨⟨rfl, rfl⟩, rfl⟩, rfl, trivial⟩)⟩
    ·refine And.intro ?_ (And.intro ?_ (trivial))
     ·skip
      refine And.intro ?_ (And.intro ?_ (trivial))
      ·skip
       refine And.intro ?_ trivial
       refine And.intro ?_ trivial
       have he := ok_some he
       exact ⟨rfl, _, _, (leads_ren [] (l := [(2, .c (.bool false))]) (st' := []) rfl rfl trivial ⟨.inr rfl, trivial⟩), he⟩
      ·skip
       refine And.intro ?_ trivial
       refine And.intro ?_ trivial
       have he := ok_some he
       exact ⟨rfl, _, _, (leads_ren [] (l := [(2, .c (.bool false))]) (st' := []) rfl rfl trivial ⟨.inr rfl, trivial⟩), he⟩
     ·skip
      refine And.intro ?_ trivial
      refine And.intro ?_ trivial
      refine And.intro ?_ trivial
      have he := ok_some he
      exact ⟨rfl, _, _, (leads_ren [] (l := [(2, .c (.bool false))]) (st' := []) rfl rfl trivial ⟨.inr rfl, trivial⟩), he⟩
   ·refine And.intro ?_ trivial
    refine And.intro ?_ (And.intro ?_ (trivial))
    ·skip
     refine And.intro ?_ (And.intro ?_ (trivial))
     ·skip
      refine And.intro ?_ trivial
      refine And.intro ?_ trivial
      have he := ok_some he
      exact ⟨rfl, _, _, (leads_ren [] (l := [(2, .c (.bool false))]) (st' := []) rfl rfl trivial ⟨.inr rfl, trivial⟩), he⟩
     ·skip
      refine And.intro ?_ trivial
      refine And.intro ?_ trivial
      have he := ok_some he
      exact ⟨rfl, _, _, (leads_ren [] (l := [(2, .c (.bool false))]) (st' := []) rfl rfl trivial ⟨.inr rfl, trivial⟩), he⟩
    ·skip
     refine And.intro ?_ trivial
     refine And.intro ?_ trivial
     refine And.intro ?_ trivial
     have he := ok_some he
     exact ⟨rfl, _, _, (leads_ren [] (l := [(2, .c (.bool false))]) (st' := []) rfl rfl trivial ⟨.inr rfl, trivial⟩), he⟩
  ·refine And.intro ?_ trivial
   refine And.intro ?_ trivial
   refine And.intro ?_ (And.intro ?_ (trivial))
   ·skip
    refine And.intro ?_ (And.intro ?_ (trivial))
    ·skip
     refine And.intro ?_ trivial
     refine And.intro ?_ trivial
     have he := ok_some he
     exact ⟨rfl, _, _, (leads_ren [] (l := [(2, .c (.bool false))]) (st' := []) rfl rfl trivial ⟨.inr rfl, trivial⟩), he⟩
    ·skip
     refine And.intro ?_ trivial
     refine And.intro ?_ trivial
     have he := ok_some he
     exact ⟨rfl, _, _, (leads_ren [] (l := [(2, .c (.bool false))]) (st' := []) rfl rfl trivial ⟨.inr rfl, trivial⟩), he⟩
   ·skip
    refine And.intro ?_ trivial
    refine And.intro ?_ trivial
    refine And.intro ?_ trivial
    have he := ok_some he
    exact ⟨rfl, _, _, (leads_ren [] (l := [(2, .c (.bool false))]) (st' := []) rfl rfl trivial ⟨.inr rfl, trivial⟩), he⟩
 ·refine go_if he (fun he => ?_) fun he => ?_
  ·have he := ok_some he
   exact ⟨rfl, _, _, (leads_ren [] (l := [(2, .c (.bool (decide ((c__0, c__1).2 ≤ (20000:Int)))))]) (st' := []) rfl rfl trivial ⟨.inl rfl, trivial⟩), he⟩
  ·have he := ok_some he
   exact ⟨rfl, _, _, (leads_ren [] (l := [(2, .c (.bool false))]) (st' := []) rfl rfl trivial ⟨.inr rfl, trivial⟩), he⟩

noncomputable def c_spec_ProblemValid : Con := fun args st => match args, st with
  | [.c (.imm (.pair (.sl (.pair (.int .i64) (.int .i64))) (.int .i64)) list_)], [] => .opt (Bool) (spec_ProblemValid list_) (fun r => .ret (.c (.bool r)) [])
  | _, _ => .fail

noncomputable def C_spec_ProblemValid : Cfg := { y := tys, n := 19, h := 0, tab := [(168, c_spec_ConstraintValid)], cut := [], hand := [], good := [], deep := [], sched := [] }

theorem t_spec_ProblemValid : TabOk Tryz.prog C_spec_ProblemValid := by
  refine tabOk_of ?_
  simp only [C_spec_ProblemValid, List.forall_mem_cons]
  exact ⟨k_spec_ConstraintValid, fun p h => by cases h⟩

theorem k_spec_ProblemValid : Entry Tryz.prog 109 c_spec_ProblemValid := by
 refine entry_by (C := C_spec_ProblemValid) mixed tys_ok t_spec_ProblemValid (fn := Tryz.f109) (c := bd Tryz.f109) (by kernel_rfl) (by kernel_rfl) (by kernel_rfl) (by kernel_rfl) ?_
 intro args st k he
 unfold c_spec_ProblemValid at he
 split at he
 rotate_left
 ·exact he.elim
 rename_i list_
 have he : Ok (spec_ProblemValid list_) (fun r => k (.c (.bool r)) []) := he
 refine ⟨rfl, rfl, ?_⟩
 refine loop_model mixed tys_ok t_spec_ProblemValid (S := Int) (I := (fun i => (envOf [(0, .c (.imm y2_ list_)), (3, .c (.int .i64 i))], []))) (f := spec_ProblemValid_l1 list_) (K := (fun r => k (.c (.bool r)) [])) he (leads_ren [] rfl rfl trivial ⟨.inl rfl, rfl, trivial⟩) ?_
 rintro i J1 he
 refine go_if he (fun he => ?_) fun he => ?_
 ·refine go_rq he fun he => ?_
  refine go_bind he fun r1_ he => ?_
  refine go_if he (fun he => ?_) fun he => ?_
  ·have he := ok_some he
   exact ⟨rfl, _, _, Leads.refl _ _, he⟩
  ·refine go_rq he fun he => ?_
   have he := ok_some he
   exact ⟨(i + (1:Int)), he, (leads_ren [] rfl rfl trivial ⟨.inl rfl, rfl, trivial⟩)⟩
 ·have he := ok_some he
  exact ⟨rfl, _, _, Leads.refl _ _, he⟩

noncomputable def c_spec_l4Fits : Con := fun args st => match args, st with
  | [.c (.imm (.pair (.sl (.pair (.int .i64) (.int .i64))) (.int .i64)) list_), .c (.imm (.pair (.int .i64) (.pair (.int .i64) (.pair (.int .i64) (.pair (.sl (.pair (.int .i64) (.int .i64))) (.int .i64))))) steps)], [] => .opt (Bool) (spec_l4Fits list_ steps) (fun r => .ret (.c (.bool r)) [])
  | _, _ => .fail

noncomputable def C_spec_l4Fits : Cfg := { y := tys, n := 12, h := 0, tab := [(109, c_spec_ProblemValid)], cut := [], hand := [], good := [], deep := [], sched := [] }

theorem t_spec_l4Fits : TabOk Tryz.prog C_spec_l4Fits := by
  refine tabOk_of ?_
  simp only [C_spec_l4Fits, List.forall_mem_cons]
  exact ⟨k_spec_ProblemValid, fun p h => by cases h⟩

theorem k_spec_l4Fits : Entry Tryz.prog 146 c_spec_l4Fits := by
 refine entry_by (C := C_spec_l4Fits) mixed tys_ok t_spec_l4Fits (fn := Tryz.f146) (c := bd Tryz.f146) (by kernel_rfl) (by kernel_rfl) (by kernel_rfl) (by kernel_rfl) ?_
 intro args st k he
 unfold c_spec_l4Fits at he
 split at he
 rotate_left
 ·exact he.elim
 rename_i list_ steps
 have he : Ok (spec_l4Fits list_ steps) (fun r => k (.c (.bool r)) []) := he
 refine ⟨rfl, rfl, ?_⟩
 refine go_bind he fun r1_ he => ?_
 refine go_if he (fun he => ?_) fun he => ?_
 ·have he := ok_some he
  exact ⟨rfl, _, _, Leads.refl _ _, he⟩
 ·have he := ok_some he
  exact ⟨rfl, _, _, Leads.refl _ _, he⟩

noncomputable def c_spec_l4Parts : Con := fun args st => match args, st with
  | [.agg [.int .i64 s__0, .int .i64 s__1, .int .i64 s__2, .imm (.pair (.int .i64) (.int .i64)) s__3, .int .i64 s__4]], [] => .opt (Bool) (spec_l4Parts (s__0, (s__1, (s__2, (s__3, s__4))))) (fun r => .ret (.c (.bool r)) [])
  | _, _ => .fail

noncomputable def C_spec_l4Parts : Cfg := { y := tys, n := 43, h := 0, tab := [], cut := [], hand := [], good := [], deep := [], sched := [] }

theorem t_spec_l4Parts : TabOk Tryz.prog C_spec_l4Parts := tabOk_of (fun p h => by cases h)

theorem k_spec_l4Parts : Entry Tryz.prog 150 c_spec_l4Parts := by
 refine entry_by (C := C_spec_l4Parts) mixed tys_ok t_spec_l4Parts (fn := Tryz.f150) (c := bd Tryz.f150) (by kernel_rfl) (by kernel_rfl) (by kernel_rfl) (by kernel_rfl) ?_
 intro args st k he
 unfold c_spec_l4Parts at he
 split at he
 rotate_left
 ·exact he.elim
 rename_i s__0 s__1 s__2 s__3 s__4
 have he : Ok (spec_l4Parts (s__0, (s__1, (s__2, (s__3, s__4))))) (fun r => k (.c (.bool r)) []) := he
 refine ⟨rfl, rfl, ?_⟩
 refine go_if he (fun he => ?_) fun he => ?_
 ·refine go_if he (fun he => ?_) fun he => ?_
  ·have he := ok_some he
   exact ⟨rfl, _, _, (leads_ren [] (l := [(2, .c (.bool ((s__0, (s__1, (s__2, (s__3, s__4)))).2.2.2.2 == (0:Int))))]) (st' := []) rfl rfl trivial ⟨.inl rfl, trivial⟩), he⟩
  ·refine go_if he (fun he => ?_) fun he => ?_
   ·have he := ok_some he
    exact ⟨rfl, _, _, (leads_ren [] (l := [(2, .c (.bool ((s__0, (s__1, (s__2, (s__3, s__4)))).2.2.2.2 == (0:Int))))]) (st' := []) rfl rfl trivial ⟨.inl rfl, trivial⟩), he⟩
   ·refine go_if he (fun he => ?_) fun he => ?_
    ·have he := ok_some he
     exact ⟨rfl, _, _, (leads_ren [] (l := [(2, .c (.bool ((s__0, (s__1, (s__2, (s__3, s__4)))).2.2.2.2 == (0:Int))))]) (st' := []) rfl rfl trivial ⟨.inl rfl, trivial⟩), he⟩
    ·refine go_if he (fun he => ?_) fun he => ?_
     ·have he := ok_some he
      exact ⟨rfl, _, _, (leads_ren [] (l := [(2, .c (.bool ((s__0, (s__1, (s__2, (s__3, s__4)))).2.2.2.2 == (0:Int))))]) (st' := []) rfl rfl trivial ⟨.inl rfl, trivial⟩), he⟩
     ·refine go_if he (fun he => ?_) fun he => ?_
      ·refine go_if he (fun he => ?_) fun he => ?_
       ·have he := ok_some he
        exact ⟨rfl, _, _, (leads_ren [] (l := [(2, .c (.bool ((s__0, (s__1, (s__2, (s__3, s__4)))).2.2.1 == (0:Int))))]) (st' := []) rfl rfl trivial ⟨.inl rfl, trivial⟩), he⟩
       ·have he := ok_some he
        exact ⟨rfl, _, _, (leads_ren [] (l := [(2, .c (.bool false))]) (st' := []) rfl rfl trivial ⟨.inr rfl, trivial⟩), he⟩
      ·refine go_if he (fun he => ?_) fun he => ?_
       ·refine go_if he (fun he => ?_) fun he => ?_
        ·have he := ok_some he
         exact ⟨rfl, _, _, (leads_ren [] (l := [(2, .c (.bool ((s__0, (s__1, (s__2, (s__3, s__4)))).2.2.1 == (0:Int))))]) (st' := []) rfl rfl trivial ⟨.inl rfl, trivial⟩), he⟩
        ·have he := ok_some he
         exact ⟨rfl, _, _, (leads_ren [] (l := [(2, .c (.bool false))]) (st' := []) rfl rfl trivial ⟨.inr rfl, trivial⟩), he⟩
       ·refine go_if he (fun he => ?_) fun he => ?_
        ·refine go_if he (fun he => ?_) fun he => ?_
         ·have he := ok_some he
          exact ⟨rfl, _, _, (leads_ren [] (l := [(2, .c (.bool ((s__0, (s__1, (s__2, (s__3, s__4)))).2.2.1 == (0:Int))))]) (st' := []) rfl rfl trivial ⟨.inl rfl, trivial⟩), he⟩
         ·have he := ok_some he
          exact ⟨rfl, _, _, (leads_ren [] (l := [(2, .c (.bool false))]) (st' := []) rfl rfl trivial ⟨.inr rfl, trivial⟩), he⟩
        ·refine go_if he (fun he => ?_) fun he => ?_
         ·refine go_if he (fun he => ?_) fun he => ?_
          ·have he := ok_some he
           exact ⟨rfl, _, _, (leads_ren [] (l := [(2, .c (.bool ((s__0, (s__1, (s__2, (s__3, s__4)))).2.2.1 == (0:Int))))]) (st' := []) rfl rfl trivial ⟨.inl rfl, trivial⟩), he⟩
          ·have he := ok_some he
           exact ⟨rfl, _, _, (leads_ren [] (l := [(2, .c (.bool false))]) (st' := []) rfl rfl trivial ⟨.inr rfl, trivial⟩), he⟩
         ·have he := ok_some he
          exact ⟨rfl, _, _, (leads_ren [] (l := [(2, .c (.bool false))]) (st' := []) rfl rfl trivial ⟨.inr rfl, trivial⟩), he⟩
 ·refine go_if he (fun he => ?_) fun he => ?_
  ·have he := ok_some he
   exact ⟨rfl, _, _, (leads_ren [] (l := [(2, .c (.bool false))]) (st' := []) rfl rfl trivial ⟨.inr rfl, trivial⟩), he⟩
  ·refine go_if he (fun he => ?_) fun he => ?_
   ·have he := ok_some he
    exact ⟨rfl, _, _, (leads_ren [] (l := [(2, .c (.bool false))]) (st' := []) rfl rfl trivial ⟨.inr rfl, trivial⟩), he⟩
   ·refine go_if he (fun he => ?_) fun he => ?_
    ·have he := ok_some he
     exact ⟨rfl, _, _, (leads_ren [] (l := [(2, .c (.bool false))]) (st' := []) rfl rfl trivial ⟨.inr rfl, trivial⟩), he⟩
    ·refine go_if he (fun he => ?_) fun he => ?_
     ·have he := ok_some he
      exact ⟨rfl, _, _, (leads_ren [] (l := [(2, .c (.bool false))]) (st' := []) rfl rfl trivial ⟨.inr rfl, trivial⟩), he⟩
     ·refine go_if he (fun he => ?_) fun he => ?_
      ·have he := ok_some he
       exact ⟨rfl, _, _, (leads_ren [] (l := [(2, .c (.bool false))]) (st' := []) rfl rfl trivial ⟨.inr rfl, trivial⟩), he⟩
      ·refine go_if he (fun he => ?_) fun he => ?_
       ·have he := ok_some he
        exact ⟨rfl, _, _, (leads_ren [] (l := [(2, .c (.bool false))]) (st' := []) rfl rfl trivial ⟨.inr rfl, trivial⟩), he⟩
       ·refine go_if he (fun he => ?_) fun he => ?_
        ·have he := ok_some he
         exact ⟨rfl, _, _, (leads_ren [] (l := [(2, .c (.bool false))]) (st' := []) rfl rfl trivial ⟨.inr rfl, trivial⟩), he⟩
        ·refine go_if he (fun he => ?_) fun he => ?_
         ·refine go_if he (fun he => ?_) fun he => ?_
          ·have he := ok_some he
           exact ⟨rfl, _, _, (leads_ren [] (l := [(2, .c (.bool ((s__0, (s__1, (s__2, (s__3, s__4)))).2.2.1 == (0:Int))))]) (st' := []) rfl rfl trivial ⟨.inl rfl, trivial⟩), he⟩
          ·have he := ok_some he
           exact ⟨rfl, _, _, (leads_ren [] (l := [(2, .c (.bool false))]) (st' := []) rfl rfl trivial ⟨.inr rfl, trivial⟩), he⟩
         ·have he := ok_some he
          exact ⟨rfl, _, _, (leads_ren [] (l := [(2, .c (.bool false))]) (st' := []) rfl rfl trivial ⟨.inr rfl, trivial⟩), he⟩

noncomputable def c_spec_l4Live : Con := fun args st => match args, st with
  | [.agg [.imm (.pair (.sl (.pair (.int .i64) (.int .i64))) (.int .i64)) d_0, .imm .bool d_1], .c (.int .i64 k_)], [] => .opt (Bool) (spec_l4Live (d_0, d_1) k_) (fun r => .ret (.c (.bool r)) [])
  | _, _ => .fail

noncomputable def C_spec_l4Live : Cfg := { y := tys, n := 22, h := 0, tab := [], cut := [], hand := [], good := [], deep := [], sched := [] }

theorem t_spec_l4Live : TabOk Tryz.prog C_spec_l4Live := tabOk_of (fun p h => by cases h)

theorem k_spec_l4Live : Entry Tryz.prog 151 c_spec_l4Live := by
 refine entry_by (C := C_spec_l4Live) mixed tys_ok t_spec_l4Live (fn := Tryz.f151) (c := bd Tryz.f151) (by kernel_rfl) (by kernel_rfl) (by kernel_rfl) (by kernel_rfl) ?_
 intro args st k he
 unfold c_spec_l4Live at he
 split at he
 rotate_left
 ·exact he.elim
 rename_i d_0 d_1 k_
 have he : Ok (spec_l4Live (d_0, d_1) k_) (fun r => k (.c (.bool r)) []) := he
 refine ⟨rfl, rfl, ?_⟩
 refine go_if he (fun he => ?_) fun he => ?_
 ·refine go_if he (fun he => ?_) fun he => ?_
  ·refine go_rq he fun he => ?_
   have he := ok_some he
   exact ⟨rfl, _, _, (leads_ren [] (l := [(4, .c (.bool (!((d_0, d_1).2.getD k_.toNat false))))]) (st' := []) rfl rfl trivial ⟨.inl rfl, trivial⟩), he⟩
  ·have he := ok_some he
   exact ⟨rfl, _, _, (leads_ren [] (l := [(4, .c (.bool false))]) (st' := []) rfl rfl trivial ⟨.inr rfl, trivial⟩), he⟩
 ·have he := ok_some he
  exact ⟨rfl, _, _, (leads_ren [] (l := [(4, .c (.bool false))]) (st' := []) rfl rfl trivial ⟨.inr rfl, trivial⟩), he⟩

noncomputable def c_spec_LiteralAxiom : Con := fun args st => match args, st with
  | [.c (.int .i64 lit)], [] => .opt (Bool × Int × (List D1_)) (spec_LiteralAxiom lit) (fun r => .ret (.tup [.agg [.own 901 false, .int .i64 r.2.1], .c (.bool r.1)]) [(900, .rc [.own 901 false, .int .i64 r.2.1]), (901, .sl 155 y1_ r.2.2 .shallow)])
  | _, _ => .fail

noncomputable def C_spec_LiteralAxiom : Cfg := { y := tys, n := 12, h := 0, tab := [(228, c_spec_l1Lit)], cut := [], hand := [], good := [], deep := [], sched := [] }

theorem t_spec_LiteralAxiom : TabOk Tryz.prog C_spec_LiteralAxiom := by
  refine tabOk_of ?_
  simp only [C_spec_LiteralAxiom, List.forall_mem_cons]
  exact ⟨k_spec_l1Lit, fun p h => by cases h⟩

theorem k_spec_LiteralAxiom : Entry Tryz.prog 208 c_spec_LiteralAxiom := by
 refine entry_by (C := C_spec_LiteralAxiom) mixed tys_ok t_spec_LiteralAxiom (fn := Tryz.f208) (c := bd Tryz.f208) (by kernel_rfl) (by kernel_rfl) (by kernel_rfl) (by kernel_rfl) ?_
 intro args st k he
 unfold c_spec_LiteralAxiom at he
 split at he
 rotate_left
 ·exact he.elim
 rename_i lit
 have he : Ok (spec_LiteralAxiom lit) (fun r => k (.tup [.agg [.own 901 false, .int .i64 r.2.1], .c (.bool r.1)]) [(900, .rc [.own 901 false, .int .i64 r.2.1]), (901, .sl 155 y1_ r.2.2 .shallow)]) := he
 refine ⟨rfl, rfl, ?_⟩
 refine go_bind he fun r1_ he => ?_
 refine go_if he (fun he => ?_) fun he => ?_
 ·have he := ok_some he
  exact ⟨rfl, _, _, (leads_ren [(900, 2)] (l := [(2, .c (.ptr 900 0)), (3, .c (.bool false))]) (st' := [(900, .rc [.own 901 false, .int .i64 (0:Int)]), (901, .sl 155 y1_ ([] : List D1_) .shallow)]) rfl rfl ⟨⟨⟨rfl, trivial⟩, rfl, trivial⟩, trivial, trivial⟩ ⟨⟨⟨rfl, rfl⟩, rfl⟩, .inr rfl, trivial⟩), he⟩
 ·have he := ok_some he
  exact ⟨rfl, _, _, (leads_ren [(900, 2), (901, 10)] (l := [(2, .c (.ptr 900 0)), (3, .c (.bool true))]) (st' := [(900, .rc [.own 901 false, .int .i64 (0:Int)]), (901, .sl 155 y1_ [((1:Int), lit)] .shallow)]) rfl rfl ⟨⟨⟨⟨rfl, rfl⟩, trivial⟩, rfl, trivial⟩, ⟨rfl, rfl⟩, trivial⟩ ⟨⟨⟨rfl, rfl⟩, rfl⟩, .inr rfl, trivial⟩), he⟩

noncomputable def c_spec_l1Copy : Con := fun args st => match args, st with
  | [.agg [.imm (.pair (.int .i64) (.int .i64)) c__0, .int .i64 c__1]], [] => .opt (Int × (List D1_)) (spec_l1Copy (c__0, c__1)) (fun r => .ret (.agg [.own 901 false, .int .i64 r.1]) [(900, .rc [.own 901 false, .int .i64 r.1]), (901, .sl 155 y1_ r.2 .shallow)])
  | _, _ => .fail

noncomputable def C_spec_l1Copy : Cfg := { y := tys, n := 10, h := 0, tab := [], cut := [], hand := [], good := [], deep := [], sched := [(1, (.first 1 (.first 4 (.alt 0 (.alt 2 (.alt 3 (.alt 5 (.alt 6 (.alt 7 .done .stop) .stop) .stop) (.alt 5 (.alt 3 (.alt 6 (.alt 7 .done .stop) .stop) .stop) .stop)) (.alt 5 (.alt 2 (.alt 3 (.alt 6 (.alt 7 .done .stop) .stop) .stop) .stop) .stop)) (.alt 2 (.alt 0 (.alt 3 (.alt 5 (.alt 6 (.alt 7 .done .stop) .stop) .stop) (.alt 5 (.alt 3 (.alt 6 (.alt 7 .done .stop) .stop) .stop) .stop)) (.alt 5 (.alt 0 (.alt 3 (.alt 6 (.alt 7 .done .stop) .stop) .stop) .stop) .stop)) (.alt 5 (.alt 0 (.alt 2 (.alt 3 (.alt 6 (.alt 7 .done .stop) .stop) .stop) .stop) (.alt 2 (.alt 0 (.alt 3 (.alt 6 (.alt 7 .done .stop) .stop) .stop) .stop) .stop)) .stop))))))] }

theorem t_spec_l1Copy : TabOk Tryz.prog C_spec_l1Copy := tabOk_of (fun p h => by cases h)

theorem k_spec_l1Copy : Entry Tryz.prog 136 c_spec_l1Copy := by
 refine entry_by (C := C_spec_l1Copy) mixed tys_ok t_spec_l1Copy (fn := Tryz.f136) (c := bd Tryz.f136) (by kernel_rfl) (by kernel_rfl) (by kernel_rfl) (by kernel_rfl) ?_
 intro args st k he
 unfold c_spec_l1Copy at he
 split at he
 rotate_left
 ·exact he.elim
 rename_i c__0 c__1
 have he : Ok (spec_l1Copy (c__0, c__1)) (fun r => k (.agg [.own 901 false, .int .i64 r.1]) [(900, .rc [.own 901 false, .int .i64 r.1]), (901, .sl 155 y1_ r.2 .shallow)]) := he
 refine ⟨rfl, rfl, ?_⟩
 refine And.intro (by kernel_rfl) ?_
 have he := ok_rq he
 have hq1 := he.1
 have he := he.2
 refine And.intro ?_ (And.intro ?_ (And.intro ?_ (trivial)))
 ·skip
  refine And.intro ?_ (And.intro ?_ (trivial))
  ·skip
   refine And.intro ?_ (And.intro ?_ (trivial))
   ·skip
    refine And.intro hq1 ?_
    refine And.intro ?_ trivial
    refine And.intro ?_ trivial
    refine And.intro ?_ trivial
    have he := ok_some he
    exact ⟨rfl, _, _, (leads_ren [(900, 2), (901, 6)] (l := [(2, .c (.ptr 900 0))]) (st' := [(900, .rc [.own 901 false, .int .i64 (c__0, c__1).2]), (901, .sl 155 y1_ (([] : List D1_) ++ (c__0, c__1).1) .shallow)]) rfl rfl ⟨⟨⟨⟨rfl, rfl⟩, trivial⟩, rfl, trivial⟩, ⟨rfl, rfl⟩, trivial⟩ ⟨⟨⟨rfl, rfl⟩, rfl⟩, trivial⟩), he⟩
   ·skip
    refine And.intro ?_ trivial
    refine And.intro hq1 ?_
    refine And.intro ?_ trivial
    refine And.intro ?_ trivial
    have he := ok_some he
    exact ⟨rfl, _, _, (leads_ren [(900, 2), (901, 6)] (l := [(2, .c (.ptr 900 0))]) (st' := [(900, .rc [.own 901 false, .int .i64 (c__0, c__1).2]), (901, .sl 155 y1_ (([] : List D1_) ++ (c__0, c__1).1) .shallow)]) rfl rfl ⟨⟨⟨⟨rfl, rfl⟩, trivial⟩, rfl, trivial⟩, ⟨rfl, rfl⟩, trivial⟩ ⟨⟨⟨rfl, rfl⟩, rfl⟩, trivial⟩), he⟩
  ·skip
   refine And.intro ?_ trivial
   refine And.intro ?_ trivial
   refine And.intro hq1 ?_
   refine And.intro ?_ trivial
   refine And.intro ?_ trivial
   have he := ok_some he
   exact ⟨rfl, _, _, (leads_ren [(900, 2), (901, 6)] (l := [(2, .c (.ptr 900 0))]) (st' := [(900, .rc [.own 901 false, .int .i64 (c__0, c__1).2]), (901, .sl 155 y1_ (([] : List D1_) ++ (c__0, c__1).1) .shallow)]) rfl rfl ⟨⟨⟨⟨rfl, rfl⟩, trivial⟩, rfl, trivial⟩, ⟨rfl, rfl⟩, trivial⟩ ⟨⟨⟨rfl, rfl⟩, rfl⟩, trivial⟩), he⟩
 ·skip
  refine And.intro ?_ (And.intro ?_ (trivial))
  ·skip
   refine And.intro ?_ (And.intro ?_ (trivial))
   ·skip
    refine And.intro hq1 ?_
    refine And.intro ?_ trivial
    refine And.intro ?_ trivial
    refine And.intro ?_ trivial
    have he := ok_some he
    exact ⟨rfl, _, _, (leads_ren [(900, 2), (901, 6)] (l := [(2, .c (.ptr 900 0))]) (st' := [(900, .rc [.own 901 false, .int .i64 (c__0, c__1).2]), (901, .sl 155 y1_ (([] : List D1_) ++ (c__0, c__1).1) .shallow)]) rfl rfl ⟨⟨⟨⟨rfl, rfl⟩, trivial⟩, rfl, trivial⟩, ⟨rfl, rfl⟩, trivial⟩ ⟨⟨⟨rfl, rfl⟩, rfl⟩, trivial⟩), he⟩
   ·skip
    refine And.intro ?_ trivial
    refine And.intro hq1 ?_
    refine And.intro ?_ trivial
    refine And.intro ?_ trivial
    have he := ok_some he
    exact ⟨rfl, _, _, (leads_ren [(900, 2), (901, 6)] (l := [(2, .c (.ptr 900 0))]) (st' := [(900, .rc [.own 901 false, .int .i64 (c__0, c__1).2]), (901, .sl 155 y1_ (([] : List D1_) ++ (c__0, c__1).1) .shallow)]) rfl rfl ⟨⟨⟨⟨rfl, rfl⟩, trivial⟩, rfl, trivial⟩, ⟨rfl, rfl⟩, trivial⟩ ⟨⟨⟨rfl, rfl⟩, rfl⟩, trivial⟩), he⟩
  ·skip
   refine And.intro ?_ trivial
   refine And.intro ?_ trivial
   refine And.intro hq1 ?_
   refine And.intro ?_ trivial
   refine And.intro ?_ trivial
   have he := ok_some he
   exact ⟨rfl, _, _, (leads_ren [(900, 2), (901, 6)] (l := [(2, .c (.ptr 900 0))]) (st' := [(900, .rc [.own 901 false, .int .i64 (c__0, c__1).2]), (901, .sl 155 y1_ (([] : List D1_) ++ (c__0, c__1).1) .shallow)]) rfl rfl ⟨⟨⟨⟨rfl, rfl⟩, trivial⟩, rfl, trivial⟩, ⟨rfl, rfl⟩, trivial⟩ ⟨⟨⟨rfl, rfl⟩, rfl⟩, trivial⟩), he⟩
 ·skip
  refine And.intro ?_ (And.intro ?_ (trivial))
  ·skip
   refine And.intro ?_ trivial
   refine And.intro ?_ trivial
   refine And.intro hq1 ?_
   refine And.intro ?_ trivial
   refine And.intro ?_ trivial
   have he := ok_some he
   exact ⟨rfl, _, _, (leads_ren [(900, 2), (901, 6)] (l := [(2, .c (.ptr 900 0))]) (st' := [(900, .rc [.own 901 false, .int .i64 (c__0, c__1).2]), (901, .sl 155 y1_ (([] : List D1_) ++ (c__0, c__1).1) .shallow)]) rfl rfl ⟨⟨⟨⟨rfl, rfl⟩, trivial⟩, rfl, trivial⟩, ⟨rfl, rfl⟩, trivial⟩ ⟨⟨⟨rfl, rfl⟩, rfl⟩, trivial⟩), he⟩
  ·skip
   refine And.intro ?_ trivial
   refine And.intro ?_ trivial
   refine And.intro hq1 ?_
   refine And.intro ?_ trivial
   refine And.intro ?_ trivial
   have he := ok_some he
   exact ⟨rfl, _, _, (leads_ren [(900, 2), (901, 6)] (l := [(2, .c (.ptr 900 0))]) (st' := [(900, .rc [.own 901 false, .int .i64 (c__0, c__1).2]), (901, .sl 155 y1_ (([] : List D1_) ++ (c__0, c__1).1) .shallow)]) rfl rfl ⟨⟨⟨⟨rfl, rfl⟩, trivial⟩, rfl, trivial⟩, ⟨rfl, rfl⟩, trivial⟩ ⟨⟨⟨rfl, rfl⟩, rfl⟩, trivial⟩), he⟩

end Go.AE.Y
