/-
  Walks: each function keeps the contract that its model gives. No conditions.
-/
import Derived.Test.YtlniniagobanpaaGreatR6ZTab
import Derived.Test.YtlniniagobanpaaGreatR6ZM
import Derived.Test.YtlniniagobanpaaGreatR6ZS
namespace Go.AE.Y
open Go Go.AE Go.Proofs
set_option linter.unusedVariables false
set_option maxHeartbeats 2000000
set_option maxRecDepth 100000

noncomputable def c_laws_szTermS : Con := fun args st => match args, st with
  | [.c (.imm (.pair (.int .i64) (.int .i64)) a), .c (.int .i64 left)], [] => .opt (Int) (laws_szTermS a left) (fun r => .ret (.c (.int .i64 r)) [])
  | _, _ => .fail

noncomputable def C_laws_szTermS : Cfg := { y := tys, n := 12, h := 0, tab := [], cut := [], hand := [], good := [], deep := [], sched := [] }

theorem t_laws_szTermS : TabOk Tryz.prog C_laws_szTermS := tabOk_of (fun p h => by cases h)

theorem k_laws_szTermS : Entry Tryz.prog 37 c_laws_szTermS := by
 refine entry_by (C := C_laws_szTermS) mixed tys_ok t_laws_szTermS (fn := Tryz.f37) (c := bd Tryz.f37) (by kernel_rfl) (by kernel_rfl) (by kernel_rfl) (by kernel_rfl) ?_
 intro args st k he
 unfold c_laws_szTermS at he
 split at he
 rotate_left
 ·exact he.elim
 rename_i a left
 have he : Ok (laws_szTermS a left) (fun r => k (.c (.int .i64 r)) []) := he
 refine ⟨rfl, rfl, ?_⟩
 refine go_rq he fun he => ?_
 refine go_if he (fun he => ?_) fun he => ?_
 ·have he := ok_some he
  exact ⟨rfl, _, _, Leads.refl _ _, he⟩
 ·have he := ok_some he
  exact ⟨rfl, _, _, Leads.refl _ _, he⟩

noncomputable def c_laws_szConstraint : Con := fun args st => match args, st with
  | [.agg [.imm (.pair (.int .i64) (.int .i64)) a_0, .int .i64 a_1], .c (.int .i64 left)], [] => .opt (Int) (laws_szConstraint (a_0, a_1) left) (fun r => .ret (.c (.int .i64 r)) [])
  | _, _ => .fail

noncomputable def C_laws_szConstraint : Cfg := { y := tys, n := 12, h := 0, tab := [(37, c_laws_szTermS)], cut := [], hand := [], good := [], deep := [], sched := [] }

theorem t_laws_szConstraint : TabOk Tryz.prog C_laws_szConstraint := by
  refine tabOk_of ?_
  simp only [C_laws_szConstraint, List.forall_mem_cons]
  exact ⟨k_laws_szTermS, fun p h => by cases h⟩

theorem k_laws_szConstraint : Entry Tryz.prog 19 c_laws_szConstraint := by
 refine entry_by (C := C_laws_szConstraint) mixed tys_ok t_laws_szConstraint (fn := Tryz.f19) (c := bd Tryz.f19) (by kernel_rfl) (by kernel_rfl) (by kernel_rfl) (by kernel_rfl) ?_
 intro args st k he
 unfold c_laws_szConstraint at he
 split at he
 rotate_left
 ·exact he.elim
 rename_i a_0 a_1 left
 have he : Ok (laws_szConstraint (a_0, a_1) left) (fun r => k (.c (.int .i64 r)) []) := he
 refine ⟨rfl, rfl, ?_⟩
 refine go_bind he fun r1_ he => ?_
 refine go_if he (fun he => ?_) fun he => ?_
 ·have he := ok_some he
  exact ⟨rfl, _, _, (leads_ren [] (l := [(4, .c (.int .i64 (-1:Int)))]) (st' := []) rfl rfl trivial ⟨rfl, trivial⟩), he⟩
 ·have he := ok_some he
  exact ⟨rfl, _, _, (leads_ren [] (l := [(4, .c (.int .i64 r1_))]) (st' := []) rfl rfl trivial ⟨rfl, trivial⟩), he⟩

noncomputable def c_laws_szConstraintS : Con := fun args st => match args, st with
  | [.c (.imm (.pair (.sl (.pair (.int .i64) (.int .i64))) (.int .i64)) a), .c (.int .i64 left)], [] => .opt (Int) (laws_szConstraintS a left) (fun r => .ret (.c (.int .i64 r)) [])
  | _, _ => .fail

noncomputable def C_laws_szConstraintS : Cfg := { y := tys, n := 27, h := 0, tab := [(19, c_laws_szConstraint)], cut := [], hand := [], good := [], deep := [], sched := [] }

theorem t_laws_szConstraintS : TabOk Tryz.prog C_laws_szConstraintS := by
  refine tabOk_of ?_
  simp only [C_laws_szConstraintS, List.forall_mem_cons]
  exact ⟨k_laws_szConstraint, fun p h => by cases h⟩

theorem k_laws_szConstraintS : Entry Tryz.prog 4 c_laws_szConstraintS := by
 refine entry_by (C := C_laws_szConstraintS) mixed tys_ok t_laws_szConstraintS (fn := Tryz.f4) (c := bd Tryz.f4) (by kernel_rfl) (by kernel_rfl) (by kernel_rfl) (by kernel_rfl) ?_
 intro args st k he
 unfold c_laws_szConstraintS at he
 split at he
 rotate_left
 ·exact he.elim
 rename_i a left
 have he : Ok (laws_szConstraintS a left) (fun r => k (.c (.int .i64 r)) []) := he
 refine ⟨rfl, rfl, ?_⟩
 refine go_rq he fun he => ?_
 refine go_if he (fun he => ?_) fun he => ?_
 ·have he := ok_some he
  exact ⟨rfl, _, _, Leads.refl _ _, he⟩
 ·refine loop_model mixed tys_ok t_laws_szConstraintS (S := Int × Int) (I := (fun (left1, i) => (envOf [(0, .c (.imm y2_ a)), (1, .c (.int .i64 left1)), (5, .c (.int .i64 i))], []))) (f := laws_szConstraintS_l1 a) (K := (fun r => k (.c (.int .i64 r)) [])) he (leads_ren [] rfl rfl trivial ⟨.inl rfl, rfl, rfl, trivial⟩) ?_
  rintro ⟨left1, i⟩ J1 he
  refine go_if he (fun he => ?_) fun he => ?_
  ·refine go_rq he fun he => ?_
   refine go_bind he fun r1_ he => ?_
   refine go_if he (fun he => ?_) fun he => ?_
   ·have he := ok_some he
    exact ⟨rfl, _, _, Leads.refl _ _, he⟩
   ·refine go_rq he fun he => ?_
    have he := ok_some he
    exact ⟨(r1_, (i + (1:Int))), he, (leads_ren [] rfl rfl trivial ⟨.inl rfl, rfl, rfl, trivial⟩)⟩
  ·have he := ok_some he
   exact ⟨rfl, _, _, Leads.refl _ _, he⟩

noncomputable def c_laws_toTerm : Con := fun args st => match args, st with
  | [.agg [.int .i64 a_0, .int .i64 a_1]], [] => .opt (D1_) (laws_toTerm (a_0, a_1)) (fun r => .ret (.agg [.int .i64 r.1, .int .i64 r.2]) [(900, .rc [.int .i64 r.1, .int .i64 r.2])])
  | _, _ => .fail

noncomputable def C_laws_toTerm : Cfg := { y := tys, n := 11, h := 0, tab := [], cut := [], hand := [], good := [], deep := [], sched := [] }

theorem t_laws_toTerm : TabOk Tryz.prog C_laws_toTerm := tabOk_of (fun p h => by cases h)

theorem k_laws_toTerm : Entry Tryz.prog 64 c_laws_toTerm := by
 refine entry_by (C := C_laws_toTerm) mixed tys_ok t_laws_toTerm (fn := Tryz.f64) (c := bd Tryz.f64) (by kernel_rfl) (by kernel_rfl) (by kernel_rfl) (by kernel_rfl) ?_
 intro args st k he
 unfold c_laws_toTerm at he
 split at he
 rotate_left
 ·exact he.elim
 rename_i a_0 a_1
 have he : Ok (laws_toTerm (a_0, a_1)) (fun r => k (.agg [.int .i64 r.1, .int .i64 r.2]) [(900, .rc [.int .i64 r.1, .int .i64 r.2])]) := he
 refine ⟨rfl, rfl, ?_⟩
 have he := ok_some he
 exact ⟨rfl, _, _, (leads_ren [(900, 2)] (l := [(2, .c (.ptr 900 0))]) (st' := [(900, .rc [.int .i64 (a_0, a_1).1, .int .i64 (a_0, a_1).2])]) rfl rfl ⟨⟨rfl, rfl, trivial⟩, trivial⟩ ⟨⟨⟨rfl, rfl⟩, rfl⟩, trivial⟩), he⟩

noncomputable def c_laws_toTermS : Con := fun args st => match args, st with
  | [.c (.imm (.pair (.int .i64) (.int .i64)) a)], [] => .opt ((List D1_)) (laws_toTermS a) (fun r => .ret (.c (.own 900 false)) [(900, .sl 76 y1_ r .shallow)])
  | _, _ => .fail

noncomputable def C_laws_toTermS : Cfg := { y := tys, n := 23, h := 0, tab := [(64, c_laws_toTerm)], cut := [], hand := [], good := [], deep := [], sched := [] }

theorem t_laws_toTermS : TabOk Tryz.prog C_laws_toTermS := by
  refine tabOk_of ?_
  simp only [C_laws_toTermS, List.forall_mem_cons]
  exact ⟨k_laws_toTerm, fun p h => by cases h⟩

theorem k_laws_toTermS : Entry Tryz.prog 43 c_laws_toTermS := by
 refine entry_by (C := C_laws_toTermS) mixed tys_ok t_laws_toTermS (fn := Tryz.f43) (c := bd Tryz.f43) (by kernel_rfl) (by kernel_rfl) (by kernel_rfl) (by kernel_rfl) ?_
 intro args st k he
 unfold c_laws_toTermS at he
 split at he
 rotate_left
 ·exact he.elim
 rename_i a
 have he : Ok (laws_toTermS a) (fun r => k (.c (.own 900 false)) [(900, .sl 76 y1_ r .shallow)]) := he
 refine ⟨rfl, rfl, ?_⟩
 refine go_rq he fun he => ?_
 refine loop_model mixed tys_ok t_laws_toTermS (S := Int × (List D1_)) (I := (fun (i, out) => (envOf [(0, .c (.imm y1_ a)), (3, .c (.own 10000000 false)), (4, .c (.int .i64 i))], [(10000000, .sl 76 y1_ out .shallow)]))) (f := laws_toTermS_l1 a) (K := (fun r => k (.c (.own 900 false)) [(900, .sl 76 y1_ r .shallow)])) he (leads_ren [(10000000, 7)] rfl rfl ⟨⟨rfl, rfl⟩, trivial⟩ ⟨.inl rfl, ⟨⟨rfl, rfl⟩, trivial⟩, rfl, trivial⟩) ?_
 rintro ⟨i, out⟩ J1 he
 refine go_if he (fun he => ?_) fun he => ?_
 ·refine go_rq he fun he => ?_
  refine go_bind he fun r2_ he => ?_
  refine go_rq he fun he => ?_
  refine go_rq he fun he => ?_
  have he := ok_some he
  exact ⟨((i + (1:Int)), (out.set i.toNat r2_)), he, (leads_ren [] rfl rfl ⟨⟨rfl, rfl⟩, trivial⟩ ⟨.inl rfl, ⟨⟨rfl, rfl⟩, trivial⟩, rfl, trivial⟩)⟩
 ·have he := ok_some he
  exact ⟨rfl, _, _, (leads_ren [(900, 10000000)] (l := [(2, .c (.own 900 false))]) (st' := [(900, .sl 76 y1_ out .shallow)]) rfl rfl ⟨⟨rfl, rfl⟩, trivial⟩ ⟨⟨⟨rfl, rfl⟩, trivial⟩, trivial⟩), he⟩

noncomputable def c_laws_toConstraint : Con := fun args st => match args, st with
  | [.agg [.imm (.pair (.int .i64) (.int .i64)) a_0, .int .i64 a_1]], [] => .opt (Int × (List D1_)) (laws_toConstraint (a_0, a_1)) (fun r => .ret (.agg [.own 901 false, .int .i64 r.1]) [(900, .rc [.own 901 false, .int .i64 r.1]), (901, .sl 76 y1_ r.2 .shallow)])
  | _, _ => .fail

noncomputable def C_laws_toConstraint : Cfg := { y := tys, n := 12, h := 0, tab := [(43, c_laws_toTermS)], cut := [], hand := [], good := [], deep := [], sched := [] }

theorem t_laws_toConstraint : TabOk Tryz.prog C_laws_toConstraint := by
  refine tabOk_of ?_
  simp only [C_laws_toConstraint, List.forall_mem_cons]
  exact ⟨k_laws_toTermS, fun p h => by cases h⟩

theorem k_laws_toConstraint : Entry Tryz.prog 26 c_laws_toConstraint := by
 refine entry_by (C := C_laws_toConstraint) mixed tys_ok t_laws_toConstraint (fn := Tryz.f26) (c := bd Tryz.f26) (by kernel_rfl) (by kernel_rfl) (by kernel_rfl) (by kernel_rfl) ?_
 intro args st k he
 unfold c_laws_toConstraint at he
 split at he
 rotate_left
 ·exact he.elim
 rename_i a_0 a_1
 have he : Ok (laws_toConstraint (a_0, a_1)) (fun r => k (.agg [.own 901 false, .int .i64 r.1]) [(900, .rc [.own 901 false, .int .i64 r.1]), (901, .sl 76 y1_ r.2 .shallow)]) := he
 refine ⟨rfl, rfl, ?_⟩
 refine go_bind he fun r1_ he => ?_
 have he := ok_some he
 exact ⟨rfl, _, _, (leads_ren [(900, 2), (901, 7900)] (l := [(2, .c (.ptr 900 0))]) (st' := [(900, .rc [.own 901 false, .int .i64 (a_0, a_1).2]), (901, .sl 76 y1_ r1_ .shallow)]) rfl rfl ⟨⟨⟨⟨rfl, rfl⟩, trivial⟩, rfl, trivial⟩, ⟨rfl, rfl⟩, trivial⟩ ⟨⟨⟨rfl, rfl⟩, rfl⟩, trivial⟩), he⟩

noncomputable def c_laws_toConstraintS : Con := fun args st => match args, st with
  | [.c (.imm (.pair (.sl (.pair (.int .i64) (.int .i64))) (.int .i64)) a)], [] => .opt ((List D2_)) (laws_toConstraintS a) (fun r => .ret (.c (.own 900 false)) [(900, .sl 56 y2_ r (.deep true .no))])
  | _, _ => .fail

noncomputable def C_laws_toConstraintS : Cfg := { y := tys, n := 23, h := 0, tab := [(26, c_laws_toConstraint)], cut := [], hand := [], good := [], deep := [7], sched := [] }

theorem t_laws_toConstraintS : TabOk Tryz.prog C_laws_toConstraintS := by
  refine tabOk_of ?_
  simp only [C_laws_toConstraintS, List.forall_mem_cons]
  exact ⟨k_laws_toConstraint, fun p h => by cases h⟩

theorem k_laws_toConstraintS : Entry Tryz.prog 6 c_laws_toConstraintS := by
 refine entry_by (C := C_laws_toConstraintS) mixed tys_ok t_laws_toConstraintS (fn := Tryz.f6) (c := bd Tryz.f6) (by kernel_rfl) (by kernel_rfl) (by kernel_rfl) (by kernel_rfl) ?_
 intro args st k he
 unfold c_laws_toConstraintS at he
 split at he
 rotate_left
 ·exact he.elim
 rename_i a
 have he : Ok (laws_toConstraintS a) (fun r => k (.c (.own 900 false)) [(900, .sl 56 y2_ r (.deep true .no))]) := he
 refine ⟨rfl, rfl, ?_⟩
 refine go_rq he fun he => ?_
 refine loop_model mixed tys_ok t_laws_toConstraintS (S := Int × (List D2_)) (I := (fun (i, out) => (envOf [(0, .c (.imm y2_ a)), (3, .c (.own 10000000 false)), (4, .c (.int .i64 i))], [(10000000, .sl 56 y2_ out (.deep true .no))]))) (f := laws_toConstraintS_l1 a) (K := (fun r => k (.c (.own 900 false)) [(900, .sl 56 y2_ r (.deep true .no))])) he (leads_ren [(10000000, 7)] rfl rfl ⟨⟨rfl, rfl⟩, trivial⟩ ⟨.inl rfl, ⟨⟨rfl, rfl⟩, trivial⟩, rfl, trivial⟩) ?_
 rintro ⟨i, out⟩ J1 he
 refine go_if he (fun he => ?_) fun he => ?_
 ·refine go_rq he fun he => ?_
  refine go_bind he fun r2_ he => ?_
  refine go_rq he fun he => ?_
  refine go_rq he fun he => ?_
  have he := ok_some he
  exact ⟨((i + (1:Int)), (out.set i.toNat (r2_.2, r2_.1))), he, (leads_ren [] rfl rfl ⟨⟨rfl, rfl⟩, trivial⟩ ⟨.inl rfl, ⟨⟨rfl, rfl⟩, trivial⟩, rfl, trivial⟩)⟩
 ·have he := ok_some he
  exact ⟨rfl, _, _, (leads_ren [(900, 10000000)] (l := [(2, .c (.own 900 false))]) (st' := [(900, .sl 56 y2_ out (.deep true .no))]) rfl rfl ⟨⟨rfl, rfl⟩, trivial⟩ ⟨⟨⟨rfl, rfl⟩, trivial⟩, trivial⟩), he⟩

noncomputable def c_laws_toIntS : Con := fun args st => match args, st with
  | [.c (.imm (.int .i64) a)], [] => .opt ((List Int)) (laws_toIntS a) (fun r => .ret (.c (.own 900 false)) [(900, .sl 3 y0_ r .shallow)])
  | _, _ => .fail

noncomputable def C_laws_toIntS : Cfg := { y := tys, n := 22, h := 0, tab := [], cut := [], hand := [], good := [], deep := [], sched := [] }

theorem t_laws_toIntS : TabOk Tryz.prog C_laws_toIntS := tabOk_of (fun p h => by cases h)

theorem k_laws_toIntS : Entry Tryz.prog 7 c_laws_toIntS := by
 refine entry_by (C := C_laws_toIntS) mixed tys_ok t_laws_toIntS (fn := Tryz.f7) (c := bd Tryz.f7) (by kernel_rfl) (by kernel_rfl) (by kernel_rfl) (by kernel_rfl) ?_
 intro args st k he
 unfold c_laws_toIntS at he
 split at he
 rotate_left
 ·exact he.elim
 rename_i a
 have he : Ok (laws_toIntS a) (fun r => k (.c (.own 900 false)) [(900, .sl 3 y0_ r .shallow)]) := he
 refine ⟨rfl, rfl, ?_⟩
 refine go_rq he fun he => ?_
 refine loop_model mixed tys_ok t_laws_toIntS (S := Int × (List Int)) (I := (fun (i, out) => (envOf [(0, .c (.imm y0_ a)), (3, .c (.own 10000000 false)), (4, .c (.int .i64 i))], [(10000000, .sl 3 y0_ out .shallow)]))) (f := laws_toIntS_l1 a) (K := (fun r => k (.c (.own 900 false)) [(900, .sl 3 y0_ r .shallow)])) he (leads_ren [(10000000, 7)] rfl rfl ⟨⟨rfl, rfl⟩, trivial⟩ ⟨.inl rfl, ⟨⟨rfl, rfl⟩, trivial⟩, rfl, trivial⟩) ?_
 rintro ⟨i, out⟩ J1 he
 refine go_if he (fun he => ?_) fun he => ?_
 ·refine go_rq he fun he => ?_
  refine go_rq he fun he => ?_
  refine go_rq he fun he => ?_
  have he := ok_some he
  exact ⟨((i + (1:Int)), (out.set i.toNat (a.getD i.toNat 0))), he, (leads_ren [] rfl rfl ⟨⟨rfl, rfl⟩, trivial⟩ ⟨.inl rfl, ⟨⟨rfl, rfl⟩, trivial⟩, rfl, trivial⟩)⟩
 ·have he := ok_some he
  exact ⟨rfl, _, _, (leads_ren [(900, 10000000)] (l := [(2, .c (.own 900 false))]) (st' := [(900, .sl 3 y0_ out .shallow)]) rfl rfl ⟨⟨rfl, rfl⟩, trivial⟩ ⟨⟨⟨rfl, rfl⟩, trivial⟩, trivial⟩), he⟩

noncomputable def c_spec_l1Lit : Con := fun args st => match args, st with
  | [.c (.int .i64 n)], [] => .opt (Bool) (spec_l1Lit n) (fun r => .ret (.c (.bool r)) [])
  | _, _ => .fail

noncomputable def C_spec_l1Lit : Cfg := { y := tys, n := 13, h := 0, tab := [], cut := [], hand := [], good := [], deep := [], sched := [] }

theorem t_spec_l1Lit : TabOk Tryz.prog C_spec_l1Lit := tabOk_of (fun p h => by cases h)

theorem k_spec_l1Lit : Entry Tryz.prog 56 c_spec_l1Lit := by
 refine entry_by (C := C_spec_l1Lit) mixed tys_ok t_spec_l1Lit (fn := Tryz.f56) (c := bd Tryz.f56) (by kernel_rfl) (by kernel_rfl) (by kernel_rfl) (by kernel_rfl) ?_
 intro args st k he
 unfold c_spec_l1Lit at he
 split at he
 rotate_left
 ·exact he.elim
 rename_i n
 have he : Ok (spec_l1Lit n) (fun r => k (.c (.bool r)) []) := he
 refine ⟨rfl, rfl, ?_⟩
 refine go_if he (fun he => ?_) fun he => ?_
 ·refine go_if he (fun he => ?_) fun he => ?_
  ·have he := ok_some he
   exact ⟨rfl, _, _, Leads.refl _ _, he⟩
  ·have he := ok_some he
   exact ⟨rfl, _, _, Leads.refl _ _, he⟩
 ·have he := ok_some he
  exact ⟨rfl, _, _, Leads.refl _ _, he⟩

noncomputable def c_spec_l1Abs : Con := fun args st => match args, st with
  | [.c (.int .i64 n)], [] => .opt (Int) (spec_l1Abs n) (fun r => .ret (.c (.int .i64 r)) [])
  | _, _ => .fail

noncomputable def C_spec_l1Abs : Cfg := { y := tys, n := 8, h := 0, tab := [], cut := [], hand := [], good := [], deep := [], sched := [] }

theorem t_spec_l1Abs : TabOk Tryz.prog C_spec_l1Abs := tabOk_of (fun p h => by cases h)

theorem k_spec_l1Abs : Entry Tryz.prog 57 c_spec_l1Abs := by
 refine entry_by (C := C_spec_l1Abs) mixed tys_ok t_spec_l1Abs (fn := Tryz.f57) (c := bd Tryz.f57) (by kernel_rfl) (by kernel_rfl) (by kernel_rfl) (by kernel_rfl) ?_
 intro args st k he
 unfold c_spec_l1Abs at he
 split at he
 rotate_left
 ·exact he.elim
 rename_i n
 have he : Ok (spec_l1Abs n) (fun r => k (.c (.int .i64 r)) []) := he
 refine ⟨rfl, rfl, ?_⟩
 refine go_if he (fun he => ?_) fun he => ?_
 ·refine go_rq he fun he => ?_
  have he := ok_some he
  exact ⟨rfl, _, _, Leads.refl _ _, he⟩
 ·have he := ok_some he
  exact ⟨rfl, _, _, Leads.refl _ _, he⟩

noncomputable def c_spec_ConstraintValid : Con := fun args st => match args, st with
  | [.agg [.imm (.pair (.int .i64) (.int .i64)) c__0, .int .i64 c__1]], [] => .opt (Bool) (spec_ConstraintValid (c__0, c__1)) (fun r => .ret (.c (.bool r)) [])
  | _, _ => .fail

noncomputable def C_spec_ConstraintValid : Cfg := { y := tys, n := 57, h := 0, tab := [(56, c_spec_l1Lit), (57, c_spec_l1Abs)], cut := [], hand := [], good := [], deep := [], sched := [(5, (.first 0 (.alt 1 (.alt 2 (.first 3 (.first 4 (.first 5 (.alt 6 (.first 7 (.first 8 (.first 9 (.first 10 (.alt 11 (.first 12 (.first 13 (.first 14 (.first 15 (.first 16 (.first 17 (.first 18 (.first 20 (.first 21 (.first 26 (.alt 19 (.first 22 (.first 23 (.first 24 (.alt 25 (.alt 27 (.alt 28 (.first 29 (.first 30 (.first 31 .done))) .stop) .stop) (.alt 27 (.alt 25 (.alt 28 (.first 29 (.first 30 (.first 31 .done))) .stop) .stop) .stop))))) (.alt 27 (.alt 19 (.first 22 (.first 23 (.first 24 (.alt 25 (.alt 28 (.first 29 (.first 30 (.first 31 .done))) .stop) .stop)))) .stop) .stop)))))))))))) .stop))))) .stop)))) .stop) .stop)))] }

theorem t_spec_ConstraintValid : TabOk Tryz.prog C_spec_ConstraintValid := by
  refine tabOk_of ?_
  simp only [C_spec_ConstraintValid, List.forall_mem_cons]
  exact ⟨k_spec_l1Lit, k_spec_l1Abs, fun p h => by cases h⟩

theorem k_spec_ConstraintValid : Entry Tryz.prog 38 c_spec_ConstraintValid := by
 refine entry_by (C := C_spec_ConstraintValid) mixed tys_ok t_spec_ConstraintValid (fn := Tryz.f38) (c := bd Tryz.f38) (by kernel_rfl) (by kernel_rfl) (by kernel_rfl) (by kernel_rfl) ?_
 intro args st k he
 unfold c_spec_ConstraintValid at he
 split at he
 rotate_left
 ·exact he.elim
 rename_i c__0 c__1
 have he : Ok (spec_ConstraintValid (c__0, c__1)) (fun r => k (.c (.bool r)) []) := he
 refine ⟨rfl, rfl, ?_⟩
 refine loop_model mixed tys_ok t_spec_ConstraintValid (S := Int) (I := (fun i => (envOf [(1, .c (.ptr 10000000 0)), (3, .c (.int .i64 i))], [(10000000, .rc [.imm y1_ (c__0, c__1).1, .int .i64 (c__0, c__1).2])]))) (f := spec_ConstraintValid_l1 (c__0, c__1)) (K := (fun r => k (.c (.bool r)) [])) he (leads_ren [(10000000, 1)] rfl rfl ⟨⟨.inl rfl, rfl, trivial⟩, trivial⟩ ⟨⟨⟨rfl, rfl⟩, rfl⟩, rfl, trivial⟩) ?_
 rintro i J1 he
 refine go_if he (fun he => ?_) fun he => ?_
 ·refine go_rq he fun he => ?_
  refine And.intro (by kernel_rfl) ?_
  refine And.intro ?_ trivial
  refine And.intro ?_ trivial
  refine go_bind he fun r4_ he => ?_
  refine go_if2 he (fun he => ?_) fun he => ?_
  ·refine And.intro ?_ trivial
   refine go_if2 he (fun he => ?_) fun he => ?_
   ·refine And.intro ?_ trivial
    refine go_if2 he (fun he => ?_) fun he => ?_
    ·refine go_if he (fun he => ?_) fun he => ?_
     ·refine go_rq he fun he => ?_
      have he := ok_rq he
      have hq1 := he.1
      have he := he.2
      obtain ⟨r5_, hq2, he⟩ := ok_bind he
      obtain ⟨r6_, hq3, he⟩ := ok_bind he
      refine And.intro ?_ (And.intro ?_ (trivial))
      ·skip
       refine And.intro hq1 ?_
       refine And.intro ?_ (And.intro ?_ (trivial))
       ·skip
        refine ⟨r5_, hq2, ?_⟩
        refine And.intro ?_ trivial
        refine And.intro ?_ trivial
        refine ⟨r6_, hq3, ?_⟩
        refine go_if he (fun he => ?_) fun he => ?_
        ·have he := ok_some he
         exact ⟨rfl, _, _, (leads_ren [] (l := [(2, .c (.bool false))]) (st' := []) rfl rfl trivial ⟨.inr rfl, trivial⟩), he⟩
        ·refine go_rq he fun he => ?_
         have he := ok_some he
         exact ⟨(i + (1:Int)), he, (leads_ren [] rfl rfl ⟨⟨.inl rfl, rfl, trivial⟩, trivial⟩ ⟨⟨⟨rfl, rfl⟩, rfl⟩, rfl, trivial⟩)⟩
       ·skip
        refine And.intro ?_ trivial
        refine ⟨r5_, hq2, ?_⟩
        refine And.intro ?_ trivial
        refine ⟨r6_, hq3, ?_⟩
        refine go_if he (fun he => ?_) fun he => ?_
        ·have he := ok_some he
         exact ⟨rfl, _, _, (leads_ren [] (l := [(2, .c (.bool false))]) (st' := []) rfl rfl trivial ⟨.inr rfl, trivial⟩), he⟩
        ·refine go_rq he fun he => ?_
         have he := ok_some he
         exact ⟨(i + (1:Int)), he, (leads_ren [] rfl rfl ⟨⟨.inl rfl, rfl, trivial⟩, trivial⟩ ⟨⟨⟨rfl, rfl⟩, rfl⟩, rfl, trivial⟩)⟩
      ·skip
       refine And.intro ?_ trivial
       refine And.intro hq1 ?_
       refine And.intro ?_ trivial
       refine ⟨r5_, hq2, ?_⟩
       refine And.intro ?_ trivial
       refine ⟨r6_, hq3, ?_⟩
       refine go_if he (fun he => ?_) fun he => ?_
       ·have he := ok_some he
        exact ⟨rfl, _, _, (leads_ren [] (l := [(2, .c (.bool false))]) (st' := []) rfl rfl trivial ⟨.inr rfl, trivial⟩), he⟩
       ·refine go_rq he fun he => ?_
        have he := ok_some he
        exact ⟨(i + (1:Int)), he, (leads_ren [] rfl rfl ⟨⟨.inl rfl, rfl, trivial⟩, trivial⟩ ⟨⟨⟨rfl, rfl⟩, rfl⟩, rfl, trivial⟩)⟩
     ·refine And.intro ?_ (And.intro ?_ (trivial))
      ·skip
       refine And.intro ?_ (And.intro ?_ (trivial))
       ·skip
        refine And.intro ?_ trivial
        refine And.intro ?_ trivial
        refine go_rq he fun he => ?_
        have he := ok_some he
        exact ⟨(i + (1:Int)), he, (leads_ren [] rfl rfl ⟨⟨.inl rfl, rfl, trivial⟩, trivial⟩ ⟨⟨⟨rfl, rfl⟩, rfl⟩, rfl, trivial⟩)⟩
       ·skip
        refine And.intro ?_ trivial
        refine And.intro ?_ trivial
        refine go_rq he fun he => ?_
        have he := ok_some he
        exact ⟨(i + (1:Int)), he, (leads_ren [] rfl rfl ⟨⟨.inl rfl, rfl, trivial⟩, trivial⟩ ⟨⟨⟨rfl, rfl⟩, rfl⟩, rfl, trivial⟩)⟩
      ·skip
       refine And.intro ?_ trivial
       refine And.intro ?_ trivial
       refine And.intro ?_ trivial
       refine go_rq he fun he => ?_
       have he := ok_some he
       exact ⟨(i + (1:Int)), he, (leads_ren [] rfl rfl ⟨⟨.inl rfl, rfl, trivial⟩, trivial⟩ ⟨⟨⟨rfl, rfl⟩, rfl⟩, rfl, trivial⟩)⟩
    ·refine And.intro ?_ (And.intro ?_ (trivial))
     ·skip
      refine And.intro ?_ (And.intro ?_ (trivial))
      ·skip
       refine And.intro ?_ trivial
       refine And.intro ?_ trivial
       have he := ok_some he
       exact ⟨rfl, _, _, (leads_ren [] (l := [(2, .c (.bool false))]) (st' := []) rfl rfl trivial ⟨.inr rfl, trivial⟩), he⟩
      ·skip
       refine And.intro ?_ trivial
       refine And.intro ?_ trivial
       have he := ok_some he
       exact ⟨rfl, _, _, (leads_ren [] (l := [(2, .c (.bool false))]) (st' := []) rfl rfl trivial ⟨.inr rfl, trivial⟩), he⟩
     ·skip
      refine And.intro ?_ trivial
      refine And.intro ?_ trivial
      refine And.intro ?_ trivial
      have he := ok_some he
      exact ⟨rfl, _, _, (leads_ren [] (l := [(2, .c (.bool false))]) (st' := []) rfl rfl trivial ⟨.inr rfl, trivial⟩), he⟩
   ·refine And.intro ?_ trivial
    refine And.intro ?_ (And.intro ?_ (trivial))
    ·skip
     refine And.intro ?_ (And.intro ?_ (trivial))
     ·skip
      refine And.intro ?_ trivial
      refine And.intro ?_ trivial
      have he := ok_some he
      exact ⟨rfl, _, _, (leads_ren [] (l := [(2, .c (.bool false))]) (st' := []) rfl rfl trivial ⟨.inr rfl, trivial⟩), he⟩
     ·skip
      refine And.intro ?_ trivial
      refine And.intro ?_ trivial
      have he := ok_some he
      exact ⟨rfl, _, _, (leads_ren [] (l := [(2, .c (.bool false))]) (st' := []) rfl rfl trivial ⟨.inr rfl, trivial⟩), he⟩
    ·skip
     refine And.intro ?_ trivial
     refine And.intro ?_ trivial
     refine And.intro ?_ trivial
     have he := ok_some he
     exact ⟨rfl, _, _, (leads_ren [] (l := [(2, .c (.bool false))]) (st' := []) rfl rfl trivial ⟨.inr rfl, trivial⟩), he⟩
  ·refine And.intro ?_ trivial
   refine And.intro ?_ trivial
   refine And.intro ?_ (And.intro ?_ (trivial))
   ·skip
    refine And.intro ?_ (And.intro ?_ (trivial))
    ·skip
     refine And.intro ?_ trivial
     refine And.intro ?_ trivial
     have he := ok_some he
     exact ⟨rfl, _, _, (leads_ren [] (l := [(2, .c (.bool false))]) (st' := []) rfl rfl trivial ⟨.inr rfl, trivial⟩), he⟩
    ·skip
     refine And.intro ?_ trivial
     refine And.intro ?_ trivial
     have he := ok_some he
     exact ⟨rfl, _, _, (leads_ren [] (l := [(2, .c (.bool false))]) (st' := []) rfl rfl trivial ⟨.inr rfl, trivial⟩), he⟩
   ·skip
    refine And.intro ?_ trivial
    refine And.intro ?_ trivial
    refine And.intro ?_ trivial
    have he := ok_some he
    exact ⟨rfl, _, _, (leads_ren [] (l := [(2, .c (.bool false))]) (st' := []) rfl rfl trivial ⟨.inr rfl, trivial⟩), he⟩
 ·refine go_if he (fun he => ?_) fun he => ?_
  ·have he := ok_some he
   exact ⟨rfl, _, _, (leads_ren [] (l := [(2, .c (.bool (decide ((c__0, c__1).2 ≤ (20000:Int)))))]) (st' := []) rfl rfl trivial ⟨.inl rfl, trivial⟩), he⟩
  ·have he := ok_some he
   exact ⟨rfl, _, _, (leads_ren [] (l := [(2, .c (.bool false))]) (st' := []) rfl rfl trivial ⟨.inr rfl, trivial⟩), he⟩

noncomputable def c_spec_ProblemValid : Con := fun args st => match args, st with
  | [.c (.imm (.pair (.sl (.pair (.int .i64) (.int .i64))) (.int .i64)) list_)], [] => .opt (Bool) (spec_ProblemValid list_) (fun r => .ret (.c (.bool r)) [])
  | _, _ => .fail

noncomputable def C_spec_ProblemValid : Cfg := { y := tys, n := 19, h := 0, tab := [(38, c_spec_ConstraintValid)], cut := [], hand := [], good := [], deep := [], sched := [] }

theorem t_spec_ProblemValid : TabOk Tryz.prog C_spec_ProblemValid := by
  refine tabOk_of ?_
  simp only [C_spec_ProblemValid, List.forall_mem_cons]
  exact ⟨k_spec_ConstraintValid, fun p h => by cases h⟩

theorem k_spec_ProblemValid : Entry Tryz.prog 20 c_spec_ProblemValid := by
 refine entry_by (C := C_spec_ProblemValid) mixed tys_ok t_spec_ProblemValid (fn := Tryz.f20) (c := bd Tryz.f20) (by kernel_rfl) (by kernel_rfl) (by kernel_rfl) (by kernel_rfl) ?_
 intro args st k he
 unfold c_spec_ProblemValid at he
 split at he
 rotate_left
 ·exact he.elim
 rename_i list_
 have he : Ok (spec_ProblemValid list_) (fun r => k (.c (.bool r)) []) := he
 refine ⟨rfl, rfl, ?_⟩
 refine loop_model mixed tys_ok t_spec_ProblemValid (S := Int) (I := (fun i => (envOf [(0, .c (.imm y2_ list_)), (3, .c (.int .i64 i))], []))) (f := spec_ProblemValid_l1 list_) (K := (fun r => k (.c (.bool r)) [])) he (leads_ren [] rfl rfl trivial ⟨.inl rfl, rfl, trivial⟩) ?_
 rintro i J1 he
 refine go_if he (fun he => ?_) fun he => ?_
 ·refine go_rq he fun he => ?_
  refine go_bind he fun r1_ he => ?_
  refine go_if he (fun he => ?_) fun he => ?_
  ·have he := ok_some he
   exact ⟨rfl, _, _, Leads.refl _ _, he⟩
  ·refine go_rq he fun he => ?_
   have he := ok_some he
   exact ⟨(i + (1:Int)), he, (leads_ren [] rfl rfl trivial ⟨.inl rfl, rfl, trivial⟩)⟩
 ·have he := ok_some he
  exact ⟨rfl, _, _, Leads.refl _ _, he⟩

noncomputable def c_spec_l12Vars : Con := fun args st => match args, st with
  | [.c (.imm (.int .i64) vars)], [] => .opt (Bool) (spec_l12Vars vars) (fun r => .ret (.c (.bool r)) [])
  | _, _ => .fail

noncomputable def C_spec_l12Vars : Cfg := { y := tys, n := 41, h := 0, tab := [], cut := [], hand := [], good := [], deep := [], sched := [] }

theorem t_spec_l12Vars : TabOk Tryz.prog C_spec_l12Vars := tabOk_of (fun p h => by cases h)

theorem k_spec_l12Vars : Entry Tryz.prog 21 c_spec_l12Vars := by
 refine entry_by (C := C_spec_l12Vars) mixed tys_ok t_spec_l12Vars (fn := Tryz.f21) (c := bd Tryz.f21) (by kernel_rfl) (by kernel_rfl) (by kernel_rfl) (by kernel_rfl) ?_
 intro args st k he
 unfold c_spec_l12Vars at he
 split at he
 rotate_left
 ·exact he.elim
 rename_i vars
 have he : Ok (spec_l12Vars vars) (fun r => k (.c (.bool r)) []) := he
 refine ⟨rfl, rfl, ?_⟩
 refine loop_model mixed tys_ok t_spec_l12Vars (S := Int) (I := (fun i => (envOf [(0, .c (.imm y0_ vars)), (3, .c (.int .i64 i))], []))) (f := spec_l12Vars_l1 vars) (K := (fun r => k (.c (.bool r)) [])) he (leads_ren [] rfl rfl trivial ⟨.inl rfl, rfl, trivial⟩) ?_
 rintro i J1 he
 refine go_if he (fun he => ?_) fun he => ?_
 ·refine And.intro (by kernel_rfl) ?_
  refine go_rq he fun he => ?_
  refine go_if2 he (fun he => ?_) fun he => ?_
  ·refine go_rq he fun he => ?_
   refine go_if2 he (fun he => ?_) fun he => ?_
   ·refine go_if he (fun he => ?_) fun he => ?_
    ·refine go_rq he fun he => ?_
     refine go_rq he fun he => ?_
     refine go_rq he fun he => ?_
     refine go_if he (fun he => ?_) fun he => ?_
     ·have he := ok_some he
      exact ⟨rfl, _, _, Leads.refl _ _, he⟩
     ·refine go_rq he fun he => ?_
      have he := ok_some he
      exact ⟨(i + (1:Int)), he, (leads_ren [] rfl rfl trivial ⟨.inl rfl, rfl, trivial⟩)⟩
    ·refine go_rq he fun he => ?_
     have he := ok_some he
     exact ⟨(i + (1:Int)), he, (leads_ren [] rfl rfl trivial ⟨.inl rfl, rfl, trivial⟩)⟩
   ·have he := ok_some he
    exact ⟨rfl, _, _, Leads.refl _ _, he⟩
  ·have he := ok_some he
   exact ⟨rfl, _, _, Leads.refl _ _, he⟩
 ·have he := ok_some he
  exact ⟨rfl, _, _, Leads.refl _ _, he⟩

noncomputable def c_spec_l12Cubes : Con := fun args st => match args, st with
  | [.c (.imm (.int .i64) vars)], [] => .opt ((List (List Int))) (spec_l12Cubes vars) (fun r => .ret (.c (.own 900 false)) [(900, .sl 23 (.sl y0_) r (.deep true .no))])
  | _, _ => .fail

noncomputable def C_spec_l12Cubes : Cfg := { y := tys, n := 55, h := 0, tab := [], cut := [10], hand := [], good := [], deep := [8, 15, 35, 51], sched := [(9, (.first 0 (.first 2 (.first 3 (.first 4 (.first 7 (.first 8 (.first 9 (.first 10 (.alt 1 (.alt 5 (.alt 6 (.alt 11 (.alt 12 (.alt 13 (.alt 14 (.first 15 .done) .stop) .stop) .stop) .stop) (.alt 11 (.alt 6 (.alt 12 (.alt 13 (.alt 14 (.first 15 .done) .stop) .stop) .stop) .stop) .stop)) (.alt 11 (.alt 5 (.alt 6 (.alt 12 (.alt 13 (.alt 14 (.first 15 .done) .stop) .stop) .stop) .stop) .stop) .stop)) (.alt 5 (.alt 1 (.alt 6 (.alt 11 (.alt 12 (.alt 13 (.alt 14 (.first 15 .done) .stop) .stop) .stop) .stop) (.alt 11 (.alt 6 (.alt 12 (.alt 13 (.alt 14 (.first 15 .done) .stop) .stop) .stop) .stop) .stop)) (.alt 11 (.alt 1 (.alt 6 (.alt 12 (.alt 13 (.alt 14 (.first 15 .done) .stop) .stop) .stop) .stop) .stop) .stop)) (.alt 11 (.alt 1 (.alt 5 (.alt 6 (.alt 12 (.alt 13 (.alt 14 (.first 15 .done) .stop) .stop) .stop) .stop) .stop) (.alt 5 (.alt 1 (.alt 6 (.alt 12 (.alt 13 (.alt 14 (.first 15 .done) .stop) .stop) .stop) .stop) .stop) .stop)) .stop)))))))))))), (10, (.first 0 (.first 2 (.first 3 (.first 4 (.first 7 (.first 8 (.first 9 (.first 10 (.first 11 (.alt 1 (.alt 5 (.alt 6 (.alt 12 (.alt 13 (.alt 14 (.alt 15 (.first 16 .done) .stop) .stop) .stop) .stop) (.alt 12 (.alt 6 (.alt 13 (.alt 14 (.alt 15 (.first 16 .done) .stop) .stop) .stop) .stop) .stop)) (.alt 12 (.alt 5 (.alt 6 (.alt 13 (.alt 14 (.alt 15 (.first 16 .done) .stop) .stop) .stop) .stop) .stop) .stop)) (.alt 5 (.alt 1 (.alt 6 (.alt 12 (.alt 13 (.alt 14 (.alt 15 (.first 16 .done) .stop) .stop) .stop) .stop) (.alt 12 (.alt 6 (.alt 13 (.alt 14 (.alt 15 (.first 16 .done) .stop) .stop) .stop) .stop) .stop)) (.alt 12 (.alt 1 (.alt 6 (.alt 13 (.alt 14 (.alt 15 (.first 16 .done) .stop) .stop) .stop) .stop) .stop) .stop)) (.alt 12 (.alt 1 (.alt 5 (.alt 6 (.alt 13 (.alt 14 (.alt 15 (.first 16 .done) .stop) .stop) .stop) .stop) .stop) (.alt 5 (.alt 1 (.alt 6 (.alt 13 (.alt 14 (.alt 15 (.first 16 .done) .stop) .stop) .stop) .stop) .stop) .stop)) .stop)))))))))))))] }

theorem t_spec_l12Cubes : TabOk Tryz.prog C_spec_l12Cubes := tabOk_of (fun p h => by cases h)

theorem k_spec_l12Cubes : Entry Tryz.prog 22 c_spec_l12Cubes := by
 refine entry_by (C := C_spec_l12Cubes) mixed tys_ok t_spec_l12Cubes (fn := Tryz.f22) (c := bd Tryz.f22) (by kernel_rfl) (by kernel_rfl) (by kernel_rfl) (by kernel_rfl) ?_
 intro args st k he
 unfold c_spec_l12Cubes at he
 split at he
 rotate_left
 ·exact he.elim
 rename_i vars
 have he : Ok (spec_l12Cubes vars) (fun r => k (.c (.own 900 false)) [(900, .sl 23 (.sl y0_) r (.deep true .no))]) := he
 refine ⟨rfl, rfl, ?_⟩
 refine loop_model mixed tys_ok t_spec_l12Cubes (S := Int × (List (List Int))) (I := (fun (i, out1) => (envOf [(0, .c (.imm y0_ vars)), (3, .c (.own 10000000 false)), (4, .c (.int .i64 i))], [(10000000, .sl 23 (.sl y0_) out1 (.deep true .no))]))) (f := spec_l12Cubes_l1 vars) (K := (fun r => k (.c (.own 900 false)) [(900, .sl 23 (.sl y0_) r (.deep true .no))])) he (leads_ren [(10000000, 8)] rfl rfl ⟨⟨rfl, rfl⟩, trivial⟩ ⟨.inl rfl, ⟨⟨rfl, rfl⟩, trivial⟩, rfl, trivial⟩) ?_
 rintro ⟨i, out1⟩ J1 he
 refine go_if he (fun he => ?_) fun he => ?_
 ·refine loop_model mixed tys_ok t_spec_l12Cubes (S := Int × (List (List Int)) × (List (List Int))) (I := (fun (k_1, out2, next1) => (envOf [(0, .c (.imm y0_ vars)), (3, .c (.own 10004000 false)), (4, .c (.int .i64 i)), (5, .c (.own 10004001 false)), (6, .c (.int .i64 k_1))], [(10004000, .sl 23 (.sl y0_) out2 (.deep true .no)), (10004001, .sl 23 (.sl y0_) next1 (.deep true .no))]))) (f := spec_l12Cubes_l2 vars i) (K := (LK J1 (fun r => k (.c (.own 900 false)) [(900, .sl 23 (.sl y0_) r (.deep true .no))]))) he (leads_ren [(10004000, 10000000), (10004001, 15)] rfl rfl ⟨⟨rfl, rfl⟩, ⟨rfl, rfl⟩, trivial⟩ ⟨.inl rfl, ⟨⟨rfl, rfl⟩, trivial⟩, rfl, ⟨⟨rfl, rfl⟩, trivial⟩, rfl, trivial⟩) ?_
  rintro ⟨k_1, out2, next1⟩ J2 he
  refine go_if he (fun he => ?_) fun he => ?_
  ·refine seq_model mixed tys_ok t_spec_l12Cubes (S := Unit) (I := (fun _ => (envOf [(0, .c (.imm y0_ vars)), (3, .c (.own 10006000 false)), (4, .c (.int .i64 i)), (5, .c (.own 10006001 false)), (6, .c (.int .i64 k_1))], [(10006000, .sl 23 (.sl y0_) (out2.set k_1.toNat (out2.getD k_1.toNat [])) (.deep true .no)), (10006001, .sl 23 (.sl y0_) (next1 ++ [((([] : List Int) ++ (out2.getD k_1.toNat [])) ++ [(vars.getD i.toNat 0)])]) (.deep true .no))]))) (B := fun s => Ok (spec_l12Cubes_j1 vars i k_1 out2 next1 s) (LK J2 (LK J1 (fun r => k (.c (.own 900 false)) [(900, .sl 23 (.sl y0_) r (.deep true .no))])))) ?_ ?_
   ·rintro ⟨⟩ he
    refine And.intro (by kernel_rfl) ?_
    refine go_rq he fun he => ?_
    refine go_rq he fun he => ?_
    refine go_rq he fun he => ?_
    have he := ok_rq he
    have hq1 := he.1
    have he := he.2
    have he := ok_rq he
    have hq2 := he.1
    have he := he.2
    have he := ok_rq he
    have hq3 := he.1
    have he := he.2
    refine And.intro ?_ (And.intro ?_ (And.intro ?_ (trivial)))
    ·skip
     refine And.intro ?_ (And.intro ?_ (trivial))
     ·skip
      refine And.intro ?_ (And.intro ?_ (trivial))
      ·skip
       refine And.intro hq1 ?_
       refine And.intro ?_ trivial
       refine And.intro ?_ trivial
       refine And.intro hq2 ?_
       refine And.intro ?_ trivial
       refine And.intro ?_ trivial
       refine And.intro hq3 ?_
       refine go_rq he fun he => ?_
       have he := ok_some he
       exact ⟨((k_1 + (1:Int)), ((out2.set k_1.toNat (out2.getD k_1.toNat [])).set k_1.toNat ((out2.set k_1.toNat (out2.getD k_1.toNat [])).getD k_1.toNat [])), ((next1 ++ [((([] : List Int) ++ (out2.getD k_1.toNat [])) ++ [(vars.getD i.toNat 0)])]) ++ [((([] : List Int) ++ ((out2.set k_1.toNat (out2.getD k_1.toNat [])).getD k_1.toNat [])) ++ [(0 - (vars.getD i.toNat 0))])])), he, ((leads_close [10006000] rfl).trans (leads_ren [(10004000, 10006000), (10004001, 52)] (l := [(0, .c (.imm y0_ vars)), (3, .c (.own 10004000 false)), (4, .c (.int .i64 i)), (5, .c (.own 10004001 false)), (6, .c (.int .i64 (k_1 + (1:Int))))]) (st' := [(10004000, .sl 23 (.sl y0_) ((out2.set k_1.toNat (out2.getD k_1.toNat [])).set k_1.toNat ((out2.set k_1.toNat (out2.getD k_1.toNat [])).getD k_1.toNat [])) (.deep true .no)), (10004001, .sl 23 (.sl y0_) ((next1 ++ [((([] : List Int) ++ (out2.getD k_1.toNat [])) ++ [(vars.getD i.toNat 0)])]) ++ [((([] : List Int) ++ ((out2.set k_1.toNat (out2.getD k_1.toNat [])).getD k_1.toNat [])) ++ [(0 - (vars.getD i.toNat 0))])]) (.deep true .no))]) rfl rfl (by exact ⟨⟨rfl, rfl⟩, ⟨rfl, rfl⟩, trivial⟩) (by exact ⟨.inl rfl, ⟨⟨rfl, rfl⟩, trivial⟩, rfl, ⟨⟨rfl, rfl⟩, trivial⟩, rfl, trivial⟩)))⟩
      ·skip
       refine And.intro ?_ trivial
       refine And.intro hq1 ?_
       refine And.intro ?_ trivial
       refine And.intro hq2 ?_
       refine And.intro ?_ trivial
       refine And.intro ?_ trivial
       refine And.intro hq3 ?_
       refine go_rq he fun he => ?_
       have he := ok_some he
       exact ⟨((k_1 + (1:Int)), ((out2.set k_1.toNat (out2.getD k_1.toNat [])).set k_1.toNat ((out2.set k_1.toNat (out2.getD k_1.toNat [])).getD k_1.toNat [])), ((next1 ++ [((([] : List Int) ++ (out2.getD k_1.toNat [])) ++ [(vars.getD i.toNat 0)])]) ++ [((([] : List Int) ++ ((out2.set k_1.toNat (out2.getD k_1.toNat [])).getD k_1.toNat [])) ++ [(0 - (vars.getD i.toNat 0))])])), he, ((leads_close [10006000] rfl).trans (leads_ren [(10004000, 10006000), (10004001, 52)] (l := [(0, .c (.imm y0_ vars)), (3, .c (.own 10004000 false)), (4, .c (.int .i64 i)), (5, .c (.own 10004001 false)), (6, .c (.int .i64 (k_1 + (1:Int))))]) (st' := [(10004000, .sl 23 (.sl y0_) ((out2.set k_1.toNat (out2.getD k_1.toNat [])).set k_1.toNat ((out2.set k_1.toNat (out2.getD k_1.toNat [])).getD k_1.toNat [])) (.deep true .no)), (10004001, .sl 23 (.sl y0_) ((next1 ++ [((([] : List Int) ++ (out2.getD k_1.toNat [])) ++ [(vars.getD i.toNat 0)])]) ++ [((([] : List Int) ++ ((out2.set k_1.toNat (out2.getD k_1.toNat [])).getD k_1.toNat [])) ++ [(0 - (vars.getD i.toNat 0))])]) (.deep true .no))]) rfl rfl (by exact ⟨⟨rfl, rfl⟩, ⟨rfl, rfl⟩, trivial⟩) (by exact ⟨.inl rfl, ⟨⟨rfl, rfl⟩, trivial⟩, rfl, ⟨⟨rfl, rfl⟩, trivial⟩, rfl, trivial⟩)))⟩
     ·skip
      refine And.intro ?_ trivial
      refine And.intro ?_ trivial
      refine And.intro hq1 ?_
      refine And.intro ?_ trivial
      refine And.intro hq2 ?_
      refine And.intro ?_ trivial
      refine And.intro ?_ trivial
      refine And.intro hq3 ?_
      refine go_rq he fun he => ?_
      have he := ok_some he
      exact ⟨((k_1 + (1:Int)), ((out2.set k_1.toNat (out2.getD k_1.toNat [])).set k_1.toNat ((out2.set k_1.toNat (out2.getD k_1.toNat [])).getD k_1.toNat [])), ((next1 ++ [((([] : List Int) ++ (out2.getD k_1.toNat [])) ++ [(vars.getD i.toNat 0)])]) ++ [((([] : List Int) ++ ((out2.set k_1.toNat (out2.getD k_1.toNat [])).getD k_1.toNat [])) ++ [(0 - (vars.getD i.toNat 0))])])), he, ((leads_close [10006000] rfl).trans (leads_ren [(10004000, 10006000), (10004001, 52)] (l := [(0, .c (.imm y0_ vars)), (3, .c (.own 10004000 false)), (4, .c (.int .i64 i)), (5, .c (.own 10004001 false)), (6, .c (.int .i64 (k_1 + (1:Int))))]) (st' := [(10004000, .sl 23 (.sl y0_) ((out2.set k_1.toNat (out2.getD k_1.toNat [])).set k_1.toNat ((out2.set k_1.toNat (out2.getD k_1.toNat [])).getD k_1.toNat [])) (.deep true .no)), (10004001, .sl 23 (.sl y0_) ((next1 ++ [((([] : List Int) ++ (out2.getD k_1.toNat [])) ++ [(vars.getD i.toNat 0)])]) ++ [((([] : List Int) ++ ((out2.set k_1.toNat (out2.getD k_1.toNat [])).getD k_1.toNat [])) ++ [(0 - (vars.getD i.toNat 0))])]) (.deep true .no))]) rfl rfl (by exact ⟨⟨rfl, rfl⟩, ⟨rfl, rfl⟩, trivial⟩) (by exact ⟨.inl rfl, ⟨⟨rfl, rfl⟩, trivial⟩, rfl, ⟨⟨rfl, rfl⟩, trivial⟩, rfl, trivial⟩)))⟩
    ·skip
     refine And.intro ?_ (And.intro ?_ (trivial))
     ·skip
      refine And.intro ?_ (And.intro ?_ (trivial))
      ·skip
       refine And.intro hq1 ?_
       refine And.intro ?_ trivial
       refine And.intro ?_ trivial
       refine And.intro hq2 ?_
       refine And.intro ?_ trivial
       refine And.intro ?_ trivial
       refine And.intro hq3 ?_
       refine go_rq he fun he => ?_
       have he := ok_some he
       exact ⟨((k_1 + (1:Int)), ((out2.set k_1.toNat (out2.getD k_1.toNat [])).set k_1.toNat ((out2.set k_1.toNat (out2.getD k_1.toNat [])).getD k_1.toNat [])), ((next1 ++ [((([] : List Int) ++ (out2.getD k_1.toNat [])) ++ [(vars.getD i.toNat 0)])]) ++ [((([] : List Int) ++ ((out2.set k_1.toNat (out2.getD k_1.toNat [])).getD k_1.toNat [])) ++ [(0 - (vars.getD i.toNat 0))])])), he, ((leads_close [10006000] rfl).trans (leads_ren [(10004000, 10006000), (10004001, 52)] (l := [(0, .c (.imm y0_ vars)), (3, .c (.own 10004000 false)), (4, .c (.int .i64 i)), (5, .c (.own 10004001 false)), (6, .c (.int .i64 (k_1 + (1:Int))))]) (st' := [(10004000, .sl 23 (.sl y0_) ((out2.set k_1.toNat (out2.getD k_1.toNat [])).set k_1.toNat ((out2.set k_1.toNat (out2.getD k_1.toNat [])).getD k_1.toNat [])) (.deep true .no)), (10004001, .sl 23 (.sl y0_) ((next1 ++ [((([] : List Int) ++ (out2.getD k_1.toNat [])) ++ [(vars.getD i.toNat 0)])]) ++ [((([] : List Int) ++ ((out2.set k_1.toNat (out2.getD k_1.toNat [])).getD k_1.toNat [])) ++ [(0 - (vars.getD i.toNat 0))])]) (.deep true .no))]) rfl rfl (by exact ⟨⟨rfl, rfl⟩, ⟨rfl, rfl⟩, trivial⟩) (by exact ⟨.inl rfl, ⟨⟨rfl, rfl⟩, trivial⟩, rfl, ⟨⟨rfl, rfl⟩, trivial⟩, rfl, trivial⟩)))⟩
      ·skip
       refine And.intro ?_ trivial
       refine And.intro hq1 ?_
       refine And.intro ?_ trivial
       refine And.intro hq2 ?_
       refine And.intro ?_ trivial
       refine And.intro ?_ trivial
       refine And.intro hq3 ?_
       refine go_rq he fun he => ?_
       have he := ok_some he
       exact ⟨((k_1 + (1:Int)), ((out2.set k_1.toNat (out2.getD k_1.toNat [])).set k_1.toNat ((out2.set k_1.toNat (out2.getD k_1.toNat [])).getD k_1.toNat [])), ((next1 ++ [((([] : List Int) ++ (out2.getD k_1.toNat [])) ++ [(vars.getD i.toNat 0)])]) ++ [((([] : List Int) ++ ((out2.set k_1.toNat (out2.getD k_1.toNat [])).getD k_1.toNat [])) ++ [(0 - (vars.getD i.toNat 0))])])), he, ((leads_close [10006000] rfl).trans (leads_ren [(10004000, 10006000), (10004001, 52)] (l := [(0, .c (.imm y0_ vars)), (3, .c (.own 10004000 false)), (4, .c (.int .i64 i)), (5, .c (.own 10004001 false)), (6, .c (.int .i64 (k_1 + (1:Int))))]) (st' := [(10004000, .sl 23 (.sl y0_) ((out2.set k_1.toNat (out2.getD k_1.toNat [])).set k_1.toNat ((out2.set k_1.toNat (out2.getD k_1.toNat [])).getD k_1.toNat [])) (.deep true .no)), (10004001, .sl 23 (.sl y0_) ((next1 ++ [((([] : List Int) ++ (out2.getD k_1.toNat [])) ++ [(vars.getD i.toNat 0)])]) ++ [((([] : List Int) ++ ((out2.set k_1.toNat (out2.getD k_1.toNat [])).getD k_1.toNat [])) ++ [(0 - (vars.getD i.toNat 0))])]) (.deep true .no))]) rfl rfl (by exact ⟨⟨rfl, rfl⟩, ⟨rfl, rfl⟩, trivial⟩) (by exact ⟨.inl rfl, ⟨⟨rfl, rfl⟩, trivial⟩, rfl, ⟨⟨rfl, rfl⟩, trivial⟩, rfl, trivial⟩)))⟩
     ·skip
      refine And.intro ?_ trivial
      refine And.intro ?_ trivial
      refine And.intro hq1 ?_
      refine And.intro ?_ trivial
      refine And.intro hq2 ?_
      refine And.intro ?_ trivial
      refine And.intro ?_ trivial
      refine And.intro hq3 ?_
      refine go_rq he fun he => ?_
      have he := ok_some he
      exact ⟨((k_1 + (1:Int)), ((out2.set k_1.toNat (out2.getD k_1.toNat [])).set k_1.toNat ((out2.set k_1.toNat (out2.getD k_1.toNat [])).getD k_1.toNat [])), ((next1 ++ [((([] : List Int) ++ (out2.getD k_1.toNat [])) ++ [(vars.getD i.toNat 0)])]) ++ [((([] : List Int) ++ ((out2.set k_1.toNat (out2.getD k_1.toNat [])).getD k_1.toNat [])) ++ [(0 - (vars.getD i.toNat 0))])])), he, ((leads_close [10006000] rfl).trans (leads_ren [(10004000, 10006000), (10004001, 52)] (l := [(0, .c (.imm y0_ vars)), (3, .c (.own 10004000 false)), (4, .c (.int .i64 i)), (5, .c (.own 10004001 false)), (6, .c (.int .i64 (k_1 + (1:Int))))]) (st' := [(10004000, .sl 23 (.sl y0_) ((out2.set k_1.toNat (out2.getD k_1.toNat [])).set k_1.toNat ((out2.set k_1.toNat (out2.getD k_1.toNat [])).getD k_1.toNat [])) (.deep true .no)), (10004001, .sl 23 (.sl y0_) ((next1 ++ [((([] : List Int) ++ (out2.getD k_1.toNat [])) ++ [(vars.getD i.toNat 0)])]) ++ [((([] : List Int) ++ ((out2.set k_1.toNat (out2.getD k_1.toNat [])).getD k_1.toNat [])) ++ [(0 - (vars.getD i.toNat 0))])]) (.deep true .no))]) rfl rfl (by exact ⟨⟨rfl, rfl⟩, ⟨rfl, rfl⟩, trivial⟩) (by exact ⟨.inl rfl, ⟨⟨rfl, rfl⟩, trivial⟩, rfl, ⟨⟨rfl, rfl⟩, trivial⟩, rfl, trivial⟩)))⟩
    ·skip
     refine And.intro ?_ (And.intro ?_ (trivial))
     ·skip
      refine And.intro ?_ trivial
      refine And.intro ?_ trivial
      refine And.intro hq1 ?_
      refine And.intro ?_ trivial
      refine And.intro hq2 ?_
      refine And.intro ?_ trivial
      refine And.intro ?_ trivial
      refine And.intro hq3 ?_
      refine go_rq he fun he => ?_
      have he := ok_some he
      exact ⟨((k_1 + (1:Int)), ((out2.set k_1.toNat (out2.getD k_1.toNat [])).set k_1.toNat ((out2.set k_1.toNat (out2.getD k_1.toNat [])).getD k_1.toNat [])), ((next1 ++ [((([] : List Int) ++ (out2.getD k_1.toNat [])) ++ [(vars.getD i.toNat 0)])]) ++ [((([] : List Int) ++ ((out2.set k_1.toNat (out2.getD k_1.toNat [])).getD k_1.toNat [])) ++ [(0 - (vars.getD i.toNat 0))])])), he, ((leads_close [10006000] rfl).trans (leads_ren [(10004000, 10006000), (10004001, 52)] (l := [(0, .c (.imm y0_ vars)), (3, .c (.own 10004000 false)), (4, .c (.int .i64 i)), (5, .c (.own 10004001 false)), (6, .c (.int .i64 (k_1 + (1:Int))))]) (st' := [(10004000, .sl 23 (.sl y0_) ((out2.set k_1.toNat (out2.getD k_1.toNat [])).set k_1.toNat ((out2.set k_1.toNat (out2.getD k_1.toNat [])).getD k_1.toNat [])) (.deep true .no)), (10004001, .sl 23 (.sl y0_) ((next1 ++ [((([] : List Int) ++ (out2.getD k_1.toNat [])) ++ [(vars.getD i.toNat 0)])]) ++ [((([] : List Int) ++ ((out2.set k_1.toNat (out2.getD k_1.toNat [])).getD k_1.toNat [])) ++ [(0 - (vars.getD i.toNat 0))])]) (.deep true .no))]) rfl rfl (by exact ⟨⟨rfl, rfl⟩, ⟨rfl, rfl⟩, trivial⟩) (by exact ⟨.inl rfl, ⟨⟨rfl, rfl⟩, trivial⟩, rfl, ⟨⟨rfl, rfl⟩, trivial⟩, rfl, trivial⟩)))⟩
     ·skip
      refine And.intro ?_ trivial
      refine And.intro ?_ trivial
      refine And.intro hq1 ?_
      refine And.intro ?_ trivial
      refine And.intro hq2 ?_
      refine And.intro ?_ trivial
      refine And.intro ?_ trivial
      refine And.intro hq3 ?_
      refine go_rq he fun he => ?_
      have he := ok_some he
      exact ⟨((k_1 + (1:Int)), ((out2.set k_1.toNat (out2.getD k_1.toNat [])).set k_1.toNat ((out2.set k_1.toNat (out2.getD k_1.toNat [])).getD k_1.toNat [])), ((next1 ++ [((([] : List Int) ++ (out2.getD k_1.toNat [])) ++ [(vars.getD i.toNat 0)])]) ++ [((([] : List Int) ++ ((out2.set k_1.toNat (out2.getD k_1.toNat [])).getD k_1.toNat [])) ++ [(0 - (vars.getD i.toNat 0))])])), he, ((leads_close [10006000] rfl).trans (leads_ren [(10004000, 10006000), (10004001, 52)] (l := [(0, .c (.imm y0_ vars)), (3, .c (.own 10004000 false)), (4, .c (.int .i64 i)), (5, .c (.own 10004001 false)), (6, .c (.int .i64 (k_1 + (1:Int))))]) (st' := [(10004000, .sl 23 (.sl y0_) ((out2.set k_1.toNat (out2.getD k_1.toNat [])).set k_1.toNat ((out2.set k_1.toNat (out2.getD k_1.toNat [])).getD k_1.toNat [])) (.deep true .no)), (10004001, .sl 23 (.sl y0_) ((next1 ++ [((([] : List Int) ++ (out2.getD k_1.toNat [])) ++ [(vars.getD i.toNat 0)])]) ++ [((([] : List Int) ++ ((out2.set k_1.toNat (out2.getD k_1.toNat [])).getD k_1.toNat [])) ++ [(0 - (vars.getD i.toNat 0))])]) (.deep true .no))]) rfl rfl (by exact ⟨⟨rfl, rfl⟩, ⟨rfl, rfl⟩, trivial⟩) (by exact ⟨.inl rfl, ⟨⟨rfl, rfl⟩, trivial⟩, rfl, ⟨⟨rfl, rfl⟩, trivial⟩, rfl, trivial⟩)))⟩
   ·skip
    refine And.intro (by kernel_rfl) ?_
    refine go_rq he fun he => ?_
    refine go_rq he fun he => ?_
    have he := ok_rq he
    have hq1 := he.1
    have he := he.2
    have he := ok_rq he
    have hq2 := he.1
    have he := he.2
    have he := ok_rq he
    have hq3 := he.1
    have he := he.2
    refine And.intro ?_ (And.intro ?_ (And.intro ?_ (trivial)))
    ·skip
     refine And.intro ?_ (And.intro ?_ (trivial))
     ·skip
      refine And.intro ?_ (And.intro ?_ (trivial))
      ·skip
       refine And.intro hq1 ?_
       refine And.intro ?_ trivial
       refine And.intro ?_ trivial
       refine And.intro hq2 ?_
       refine And.intro ?_ trivial
       refine And.intro ?_ trivial
       refine And.intro hq3 ?_
       exact ⟨(), he, ((leads_close [10004000] rfl).trans (leads_ren [(10006000, 10004000), (10006001, 36)] (l := [(0, .c (.imm y0_ vars)), (3, .c (.own 10006000 false)), (4, .c (.int .i64 i)), (5, .c (.own 10006001 false)), (6, .c (.int .i64 k_1))]) (st' := [(10006000, .sl 23 (.sl y0_) (out2.set k_1.toNat (out2.getD k_1.toNat [])) (.deep true .no)), (10006001, .sl 23 (.sl y0_) (next1 ++ [((([] : List Int) ++ (out2.getD k_1.toNat [])) ++ [(vars.getD i.toNat 0)])]) (.deep true .no))]) rfl rfl (by exact ⟨⟨rfl, rfl⟩, ⟨rfl, rfl⟩, trivial⟩) (by exact ⟨.inl rfl, ⟨⟨rfl, rfl⟩, trivial⟩, rfl, ⟨⟨rfl, rfl⟩, trivial⟩, rfl, trivial⟩)))⟩
      ·skip
       refine And.intro ?_ trivial
       refine And.intro hq1 ?_
       refine And.intro ?_ trivial
       refine And.intro hq2 ?_
       refine And.intro ?_ trivial
       refine And.intro ?_ trivial
       refine And.intro hq3 ?_
       exact ⟨(), he, ((leads_close [10004000] rfl).trans (leads_ren [(10006000, 10004000), (10006001, 36)] (l := [(0, .c (.imm y0_ vars)), (3, .c (.own 10006000 false)), (4, .c (.int .i64 i)), (5, .c (.own 10006001 false)), (6, .c (.int .i64 k_1))]) (st' := [(10006000, .sl 23 (.sl y0_) (out2.set k_1.toNat (out2.getD k_1.toNat [])) (.deep true .no)), (10006001, .sl 23 (.sl y0_) (next1 ++ [((([] : List Int) ++ (out2.getD k_1.toNat [])) ++ [(vars.getD i.toNat 0)])]) (.deep true .no))]) rfl rfl (by exact ⟨⟨rfl, rfl⟩, ⟨rfl, rfl⟩, trivial⟩) (by exact ⟨.inl rfl, ⟨⟨rfl, rfl⟩, trivial⟩, rfl, ⟨⟨rfl, rfl⟩, trivial⟩, rfl, trivial⟩)))⟩
     ·skip
      refine And.intro ?_ trivial
      refine And.intro ?_ trivial
      refine And.intro hq1 ?_
      refine And.intro ?_ trivial
      refine And.intro hq2 ?_
      refine And.intro ?_ trivial
      refine And.intro ?_ trivial
      refine And.intro hq3 ?_
      exact ⟨(), he, ((leads_close [10004000] rfl).trans (leads_ren [(10006000, 10004000), (10006001, 36)] (l := [(0, .c (.imm y0_ vars)), (3, .c (.own 10006000 false)), (4, .c (.int .i64 i)), (5, .c (.own 10006001 false)), (6, .c (.int .i64 k_1))]) (st' := [(10006000, .sl 23 (.sl y0_) (out2.set k_1.toNat (out2.getD k_1.toNat [])) (.deep true .no)), (10006001, .sl 23 (.sl y0_) (next1 ++ [((([] : List Int) ++ (out2.getD k_1.toNat [])) ++ [(vars.getD i.toNat 0)])]) (.deep true .no))]) rfl rfl (by exact ⟨⟨rfl, rfl⟩, ⟨rfl, rfl⟩, trivial⟩) (by exact ⟨.inl rfl, ⟨⟨rfl, rfl⟩, trivial⟩, rfl, ⟨⟨rfl, rfl⟩, trivial⟩, rfl, trivial⟩)))⟩
    ·skip
     refine And.intro ?_ (And.intro ?_ (trivial))
     ·skip
      refine And.intro ?_ (And.intro ?_ (trivial))
      ·skip
       refine And.intro hq1 ?_
       refine And.intro ?_ trivial
       refine And.intro ?_ trivial
       refine And.intro hq2 ?_
       refine And.intro ?_ trivial
       refine And.intro ?_ trivial
       refine And.intro hq3 ?_
       exact ⟨(), he, ((leads_close [10004000] rfl).trans (leads_ren [(10006000, 10004000), (10006001, 36)] (l := [(0, .c (.imm y0_ vars)), (3, .c (.own 10006000 false)), (4, .c (.int .i64 i)), (5, .c (.own 10006001 false)), (6, .c (.int .i64 k_1))]) (st' := [(10006000, .sl 23 (.sl y0_) (out2.set k_1.toNat (out2.getD k_1.toNat [])) (.deep true .no)), (10006001, .sl 23 (.sl y0_) (next1 ++ [((([] : List Int) ++ (out2.getD k_1.toNat [])) ++ [(vars.getD i.toNat 0)])]) (.deep true .no))]) rfl rfl (by exact ⟨⟨rfl, rfl⟩, ⟨rfl, rfl⟩, trivial⟩) (by exact ⟨.inl rfl, ⟨⟨rfl, rfl⟩, trivial⟩, rfl, ⟨⟨rfl, rfl⟩, trivial⟩, rfl, trivial⟩)))⟩
      ·skip
       refine And.intro ?_ trivial
       refine And.intro hq1 ?_
       refine And.intro ?_ trivial
       refine And.intro hq2 ?_
       refine And.intro ?_ trivial
       refine And.intro ?_ trivial
       refine And.intro hq3 ?_
       exact ⟨(), he, ((leads_close [10004000] rfl).trans (leads_ren [(10006000, 10004000), (10006001, 36)] (l := [(0, .c (.imm y0_ vars)), (3, .c (.own 10006000 false)), (4, .c (.int .i64 i)), (5, .c (.own 10006001 false)), (6, .c (.int .i64 k_1))]) (st' := [(10006000, .sl 23 (.sl y0_) (out2.set k_1.toNat (out2.getD k_1.toNat [])) (.deep true .no)), (10006001, .sl 23 (.sl y0_) (next1 ++ [((([] : List Int) ++ (out2.getD k_1.toNat [])) ++ [(vars.getD i.toNat 0)])]) (.deep true .no))]) rfl rfl (by exact ⟨⟨rfl, rfl⟩, ⟨rfl, rfl⟩, trivial⟩) (by exact ⟨.inl rfl, ⟨⟨rfl, rfl⟩, trivial⟩, rfl, ⟨⟨rfl, rfl⟩, trivial⟩, rfl, trivial⟩)))⟩
     ·skip
      refine And.intro ?_ trivial
      refine And.intro ?_ trivial
      refine And.intro hq1 ?_
      refine And.intro ?_ trivial
      refine And.intro hq2 ?_
      refine And.intro ?_ trivial
      refine And.intro ?_ trivial
      refine And.intro hq3 ?_
      exact ⟨(), he, ((leads_close [10004000] rfl).trans (leads_ren [(10006000, 10004000), (10006001, 36)] (l := [(0, .c (.imm y0_ vars)), (3, .c (.own 10006000 false)), (4, .c (.int .i64 i)), (5, .c (.own 10006001 false)), (6, .c (.int .i64 k_1))]) (st' := [(10006000, .sl 23 (.sl y0_) (out2.set k_1.toNat (out2.getD k_1.toNat [])) (.deep true .no)), (10006001, .sl 23 (.sl y0_) (next1 ++ [((([] : List Int) ++ (out2.getD k_1.toNat [])) ++ [(vars.getD i.toNat 0)])]) (.deep true .no))]) rfl rfl (by exact ⟨⟨rfl, rfl⟩, ⟨rfl, rfl⟩, trivial⟩) (by exact ⟨.inl rfl, ⟨⟨rfl, rfl⟩, trivial⟩, rfl, ⟨⟨rfl, rfl⟩, trivial⟩, rfl, trivial⟩)))⟩
    ·skip
     refine And.intro ?_ (And.intro ?_ (trivial))
     ·skip
      refine And.intro ?_ trivial
      refine And.intro ?_ trivial
      refine And.intro hq1 ?_
      refine And.intro ?_ trivial
      refine And.intro hq2 ?_
      refine And.intro ?_ trivial
      refine And.intro ?_ trivial
      refine And.intro hq3 ?_
      exact ⟨(), he, ((leads_close [10004000] rfl).trans (leads_ren [(10006000, 10004000), (10006001, 36)] (l := [(0, .c (.imm y0_ vars)), (3, .c (.own 10006000 false)), (4, .c (.int .i64 i)), (5, .c (.own 10006001 false)), (6, .c (.int .i64 k_1))]) (st' := [(10006000, .sl 23 (.sl y0_) (out2.set k_1.toNat (out2.getD k_1.toNat [])) (.deep true .no)), (10006001, .sl 23 (.sl y0_) (next1 ++ [((([] : List Int) ++ (out2.getD k_1.toNat [])) ++ [(vars.getD i.toNat 0)])]) (.deep true .no))]) rfl rfl (by exact ⟨⟨rfl, rfl⟩, ⟨rfl, rfl⟩, trivial⟩) (by exact ⟨.inl rfl, ⟨⟨rfl, rfl⟩, trivial⟩, rfl, ⟨⟨rfl, rfl⟩, trivial⟩, rfl, trivial⟩)))⟩
     ·skip
      refine And.intro ?_ trivial
      refine And.intro ?_ trivial
      refine And.intro hq1 ?_
      refine And.intro ?_ trivial
      refine And.intro hq2 ?_
      refine And.intro ?_ trivial
      refine And.intro ?_ trivial
      refine And.intro hq3 ?_
      exact ⟨(), he, ((leads_close [10004000] rfl).trans (leads_ren [(10006000, 10004000), (10006001, 36)] (l := [(0, .c (.imm y0_ vars)), (3, .c (.own 10006000 false)), (4, .c (.int .i64 i)), (5, .c (.own 10006001 false)), (6, .c (.int .i64 k_1))]) (st' := [(10006000, .sl 23 (.sl y0_) (out2.set k_1.toNat (out2.getD k_1.toNat [])) (.deep true .no)), (10006001, .sl 23 (.sl y0_) (next1 ++ [((([] : List Int) ++ (out2.getD k_1.toNat [])) ++ [(vars.getD i.toNat 0)])]) (.deep true .no))]) rfl rfl (by exact ⟨⟨rfl, rfl⟩, ⟨rfl, rfl⟩, trivial⟩) (by exact ⟨.inl rfl, ⟨⟨rfl, rfl⟩, trivial⟩, rfl, ⟨⟨rfl, rfl⟩, trivial⟩, rfl, trivial⟩)))⟩
  ·refine go_rq he fun he => ?_
   have he := ok_some he
   exact ⟨((i + (1:Int)), next1), he, (leads_ren [(10000000, 10004001)] rfl rfl ⟨⟨rfl, rfl⟩, trivial⟩ ⟨.inl rfl, ⟨⟨rfl, rfl⟩, trivial⟩, rfl, trivial⟩)⟩
 ·have he := ok_some he
  exact ⟨rfl, _, _, (leads_ren [(900, 10000000)] (l := [(2, .c (.own 900 false))]) (st' := [(900, .sl 23 (.sl y0_) out1 (.deep true .no))]) rfl rfl ⟨⟨rfl, rfl⟩, trivial⟩ ⟨⟨⟨rfl, rfl⟩, trivial⟩, trivial⟩), he⟩

noncomputable def c_spec_l1Copy : Con := fun args st => match args, st with
  | [.agg [.imm (.pair (.int .i64) (.int .i64)) c__0, .int .i64 c__1]], [] => .opt (Int × (List D1_)) (spec_l1Copy (c__0, c__1)) (fun r => .ret (.agg [.own 901 false, .int .i64 r.1]) [(900, .rc [.own 901 false, .int .i64 r.1]), (901, .sl 76 y1_ r.2 .shallow)])
  | _, _ => .fail

noncomputable def C_spec_l1Copy : Cfg := { y := tys, n := 10, h := 0, tab := [], cut := [], hand := [], good := [], deep := [], sched := [(1, (.first 1 (.first 4 (.alt 0 (.alt 2 (.alt 3 (.alt 5 (.alt 6 (.alt 7 .done .stop) .stop) .stop) (.alt 5 (.alt 3 (.alt 6 (.alt 7 .done .stop) .stop) .stop) .stop)) (.alt 5 (.alt 2 (.alt 3 (.alt 6 (.alt 7 .done .stop) .stop) .stop) .stop) .stop)) (.alt 2 (.alt 0 (.alt 3 (.alt 5 (.alt 6 (.alt 7 .done .stop) .stop) .stop) (.alt 5 (.alt 3 (.alt 6 (.alt 7 .done .stop) .stop) .stop) .stop)) (.alt 5 (.alt 0 (.alt 3 (.alt 6 (.alt 7 .done .stop) .stop) .stop) .stop) .stop)) (.alt 5 (.alt 0 (.alt 2 (.alt 3 (.alt 6 (.alt 7 .done .stop) .stop) .stop) .stop) (.alt 2 (.alt 0 (.alt 3 (.alt 6 (.alt 7 .done .stop) .stop) .stop) .stop) .stop)) .stop))))))] }

theorem t_spec_l1Copy : TabOk Tryz.prog C_spec_l1Copy := tabOk_of (fun p h => by cases h)

theorem k_spec_l1Copy : Entry Tryz.prog 40 c_spec_l1Copy := by
 refine entry_by (C := C_spec_l1Copy) mixed tys_ok t_spec_l1Copy (fn := Tryz.f40) (c := bd Tryz.f40) (by kernel_rfl) (by kernel_rfl) (by kernel_rfl) (by kernel_rfl) ?_
 intro args st k he
 unfold c_spec_l1Copy at he
 split at he
 rotate_left
 ·exact he.elim
 rename_i c__0 c__1
 have he : Ok (spec_l1Copy (c__0, c__1)) (fun r => k (.agg [.own 901 false, .int .i64 r.1]) [(900, .rc [.own 901 false, .int .i64 r.1]), (901, .sl 76 y1_ r.2 .shallow)]) := he
 refine ⟨rfl, rfl, ?_⟩
 refine And.intro (by kernel_rfl) ?_
 have he := ok_rq he
 have hq1 := he.1
 have he := he.2
 refine And.intro ?_ (And.intro ?_ (And.intro ?_ (trivial)))
 ·skip
  refine And.intro ?_ (And.intro ?_ (trivial))
  ·skip
   refine And.intro ?_ (And.intro ?_ (trivial))
   ·skip
    refine And.intro hq1 ?_
    refine And.intro ?_ trivial
    refine And.intro ?_ trivial
    refine And.intro ?_ trivial
    have he := ok_some he
    exact ⟨rfl, _, _, (leads_ren [(900, 2), (901, 6)] (l := [(2, .c (.ptr 900 0))]) (st' := [(900, .rc [.own 901 false, .int .i64 (c__0, c__1).2]), (901, .sl 76 y1_ (([] : List D1_) ++ (c__0, c__1).1) .shallow)]) rfl rfl ⟨⟨⟨⟨rfl, rfl⟩, trivial⟩, rfl, trivial⟩, ⟨rfl, rfl⟩, trivial⟩ ⟨⟨⟨rfl, rfl⟩, rfl⟩, trivial⟩), he⟩
   ·skip
    refine And.intro ?_ trivial
    refine And.intro hq1 ?_
    refine And.intro ?_ trivial
    refine And.intro ?_ trivial
    have he := ok_some he
    exact ⟨rfl, _, _, (leads_ren [(900, 2), (901, 6)] (l := [(2, .c (.ptr 900 0))]) (st' := [(900, .rc [.own 901 false, .int .i64 (c__0, c__1).2]), (901, .sl 76 y1_ (([] : List D1_) ++ (c__0, c__1).1) .shallow)]) rfl rfl ⟨⟨⟨⟨rfl, rfl⟩, trivial⟩, rfl, trivial⟩, ⟨rfl, rfl⟩, trivial⟩ ⟨⟨⟨rfl, rfl⟩, rfl⟩, trivial⟩), he⟩
  ·skip
   refine And.intro ?_ trivial
   refine And.intro ?_ trivial
   refine And.intro hq1 ?_
   refine And.intro ?_ trivial
   refine And.intro ?_ trivial
   have he := ok_some he
   exact ⟨rfl, _, _, (leads_ren [(900, 2), (901, 6)] (l := [(2, .c (.ptr 900 0))]) (st' := [(900, .rc [.own 901 false, .int .i64 (c__0, c__1).2]), (901, .sl 76 y1_ (([] : List D1_) ++ (c__0, c__1).1) .shallow)]) rfl rfl ⟨⟨⟨⟨rfl, rfl⟩, trivial⟩, rfl, trivial⟩, ⟨rfl, rfl⟩, trivial⟩ ⟨⟨⟨rfl, rfl⟩, rfl⟩, trivial⟩), he⟩
 ·skip
  refine And.intro ?_ (And.intro ?_ (trivial))
  ·skip
   refine And.intro ?_ (And.intro ?_ (trivial))
   ·skip
    refine And.intro hq1 ?_
    refine And.intro ?_ trivial
    refine And.intro ?_ trivial
    refine And.intro ?_ trivial
    have he := ok_some he
    exact ⟨rfl, _, _, (leads_ren [(900, 2), (901, 6)] (l := [(2, .c (.ptr 900 0))]) (st' := [(900, .rc [.own 901 false, .int .i64 (c__0, c__1).2]), (901, .sl 76 y1_ (([] : List D1_) ++ (c__0, c__1).1) .shallow)]) rfl rfl ⟨⟨⟨⟨rfl, rfl⟩, trivial⟩, rfl, trivial⟩, ⟨rfl, rfl⟩, trivial⟩ ⟨⟨⟨rfl, rfl⟩, rfl⟩, trivial⟩), he⟩
   ·skip
    refine And.intro ?_ trivial
    refine And.intro hq1 ?_
    refine And.intro ?_ trivial
    refine And.intro ?_ trivial
    have he := ok_some he
    exact ⟨rfl, _, _, (leads_ren [(900, 2), (901, 6)] (l := [(2, .c (.ptr 900 0))]) (st' := [(900, .rc [.own 901 false, .int .i64 (c__0, c__1).2]), (901, .sl 76 y1_ (([] : List D1_) ++ (c__0, c__1).1) .shallow)]) rfl rfl ⟨⟨⟨⟨rfl, rfl⟩, trivial⟩, rfl, trivial⟩, ⟨rfl, rfl⟩, trivial⟩ ⟨⟨⟨rfl, rfl⟩, rfl⟩, trivial⟩), he⟩
  ·skip
   refine And.intro ?_ trivial
   refine And.intro ?_ trivial
   refine And.intro hq1 ?_
   refine And.intro ?_ trivial
   refine And.intro ?_ trivial
   have he := ok_some he
   exact ⟨rfl, _, _, (leads_ren [(900, 2), (901, 6)] (l := [(2, .c (.ptr 900 0))]) (st' := [(900, .rc [.own 901 false, .int .i64 (c__0, c__1).2]), (901, .sl 76 y1_ (([] : List D1_) ++ (c__0, c__1).1) .shallow)]) rfl rfl ⟨⟨⟨⟨rfl, rfl⟩, trivial⟩, rfl, trivial⟩, ⟨rfl, rfl⟩, trivial⟩ ⟨⟨⟨rfl, rfl⟩, rfl⟩, trivial⟩), he⟩
 ·skip
  refine And.intro ?_ (And.intro ?_ (trivial))
  ·skip
   refine And.intro ?_ trivial
   refine And.intro ?_ trivial
   refine And.intro hq1 ?_
   refine And.intro ?_ trivial
   refine And.intro ?_ trivial
   have he := ok_some he
   exact ⟨rfl, _, _, (leads_ren [(900, 2), (901, 6)] (l := [(2, .c (.ptr 900 0))]) (st' := [(900, .rc [.own 901 false, .int .i64 (c__0, c__1).2]), (901, .sl 76 y1_ (([] : List D1_) ++ (c__0, c__1).1) .shallow)]) rfl rfl ⟨⟨⟨⟨rfl, rfl⟩, trivial⟩, rfl, trivial⟩, ⟨rfl, rfl⟩, trivial⟩ ⟨⟨⟨rfl, rfl⟩, rfl⟩, trivial⟩), he⟩
  ·skip
   refine And.intro ?_ trivial
   refine And.intro ?_ trivial
   refine And.intro hq1 ?_
   refine And.intro ?_ trivial
   refine And.intro ?_ trivial
   have he := ok_some he
   exact ⟨rfl, _, _, (leads_ren [(900, 2), (901, 6)] (l := [(2, .c (.ptr 900 0))]) (st' := [(900, .rc [.own 901 false, .int .i64 (c__0, c__1).2]), (901, .sl 76 y1_ (([] : List D1_) ++ (c__0, c__1).1) .shallow)]) rfl rfl ⟨⟨⟨⟨rfl, rfl⟩, trivial⟩, rfl, trivial⟩, ⟨rfl, rfl⟩, trivial⟩ ⟨⟨⟨rfl, rfl⟩, rfl⟩, trivial⟩), he⟩

noncomputable def c_spec_l12Under : Con := fun args st => match args, st with
  | [.c (.imm (.pair (.sl (.pair (.int .i64) (.int .i64))) (.int .i64)) list_), .c (.imm (.int .i64) cube)], [] => .opt ((List D2_)) (spec_l12Under list_ cube) (fun r => .ret (.c (.own 900 false)) [(900, .sl 56 y2_ r (.deep true .no))])
  | _, _ => .fail

noncomputable def C_spec_l12Under : Cfg := { y := tys, n := 40, h := 0, tab := [(40, c_spec_l1Copy)], cut := [6], hand := [], good := [], deep := [8, 21, 37], sched := [] }

theorem t_spec_l12Under : TabOk Tryz.prog C_spec_l12Under := by
  refine tabOk_of ?_
  simp only [C_spec_l12Under, List.forall_mem_cons]
  exact ⟨k_spec_l1Copy, fun p h => by cases h⟩

theorem k_spec_l12Under : Entry Tryz.prog 24 c_spec_l12Under := by
 refine entry_by (C := C_spec_l12Under) mixed tys_ok t_spec_l12Under (fn := Tryz.f24) (c := bd Tryz.f24) (by kernel_rfl) (by kernel_rfl) (by kernel_rfl) (by kernel_rfl) ?_
 intro args st k he
 unfold c_spec_l12Under at he
 split at he
 rotate_left
 ·exact he.elim
 rename_i list_ cube
 have he : Ok (spec_l12Under list_ cube) (fun r => k (.c (.own 900 false)) [(900, .sl 56 y2_ r (.deep true .no))]) := he
 refine ⟨rfl, rfl, ?_⟩
 refine seq_model mixed tys_ok t_spec_l12Under (S := (List D2_)) (I := (fun out1 => (envOf [(1, .c (.imm y0_ cube)), (5, .c (.own 10001000 false))], [(10001000, .sl 56 y2_ out1 (.deep true .no))]))) (B := fun s => Ok (spec_l12Under_j1 cube s) (fun r => k (.c (.own 900 false)) [(900, .sl 56 y2_ r (.deep true .no))])) ?_ ?_
 ·rintro out1 he
  refine loop_model mixed tys_ok t_spec_l12Under (S := Int × (List D2_)) (I := (fun (i1, out2) => (envOf [(1, .c (.imm y0_ cube)), (5, .c (.own 10002000 false)), (7, .c (.int .i64 i1))], [(10002000, .sl 56 y2_ out2 (.deep true .no))]))) (f := spec_l12Under_l1 cube) (K := (fun r => k (.c (.own 900 false)) [(900, .sl 56 y2_ r (.deep true .no))])) he (leads_ren [(10002000, 10001000)] rfl rfl ⟨⟨rfl, rfl⟩, trivial⟩ ⟨.inl rfl, ⟨⟨rfl, rfl⟩, trivial⟩, rfl, trivial⟩) ?_
  rintro ⟨i1, out2⟩ J1 he
  refine go_if he (fun he => ?_) fun he => ?_
  ·refine go_rq he fun he => ?_
   refine go_rq he fun he => ?_
   refine go_rq he fun he => ?_
   have he := ok_some he
   exact ⟨((i1 + (1:Int)), (out2 ++ [([((1:Int), (cube.getD i1.toNat 0))], (1:Int))])), he, (leads_ren [(10002000, 38)] rfl rfl ⟨⟨rfl, rfl⟩, trivial⟩ ⟨.inl rfl, ⟨⟨rfl, rfl⟩, trivial⟩, rfl, trivial⟩)⟩
  ·have he := ok_some he
   exact ⟨rfl, _, _, (leads_ren [(900, 10002000)] (l := [(4, .c (.own 900 false))]) (st' := [(900, .sl 56 y2_ out2 (.deep true .no))]) rfl rfl ⟨⟨rfl, rfl⟩, trivial⟩ ⟨⟨⟨rfl, rfl⟩, trivial⟩, trivial⟩), he⟩
 ·skip
  refine loop_model mixed tys_ok t_spec_l12Under (S := Int × (List D2_)) (I := (fun (i, out) => (envOf [(0, .c (.imm y2_ list_)), (1, .c (.imm y0_ cube)), (5, .c (.own 10000000 false)), (6, .c (.int .i64 i))], [(10000000, .sl 56 y2_ out (.deep true .no))]))) (f := spec_l12Under_l2 list_ cube) (K := (fun r => k (.c (.own 900 false)) [(900, .sl 56 y2_ r (.deep true .no))])) he (leads_ren [(10000000, 8)] rfl rfl ⟨⟨rfl, rfl⟩, trivial⟩ ⟨.inl rfl, .inl rfl, ⟨⟨rfl, rfl⟩, trivial⟩, rfl, trivial⟩) ?_
  rintro ⟨i, out⟩ J1 he
  refine go_if he (fun he => ?_) fun he => ?_
  ·refine go_rq he fun he => ?_
   refine go_bind he fun r2_ he => ?_
   refine go_rq he fun he => ?_
   refine go_rq he fun he => ?_
   have he := ok_some he
   exact ⟨((i + (1:Int)), (out ++ [(r2_.2, r2_.1)])), he, (leads_ren [(10000000, 22)] rfl rfl ⟨⟨rfl, rfl⟩, trivial⟩ ⟨.inl rfl, .inl rfl, ⟨⟨rfl, rfl⟩, trivial⟩, rfl, trivial⟩)⟩
  ·exact ⟨out, ok_up he, (leads_ren [(10001000, 10000000)] rfl rfl ⟨⟨rfl, rfl⟩, trivial⟩ ⟨.inl rfl, ⟨⟨rfl, rfl⟩, trivial⟩, trivial⟩)⟩

noncomputable def c_spec_l3Assign : Con := fun args st => match args, st with
  | [.c (.own 0 false), .c (.int .i64 lit)], [(0, .sl 3 (.int .i64) p .shallow)] => .opt ((List Int)) (spec_l3Assign lit p) (fun r => .ret (.tup []) [(0, .sl 3 y0_ r .shallow)])
  | _, _ => .fail

noncomputable def C_spec_l3Assign : Cfg := { y := tys, n := 15, h := 1, tab := [], cut := [], hand := [], good := [], deep := [], sched := [] }

theorem t_spec_l3Assign : TabOk Tryz.prog C_spec_l3Assign := tabOk_of (fun p h => by cases h)

theorem k_spec_l3Assign : Entry Tryz.prog 58 c_spec_l3Assign := by
 refine entry_by (C := C_spec_l3Assign) mixed tys_ok t_spec_l3Assign (fn := Tryz.f58) (c := bd Tryz.f58) (by kernel_rfl) (by kernel_rfl) (by kernel_rfl) (by kernel_rfl) ?_
 intro args st k he
 unfold c_spec_l3Assign at he
 split at he
 rotate_left
 ·exact he.elim
 rename_i lit p
 have he : Ok (spec_l3Assign lit p) (fun r => k (.tup []) [(0, .sl 3 y0_ r .shallow)]) := he
 refine ⟨rfl, rfl, ?_⟩
 refine go_if he (fun he => ?_) fun he => ?_
 ·refine go_rq he fun he => ?_
  refine go_rq he fun he => ?_
  have he := ok_some he
  exact ⟨rfl, _, _, (leads_ren [] (l := []) (st' := [(0, .sl 3 y0_ (p.set (lit - (1:Int)).toNat (1:Int)) .shallow)]) rfl rfl ⟨⟨rfl, rfl⟩, trivial⟩ trivial), he⟩
 ·refine go_rq he fun he => ?_
  refine go_rq he fun he => ?_
  refine go_rq he fun he => ?_
  have he := ok_some he
  exact ⟨rfl, _, _, (leads_ren [] (l := []) (st' := [(0, .sl 3 y0_ (p.set ((0 - lit) - (1:Int)).toNat (-1:Int)) .shallow)]) rfl rfl ⟨⟨rfl, rfl⟩, trivial⟩ trivial), he⟩

noncomputable def c_spec_l3State : Con := fun args st => match args, st with
  | [.c (.imm (.int .i64) p), .c (.int .i64 lit)], [] => .opt (Int) (spec_l3State p lit) (fun r => .ret (.c (.int .i64 r)) [])
  | _, _ => .fail

noncomputable def C_spec_l3State : Cfg := { y := tys, n := 19, h := 0, tab := [], cut := [], hand := [], good := [], deep := [], sched := [] }

theorem t_spec_l3State : TabOk Tryz.prog C_spec_l3State := tabOk_of (fun p h => by cases h)

theorem k_spec_l3State : Entry Tryz.prog 89 c_spec_l3State := by
 refine entry_by (C := C_spec_l3State) mixed tys_ok t_spec_l3State (fn := Tryz.f89) (c := bd Tryz.f89) (by kernel_rfl) (by kernel_rfl) (by kernel_rfl) (by kernel_rfl) ?_
 intro args st k he
 unfold c_spec_l3State at he
 split at he
 rotate_left
 ·exact he.elim
 rename_i p lit
 have he : Ok (spec_l3State p lit) (fun r => k (.c (.int .i64 r)) []) := he
 refine ⟨rfl, rfl, ?_⟩
 refine go_if he (fun he => ?_) fun he => ?_
 ·refine go_rq he fun he => ?_
  refine go_rq he fun he => ?_
  have he := ok_some he
  exact ⟨rfl, _, _, Leads.refl _ _, he⟩
 ·refine go_rq he fun he => ?_
  refine go_rq he fun he => ?_
  refine go_rq he fun he => ?_
  refine go_rq he fun he => ?_
  have he := ok_some he
  exact ⟨rfl, _, _, Leads.refl _ _, he⟩

noncomputable def c_spec_l3Slack : Con := fun args st => match args, st with
  | [.agg [.imm (.pair (.int .i64) (.int .i64)) c__0, .int .i64 c__1], .c (.imm (.int .i64) p)], [] => .opt (Int) (spec_l3Slack (c__0, c__1) p) (fun r => .ret (.c (.int .i64 r)) [])
  | _, _ => .fail

noncomputable def C_spec_l3Slack : Cfg := { y := tys, n := 35, h := 0, tab := [(89, c_spec_l3State)], cut := [], hand := [], good := [], deep := [], sched := [] }

theorem t_spec_l3Slack : TabOk Tryz.prog C_spec_l3Slack := by
  refine tabOk_of ?_
  simp only [C_spec_l3Slack, List.forall_mem_cons]
  exact ⟨k_spec_l3State, fun p h => by cases h⟩

theorem k_spec_l3Slack : Entry Tryz.prog 80 c_spec_l3Slack := by
 refine entry_by (C := C_spec_l3Slack) mixed tys_ok t_spec_l3Slack (fn := Tryz.f80) (c := bd Tryz.f80) (by kernel_rfl) (by kernel_rfl) (by kernel_rfl) (by kernel_rfl) ?_
 intro args st k he
 unfold c_spec_l3Slack at he
 split at he
 rotate_left
 ·exact he.elim
 rename_i c__0 c__1 p
 have he : Ok (spec_l3Slack (c__0, c__1) p) (fun r => k (.c (.int .i64 r)) []) := he
 refine ⟨rfl, rfl, ?_⟩
 refine go_rq he fun he => ?_
 refine loop_model mixed tys_ok t_spec_l3Slack (S := Int × Int) (I := (fun (n, i) => (envOf [(1, .c (.imm y0_ p)), (2, .c (.ptr 10000000 0)), (5, .c (.int .i64 n)), (6, .c (.int .i64 i))], [(10000000, .rc [.imm y1_ (c__0, c__1).1, .int .i64 (c__0, c__1).2])]))) (f := spec_l3Slack_l1 (c__0, c__1) p) (K := (fun r => k (.c (.int .i64 r)) [])) he (leads_ren [(10000000, 2)] rfl rfl ⟨⟨.inl rfl, rfl, trivial⟩, trivial⟩ ⟨.inl rfl, ⟨⟨rfl, rfl⟩, rfl⟩, rfl, rfl, trivial⟩) ?_
 rintro ⟨n, i⟩ J1 he
 refine go_if he (fun he => ?_) fun he => ?_
 ·refine go_rq he fun he => ?_
  refine go_bind he fun r1_ he => ?_
  refine go_if he (fun he => ?_) fun he => ?_
  ·refine go_rq he fun he => ?_
   refine go_rq he fun he => ?_
   refine go_rq he fun he => ?_
   have he := ok_some he
   exact ⟨((n + ((c__0, c__1).1.getD i.toNat (0, 0)).1), (i + (1:Int))), he, (leads_ren [] rfl rfl ⟨⟨.inl rfl, rfl, trivial⟩, trivial⟩ ⟨.inl rfl, ⟨⟨rfl, rfl⟩, rfl⟩, rfl, rfl, trivial⟩)⟩
  ·refine go_rq he fun he => ?_
   have he := ok_some he
   exact ⟨(n, (i + (1:Int))), he, (leads_ren [] rfl rfl ⟨⟨.inl rfl, rfl, trivial⟩, trivial⟩ ⟨.inl rfl, ⟨⟨rfl, rfl⟩, rfl⟩, rfl, rfl, trivial⟩)⟩
 ·have he := ok_some he
  exact ⟨rfl, _, _, (leads_ren [] (l := [(4, .c (.int .i64 n))]) (st' := []) rfl rfl trivial ⟨rfl, trivial⟩), he⟩

noncomputable def c_spec_l3Implied : Con := fun args st => match args, st with
  | [.agg [.imm (.pair (.int .i64) (.int .i64)) c__0, .int .i64 c__1], .c (.imm (.int .i64) p)], [] => .opt ((List Int)) (spec_l3Implied (c__0, c__1) p) (fun r => .ret (.c (.own 900 false)) [(900, .sl 3 y0_ r .shallow)])
  | _, _ => .fail

noncomputable def C_spec_l3Implied : Cfg := { y := tys, n := 52, h := 0, tab := [(80, c_spec_l3Slack), (89, c_spec_l3State)], cut := [], hand := [], good := [], deep := [], sched := [] }

theorem t_spec_l3Implied : TabOk Tryz.prog C_spec_l3Implied := by
  refine tabOk_of ?_
  simp only [C_spec_l3Implied, List.forall_mem_cons]
  exact ⟨k_spec_l3Slack, k_spec_l3State, fun p h => by cases h⟩

theorem k_spec_l3Implied : Entry Tryz.prog 81 c_spec_l3Implied := by
 refine entry_by (C := C_spec_l3Implied) mixed tys_ok t_spec_l3Implied (fn := Tryz.f81) (c := bd Tryz.f81) (by kernel_rfl) (by kernel_rfl) (by kernel_rfl) (by kernel_rfl) ?_
 intro args st k he
 unfold c_spec_l3Implied at he
 split at he
 rotate_left
 ·exact he.elim
 rename_i c__0 c__1 p
 have he : Ok (spec_l3Implied (c__0, c__1) p) (fun r => k (.c (.own 900 false)) [(900, .sl 3 y0_ r .shallow)]) := he
 refine ⟨rfl, rfl, ?_⟩
 refine go_bind he fun r1_ he => ?_
 refine loop_model mixed tys_ok t_spec_l3Implied (S := Int × (List Int)) (I := (fun (i, out) => (envOf [(1, .c (.imm y0_ p)), (2, .c (.ptr 10000000 0)), (5, .c (.own 10000001 false)), (6, .c (.int .i64 r1_)), (7, .c (.int .i64 i))], [(10000000, .rc [.imm y1_ (c__0, c__1).1, .int .i64 (c__0, c__1).2]), (10000001, .sl 3 y0_ out .shallow)]))) (f := spec_l3Implied_l1 (c__0, c__1) p r1_) (K := (fun r => k (.c (.own 900 false)) [(900, .sl 3 y0_ r .shallow)])) he (leads_ren [(10000000, 2), (10000001, 8)] rfl rfl ⟨⟨.inl rfl, rfl, trivial⟩, ⟨rfl, rfl⟩, trivial⟩ ⟨.inl rfl, ⟨⟨rfl, rfl⟩, rfl⟩, ⟨⟨rfl, rfl⟩, trivial⟩, rfl, rfl, trivial⟩) ?_
 rintro ⟨i, out⟩ J1 he
 refine go_if he (fun he => ?_) fun he => ?_
 ·refine go_if he (fun he => ?_) fun he => ?_
  ·refine go_rq he fun he => ?_
   refine go_bind he fun r3_ he => ?_
   refine go_if he (fun he => ?_) fun he => ?_
   ·refine go_rq he fun he => ?_
    refine go_if he (fun he => ?_) fun he => ?_
    ·refine go_rq he fun he => ?_
     refine go_rq he fun he => ?_
     refine go_rq he fun he => ?_
     have he := ok_some he
     exact ⟨((i + (1:Int)), (out ++ [((c__0, c__1).1.getD i.toNat (0, 0)).2])), he, (leads_ren [(10000001, 50)] rfl rfl ⟨⟨.inl rfl, rfl, trivial⟩, ⟨rfl, rfl⟩, trivial⟩ ⟨.inl rfl, ⟨⟨rfl, rfl⟩, rfl⟩, ⟨⟨rfl, rfl⟩, trivial⟩, rfl, rfl, trivial⟩)⟩
    ·refine go_rq he fun he => ?_
     have he := ok_some he
     exact ⟨((i + (1:Int)), out), he, (leads_ren [] rfl rfl ⟨⟨.inl rfl, rfl, trivial⟩, ⟨rfl, rfl⟩, trivial⟩ ⟨.inl rfl, ⟨⟨rfl, rfl⟩, rfl⟩, ⟨⟨rfl, rfl⟩, trivial⟩, rfl, rfl, trivial⟩)⟩
   ·refine go_rq he fun he => ?_
    have he := ok_some he
    exact ⟨((i + (1:Int)), out), he, (leads_ren [] rfl rfl ⟨⟨.inl rfl, rfl, trivial⟩, ⟨rfl, rfl⟩, trivial⟩ ⟨.inl rfl, ⟨⟨rfl, rfl⟩, rfl⟩, ⟨⟨rfl, rfl⟩, trivial⟩, rfl, rfl, trivial⟩)⟩
  ·have he := ok_some he
   exact ⟨rfl, _, _, (leads_ren [(900, 10000001)] (l := [(4, .c (.own 900 false))]) (st' := [(900, .sl 3 y0_ out .shallow)]) rfl rfl ⟨⟨rfl, rfl⟩, trivial⟩ ⟨⟨⟨rfl, rfl⟩, trivial⟩, trivial⟩), he⟩
 ·have he := ok_some he
  exact ⟨rfl, _, _, (leads_ren [(900, 10000001)] (l := [(4, .c (.own 900 false))]) (st' := [(900, .sl 3 y0_ out .shallow)]) rfl rfl ⟨⟨rfl, rfl⟩, trivial⟩ ⟨⟨⟨rfl, rfl⟩, trivial⟩, trivial⟩), he⟩

end Go.AE.Y
