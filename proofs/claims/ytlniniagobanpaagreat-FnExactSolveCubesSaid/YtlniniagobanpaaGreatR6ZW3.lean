/-
  Walks: each function keeps the contract that its model gives. No conditions.
-/
import Derived.Test.YtlniniagobanpaaGreatR6ZTab
import Derived.Test.YtlniniagobanpaaGreatR6ZW2
import Derived.Test.YtlniniagobanpaaGreatR6ZS
namespace Go.AE.Y
open Go Go.AE Go.Proofs
set_option linter.unusedVariables false
set_option maxHeartbeats 2000000
set_option maxRecDepth 100000

noncomputable def c_impl_allValid_1 : Con := fun args st => match args, st with
  | [.agg [.imm (.pair (.int .i64) (.int .i64)) c__0, .int .i64 c__1]], [] => .opt (Bool) (impl_allValid_1 (c__0, c__1)) (fun r => .ret (.c (.bool r)) [])
  | _, _ => .fail

noncomputable def C_impl_allValid_1 : Cfg := { y := tys, n := 6, h := 0, tab := [(68, c_impl_ConstraintValid)], cut := [], hand := [], good := [], deep := [], sched := [] }

theorem t_impl_allValid_1 : TabOk Tryz.prog C_impl_allValid_1 := by
  refine tabOk_of ?_
  simp only [C_impl_allValid_1, List.forall_mem_cons]
  exact ⟨k_impl_ConstraintValid, fun p h => by cases h⟩

theorem k_impl_allValid_1 : Entry Tryz.prog 67 c_impl_allValid_1 := by
 refine entry_by (C := C_impl_allValid_1) mixed tys_ok t_impl_allValid_1 (fn := Tryz.f67) (c := bd Tryz.f67) (by kernel_rfl) (by kernel_rfl) (by kernel_rfl) (by kernel_rfl) ?_
 intro args st k he
 unfold c_impl_allValid_1 at he
 split at he
 rotate_left
 ·exact he.elim
 rename_i c__0 c__1
 have he : Ok (impl_allValid_1 (c__0, c__1)) (fun r => k (.c (.bool r)) []) := he
 refine ⟨rfl, rfl, ?_⟩
 refine go_bind he fun r1_ he => ?_
 have he := ok_some he
 exact ⟨rfl, _, _, (leads_ren [] (l := [(2, .c (.bool (!r1_)))]) (st' := []) rfl rfl trivial ⟨.inl rfl, trivial⟩), he⟩

noncomputable def c_slices_IndexFunc_impl_Constraint__impl_allValid_1 : Con := fun args st => match args, st with
  | [.c (.imm (.pair (.sl (.pair (.int .i64) (.int .i64))) (.int .i64)) s_), .c (.fn 67 [])], [] => .opt (Int) (slices_IndexFunc_impl_Constraint__impl_allValid_1 s_) (fun r => .ret (.c (.int .i64 r)) [])
  | _, _ => .fail

noncomputable def C_slices_IndexFunc_impl_Constraint__impl_allValid_1 : Cfg := { y := tys, n := 19, h := 0, tab := [(67, c_impl_allValid_1)], cut := [], hand := [], good := [], deep := [], sched := [] }

theorem t_slices_IndexFunc_impl_Constraint__impl_allValid_1 : TabOk Tryz.prog C_slices_IndexFunc_impl_Constraint__impl_allValid_1 := by
  refine tabOk_of ?_
  simp only [C_slices_IndexFunc_impl_Constraint__impl_allValid_1, List.forall_mem_cons]
  exact ⟨k_impl_allValid_1, fun p h => by cases h⟩

theorem k_slices_IndexFunc_impl_Constraint__impl_allValid_1 : Entry Tryz.prog 82 c_slices_IndexFunc_impl_Constraint__impl_allValid_1 := by
 refine entry_by (C := C_slices_IndexFunc_impl_Constraint__impl_allValid_1) mixed tys_ok t_slices_IndexFunc_impl_Constraint__impl_allValid_1 (fn := Tryz.f82) (c := bd Tryz.f82) (by kernel_rfl) (by kernel_rfl) (by kernel_rfl) (by kernel_rfl) ?_
 intro args st k he
 unfold c_slices_IndexFunc_impl_Constraint__impl_allValid_1 at he
 split at he
 rotate_left
 ·exact he.elim
 rename_i s_
 have he : Ok (slices_IndexFunc_impl_Constraint__impl_allValid_1 s_) (fun r => k (.c (.int .i64 r)) []) := he
 refine ⟨rfl, rfl, ?_⟩
 refine loop_model mixed tys_ok t_slices_IndexFunc_impl_Constraint__impl_allValid_1 (S := Int) (I := (fun i => (envOf [(0, .c (.imm y2_ s_)), (1, .c (.fn 67 [])), (7, .c (.int .i64 (s_.length:Int))), (8, .c (.int .i64 i))], []))) (f := slices_IndexFunc_impl_Constraint__impl_allValid_1_l1 s_) (K := (fun r => k (.c (.int .i64 r)) [])) he (leads_ren [] rfl rfl trivial ⟨.inl rfl, ⟨rfl, trivial⟩, rfl, rfl, trivial⟩) ?_
 rintro i J1 he
 refine go_if he (fun he => ?_) fun he => ?_
 ·refine go_rq he fun he => ?_
  refine go_bind he fun r1_ he => ?_
  refine go_if he (fun he => ?_) fun he => ?_
  ·have he := ok_some he
   exact ⟨rfl, _, _, Leads.refl _ _, he⟩
  ·refine go_rq he fun he => ?_
   have he := ok_some he
   exact ⟨(i + (1:Int)), he, (leads_ren [] rfl rfl trivial ⟨.inl rfl, ⟨rfl, trivial⟩, rfl, rfl, trivial⟩)⟩
 ·have he := ok_some he
  exact ⟨rfl, _, _, Leads.refl _ _, he⟩

noncomputable def c_slices_ContainsFunc_impl_Constraint__impl_allValid_1 : Con := fun args st => match args, st with
  | [.c (.imm (.pair (.sl (.pair (.int .i64) (.int .i64))) (.int .i64)) s_), .c (.fn 67 [])], [] => .opt (Bool) (slices_ContainsFunc_impl_Constraint__impl_allValid_1 s_) (fun r => .ret (.c (.bool r)) [])
  | _, _ => .fail

noncomputable def C_slices_ContainsFunc_impl_Constraint__impl_allValid_1 : Cfg := { y := tys, n := 9, h := 0, tab := [(82, c_slices_IndexFunc_impl_Constraint__impl_allValid_1)], cut := [], hand := [], good := [], deep := [], sched := [] }

theorem t_slices_ContainsFunc_impl_Constraint__impl_allValid_1 : TabOk Tryz.prog C_slices_ContainsFunc_impl_Constraint__impl_allValid_1 := by
  refine tabOk_of ?_
  simp only [C_slices_ContainsFunc_impl_Constraint__impl_allValid_1, List.forall_mem_cons]
  exact ⟨k_slices_IndexFunc_impl_Constraint__impl_allValid_1, fun p h => by cases h⟩

theorem k_slices_ContainsFunc_impl_Constraint__impl_allValid_1 : Entry Tryz.prog 66 c_slices_ContainsFunc_impl_Constraint__impl_allValid_1 := by
 refine entry_by (C := C_slices_ContainsFunc_impl_Constraint__impl_allValid_1) mixed tys_ok t_slices_ContainsFunc_impl_Constraint__impl_allValid_1 (fn := Tryz.f66) (c := bd Tryz.f66) (by kernel_rfl) (by kernel_rfl) (by kernel_rfl) (by kernel_rfl) ?_
 intro args st k he
 unfold c_slices_ContainsFunc_impl_Constraint__impl_allValid_1 at he
 split at he
 rotate_left
 ·exact he.elim
 rename_i s_
 have he : Ok (slices_ContainsFunc_impl_Constraint__impl_allValid_1 s_) (fun r => k (.c (.bool r)) []) := he
 refine ⟨rfl, rfl, ?_⟩
 refine go_bind he fun r1_ he => ?_
 have he := ok_some he
 exact ⟨rfl, _, _, Leads.refl _ _, he⟩

noncomputable def c_impl_allValid : Con := fun args st => match args, st with
  | [.c (.imm (.pair (.sl (.pair (.int .i64) (.int .i64))) (.int .i64)) list_)], [] => .opt (Bool) (impl_allValid list_) (fun r => .ret (.c (.bool r)) [])
  | _, _ => .fail

noncomputable def C_impl_allValid : Cfg := { y := tys, n := 6, h := 0, tab := [(66, c_slices_ContainsFunc_impl_Constraint__impl_allValid_1)], cut := [], hand := [], good := [], deep := [], sched := [] }

theorem t_impl_allValid : TabOk Tryz.prog C_impl_allValid := by
  refine tabOk_of ?_
  simp only [C_impl_allValid, List.forall_mem_cons]
  exact ⟨k_slices_ContainsFunc_impl_Constraint__impl_allValid_1, fun p h => by cases h⟩

theorem k_impl_allValid : Entry Tryz.prog 46 c_impl_allValid := by
 refine entry_by (C := C_impl_allValid) mixed tys_ok t_impl_allValid (fn := Tryz.f46) (c := bd Tryz.f46) (by kernel_rfl) (by kernel_rfl) (by kernel_rfl) (by kernel_rfl) ?_
 intro args st k he
 unfold c_impl_allValid at he
 split at he
 rotate_left
 ·exact he.elim
 rename_i list_
 have he : Ok (impl_allValid list_) (fun r => k (.c (.bool r)) []) := he
 refine ⟨rfl, rfl, ?_⟩
 refine go_bind he fun r1_ he => ?_
 have he := ok_some he
 exact ⟨rfl, _, _, Leads.refl _ _, he⟩

noncomputable def c_impl_ProblemValid : Con := fun args st => match args, st with
  | [.c (.imm (.pair (.sl (.pair (.int .i64) (.int .i64))) (.int .i64)) list_)], [] => .opt (Bool) (impl_ProblemValid list_) (fun r => .ret (.c (.bool r)) [])
  | _, _ => .fail

noncomputable def C_impl_ProblemValid : Cfg := { y := tys, n := 10, h := 0, tab := [(46, c_impl_allValid)], cut := [], hand := [], good := [], deep := [], sched := [] }

theorem t_impl_ProblemValid : TabOk Tryz.prog C_impl_ProblemValid := by
  refine tabOk_of ?_
  simp only [C_impl_ProblemValid, List.forall_mem_cons]
  exact ⟨k_impl_allValid, fun p h => by cases h⟩

theorem k_impl_ProblemValid : Entry Tryz.prog 28 c_impl_ProblemValid := by
 refine entry_by (C := C_impl_ProblemValid) mixed tys_ok t_impl_ProblemValid (fn := Tryz.f28) (c := bd Tryz.f28) (by kernel_rfl) (by kernel_rfl) (by kernel_rfl) (by kernel_rfl) ?_
 intro args st k he
 unfold c_impl_ProblemValid at he
 split at he
 rotate_left
 ·exact he.elim
 rename_i list_
 have he : Ok (impl_ProblemValid list_) (fun r => k (.c (.bool r)) []) := he
 refine ⟨rfl, rfl, ?_⟩
 refine go_if he (fun he => ?_) fun he => ?_
 ·refine go_bind he fun r1_ he => ?_
  have he := ok_some he
  exact ⟨rfl, _, _, Leads.refl _ _, he⟩
 ·have he := ok_some he
  exact ⟨rfl, _, _, Leads.refl _ _, he⟩

noncomputable def c_impl_isFuel : Con := fun args st => match args, st with
  | [.c (.int .i64 fuel)], [] => .opt (Bool) (impl_isFuel fuel) (fun r => .ret (.c (.bool r)) [])
  | _, _ => .fail

noncomputable def C_impl_isFuel : Cfg := { y := tys, n := 5, h := 0, tab := [(47, c_impl_within)], cut := [], hand := [], good := [], deep := [], sched := [] }

theorem t_impl_isFuel : TabOk Tryz.prog C_impl_isFuel := by
  refine tabOk_of ?_
  simp only [C_impl_isFuel, List.forall_mem_cons]
  exact ⟨k_impl_within, fun p h => by cases h⟩

theorem k_impl_isFuel : Entry Tryz.prog 29 c_impl_isFuel := by
 refine entry_by (C := C_impl_isFuel) mixed tys_ok t_impl_isFuel (fn := Tryz.f29) (c := bd Tryz.f29) (by kernel_rfl) (by kernel_rfl) (by kernel_rfl) (by kernel_rfl) ?_
 intro args st k he
 unfold c_impl_isFuel at he
 split at he
 rotate_left
 ·exact he.elim
 rename_i fuel
 have he : Ok (impl_isFuel fuel) (fun r => k (.c (.bool r)) []) := he
 refine ⟨rfl, rfl, ?_⟩
 refine go_bind he fun r1_ he => ?_
 have he := ok_some he
 exact ⟨rfl, _, _, Leads.refl _ _, he⟩

noncomputable def c_impl_isCube : Con := fun args st => match args, st with
  | [.c (.imm (.int .i64) cube)], [] => .opt (Bool) (impl_isCube cube) (fun r => .ret (.c (.bool r)) [])
  | _, _ => .fail

noncomputable def C_impl_isCube : Cfg := { y := tys, n := 34, h := 0, tab := [(69, c_impl_isLiteral), (70, c_impl_variableOf)], cut := [], hand := [], good := [], deep := [], sched := [] }

theorem t_impl_isCube : TabOk Tryz.prog C_impl_isCube := by
  refine tabOk_of ?_
  simp only [C_impl_isCube, List.forall_mem_cons]
  exact ⟨k_impl_isLiteral, k_impl_variableOf, fun p h => by cases h⟩

theorem k_impl_isCube : Entry Tryz.prog 48 c_impl_isCube := by
 refine entry_by (C := C_impl_isCube) mixed tys_ok t_impl_isCube (fn := Tryz.f48) (c := bd Tryz.f48) (by kernel_rfl) (by kernel_rfl) (by kernel_rfl) (by kernel_rfl) ?_
 intro args st k he
 unfold c_impl_isCube at he
 split at he
 rotate_left
 ·exact he.elim
 rename_i cube
 have he : Ok (impl_isCube cube) (fun r => k (.c (.bool r)) []) := he
 refine ⟨rfl, rfl, ?_⟩
 refine loop_model mixed tys_ok t_impl_isCube (S := Int) (I := (fun i => (envOf [(0, .c (.imm y0_ cube)), (5, .c (.imm y0_ cube)), (6, .c (.int .i64 (cube.length:Int))), (7, .c (.int .i64 i))], []))) (f := impl_isCube_l1 cube) (K := (fun r => k (.c (.bool r)) [])) he (leads_ren [] rfl rfl trivial ⟨.inl rfl, .inl rfl, rfl, rfl, trivial⟩) ?_
 rintro i J1 he
 refine go_if he (fun he => ?_) fun he => ?_
 ·refine go_rq he fun he => ?_
  refine go_bind he fun r1_ he => ?_
  refine go_if2 he (fun he => ?_) fun he => ?_
  ·refine go_if he (fun he => ?_) fun he => ?_
   ·refine go_rq he fun he => ?_
    refine go_rq he fun he => ?_
    refine go_bind he fun r2_ he => ?_
    refine go_bind he fun r3_ he => ?_
    refine go_if he (fun he => ?_) fun he => ?_
    ·have he := ok_some he
     exact ⟨rfl, _, _, Leads.refl _ _, he⟩
    ·refine go_rq he fun he => ?_
     have he := ok_some he
     exact ⟨(i + (1:Int)), he, (leads_ren [] rfl rfl trivial ⟨.inl rfl, .inl rfl, rfl, rfl, trivial⟩)⟩
   ·refine go_rq he fun he => ?_
    have he := ok_some he
    exact ⟨(i + (1:Int)), he, (leads_ren [] rfl rfl trivial ⟨.inl rfl, .inl rfl, rfl, rfl, trivial⟩)⟩
  ·have he := ok_some he
   exact ⟨rfl, _, _, Leads.refl _ _, he⟩
 ·have he := ok_some he
  exact ⟨rfl, _, _, Leads.refl _ _, he⟩

noncomputable def c_slices_Clone_impl_Term : Con := fun args st => match args, st with
  | [.c (.imm (.pair (.int .i64) (.int .i64)) s_)], [] => .opt ((List D1_)) (slices_Clone_impl_Term s_) (fun r => .ret (.c (.own 900 false)) [(900, .sl 76 y1_ r .shallow)])
  | _, _ => .fail

noncomputable def C_slices_Clone_impl_Term : Cfg := { y := tys, n := 8, h := 0, tab := [], cut := [], hand := [], good := [], deep := [], sched := [] }

theorem t_slices_Clone_impl_Term : TabOk Tryz.prog C_slices_Clone_impl_Term := tabOk_of (fun p h => by cases h)

theorem k_slices_Clone_impl_Term : Entry Tryz.prog 83 c_slices_Clone_impl_Term := by
 refine entry_by (C := C_slices_Clone_impl_Term) mixed tys_ok t_slices_Clone_impl_Term (fn := Tryz.f83) (c := bd Tryz.f83) (by kernel_rfl) (by kernel_rfl) (by kernel_rfl) (by kernel_rfl) ?_
 intro args st k he
 unfold c_slices_Clone_impl_Term at he
 split at he
 rotate_left
 ·exact he.elim
 rename_i s_
 have he : Ok (slices_Clone_impl_Term s_) (fun r => k (.c (.own 900 false)) [(900, .sl 76 y1_ r .shallow)]) := he
 refine ⟨rfl, rfl, ?_⟩
 refine fun b1_ hb1_ => ?_
 have he := ok_nt he hb1_
 refine And.intro (fun hb => ?_) (fun hb => ?_)
 ·have he := ok_t he hb
  have he := ok_some he
  exact ⟨rfl, _, _, (leads_ren [] (l := [(2, .c (.own 900 false))]) (st' := [(900, .sl 76 y1_ ([] : List D1_) .shallow)]) rfl rfl ⟨trivial, trivial⟩ ⟨⟨rfl, trivial⟩, trivial⟩), he⟩
 ·have he := ok_f he hb
  refine go_rq he fun he => ?_
  have he := ok_some he
  exact ⟨rfl, _, _, (leads_ren [(900, 7)] (l := [(2, .c (.own 900 false))]) (st' := [(900, .sl 76 y1_ (([] : List D1_) ++ s_) .shallow)]) rfl rfl ⟨⟨rfl, rfl⟩, trivial⟩ ⟨⟨⟨rfl, rfl⟩, trivial⟩, trivial⟩), he⟩

noncomputable def c_impl_Constraint_own : Con := fun args st => match args, st with
  | [.agg [.imm (.pair (.int .i64) (.int .i64)) c__0, .int .i64 c__1]], [] => .opt (Int × (List D1_)) (impl_Constraint_own (c__0, c__1)) (fun r => .ret (.agg [.own 901 false, .int .i64 r.1]) [(900, .rc [.own 901 false, .int .i64 r.1]), (901, .sl 76 y1_ r.2 .shallow)])
  | _, _ => .fail

noncomputable def C_impl_Constraint_own : Cfg := { y := tys, n := 8, h := 0, tab := [(83, c_slices_Clone_impl_Term)], cut := [], hand := [], good := [], deep := [], sched := [] }

theorem t_impl_Constraint_own : TabOk Tryz.prog C_impl_Constraint_own := by
  refine tabOk_of ?_
  simp only [C_impl_Constraint_own, List.forall_mem_cons]
  exact ⟨k_slices_Clone_impl_Term, fun p h => by cases h⟩

theorem k_impl_Constraint_own : Entry Tryz.prog 71 c_impl_Constraint_own := by
 refine entry_by (C := C_impl_Constraint_own) mixed tys_ok t_impl_Constraint_own (fn := Tryz.f71) (c := bd Tryz.f71) (by kernel_rfl) (by kernel_rfl) (by kernel_rfl) (by kernel_rfl) ?_
 intro args st k he
 unfold c_impl_Constraint_own at he
 split at he
 rotate_left
 ·exact he.elim
 rename_i c__0 c__1
 have he : Ok (impl_Constraint_own (c__0, c__1)) (fun r => k (.agg [.own 901 false, .int .i64 r.1]) [(900, .rc [.own 901 false, .int .i64 r.1]), (901, .sl 76 y1_ r.2 .shallow)]) := he
 refine ⟨rfl, rfl, ?_⟩
 refine go_bind he fun r1_ he => ?_
 have he := ok_some he
 exact ⟨rfl, _, _, (leads_ren [(900, 2), (901, 6900)] (l := [(2, .c (.ptr 900 0))]) (st' := [(900, .rc [.own 901 false, .int .i64 (c__0, c__1).2]), (901, .sl 76 y1_ r1_ .shallow)]) rfl rfl ⟨⟨⟨⟨rfl, rfl⟩, trivial⟩, rfl, trivial⟩, ⟨rfl, rfl⟩, trivial⟩ ⟨⟨⟨rfl, rfl⟩, rfl⟩, trivial⟩), he⟩

noncomputable def c_impl_ownAll : Con := fun args st => match args, st with
  | [.c (.imm (.pair (.sl (.pair (.int .i64) (.int .i64))) (.int .i64)) list_)], [] => .opt ((List D2_)) (impl_ownAll list_) (fun r => .ret (.c (.own 900 false)) [(900, .sl 56 y2_ r (.deep true .no))])
  | _, _ => .fail

noncomputable def C_impl_ownAll : Cfg := { y := tys, n := 19, h := 0, tab := [(71, c_impl_Constraint_own)], cut := [], hand := [], good := [], deep := [15], sched := [] }

theorem t_impl_ownAll : TabOk Tryz.prog C_impl_ownAll := by
  refine tabOk_of ?_
  simp only [C_impl_ownAll, List.forall_mem_cons]
  exact ⟨k_impl_Constraint_own, fun p h => by cases h⟩

theorem k_impl_ownAll : Entry Tryz.prog 49 c_impl_ownAll := by
 refine entry_by (C := C_impl_ownAll) mixed tys_ok t_impl_ownAll (fn := Tryz.f49) (c := bd Tryz.f49) (by kernel_rfl) (by kernel_rfl) (by kernel_rfl) (by kernel_rfl) ?_
 intro args st k he
 unfold c_impl_ownAll at he
 split at he
 rotate_left
 ·exact he.elim
 rename_i list_
 have he : Ok (impl_ownAll list_) (fun r => k (.c (.own 900 false)) [(900, .sl 56 y2_ r (.deep true .no))]) := he
 refine ⟨rfl, rfl, ?_⟩
 refine loop_model mixed tys_ok t_impl_ownAll (S := Int × (List D2_)) (I := (fun (i, out) => (envOf [(3, .c (.own 10000000 false)), (6, .c (.imm y2_ list_)), (7, .c (.int .i64 (list_.length:Int))), (8, .c (.int .i64 i))], [(10000000, .sl 56 y2_ out (.deep true .no))]))) (f := impl_ownAll_l1 list_) (K := (fun r => k (.c (.own 900 false)) [(900, .sl 56 y2_ r (.deep true .no))])) he (leads_ren [] rfl rfl ⟨trivial, trivial⟩ ⟨⟨rfl, trivial⟩, .inl rfl, rfl, rfl, trivial⟩) ?_
 rintro ⟨i, out⟩ J1 he
 refine go_if he (fun he => ?_) fun he => ?_
 ·refine go_rq he fun he => ?_
  refine go_bind he fun r2_ he => ?_
  refine go_rq he fun he => ?_
  refine go_rq he fun he => ?_
  have he := ok_some he
  exact ⟨((i + (1:Int)), (out ++ [(r2_.2, r2_.1)])), he, (leads_ren [(10000000, 16)] rfl rfl ⟨⟨rfl, rfl⟩, trivial⟩ ⟨⟨⟨rfl, rfl⟩, trivial⟩, .inl rfl, rfl, rfl, trivial⟩)⟩
 ·have he := ok_some he
  exact ⟨rfl, _, _, (leads_ren [(900, 10000000)] (l := [(2, .c (.own 900 false))]) (st' := [(900, .sl 56 y2_ out (.deep true .no))]) rfl rfl ⟨⟨rfl, rfl⟩, trivial⟩ ⟨⟨⟨rfl, rfl⟩, trivial⟩, trivial⟩), he⟩

noncomputable def c_impl_CubeProblem : Con := fun args st => match args, st with
  | [.c (.imm (.pair (.sl (.pair (.int .i64) (.int .i64))) (.int .i64)) list_), .c (.imm (.int .i64) cube)], [] => .opt (Bool × (List D2_)) (impl_CubeProblem list_ cube) (fun r => .ret (.tup [.c (.own 900 false), .c (.bool r.1)]) [(900, .sl 56 y2_ r.2 (.deep true .no))])
  | _, _ => .fail

noncomputable def C_impl_CubeProblem : Cfg := { y := tys, n := 42, h := 0, tab := [(28, c_impl_ProblemValid), (48, c_impl_isCube), (49, c_impl_ownAll)], cut := [], hand := [], good := [], deep := [38], sched := [] }

theorem t_impl_CubeProblem : TabOk Tryz.prog C_impl_CubeProblem := by
  refine tabOk_of ?_
  simp only [C_impl_CubeProblem, List.forall_mem_cons]
  exact ⟨k_impl_ProblemValid, k_impl_isCube, k_impl_ownAll, fun p h => by cases h⟩

theorem k_impl_CubeProblem : Entry Tryz.prog 30 c_impl_CubeProblem := by
 refine entry_by (C := C_impl_CubeProblem) mixed tys_ok t_impl_CubeProblem (fn := Tryz.f30) (c := bd Tryz.f30) (by kernel_rfl) (by kernel_rfl) (by kernel_rfl) (by kernel_rfl) ?_
 intro args st k he
 unfold c_impl_CubeProblem at he
 split at he
 rotate_left
 ·exact he.elim
 rename_i list_ cube
 have he : Ok (impl_CubeProblem list_ cube) (fun r => k (.tup [.c (.own 900 false), .c (.bool r.1)]) [(900, .sl 56 y2_ r.2 (.deep true .no))]) := he
 refine ⟨rfl, rfl, ?_⟩
 refine go_bind he fun r1_ he => ?_
 refine go_if2 he (fun he => ?_) fun he => ?_
 ·refine go_bind he fun r2_ he => ?_
  refine go_if2 he (fun he => ?_) fun he => ?_
  ·refine go_rq he fun he => ?_
   refine go_if he (fun he => ?_) fun he => ?_
   ·have he := ok_some he
    exact ⟨rfl, _, _, (leads_ren [] (l := [(4, .c (.own 900 false)), (5, .c (.bool false))]) (st' := [(900, .sl 56 y2_ ([] : List D2_) (.deep true .no))]) rfl rfl ⟨trivial, trivial⟩ ⟨⟨rfl, trivial⟩, .inr rfl, trivial⟩), he⟩
   ·refine go_bind he fun r3_ he => ?_
    refine loop_model mixed tys_ok t_impl_CubeProblem (S := Int × (List D2_)) (I := (fun (i, out) => (envOf [(6, .c (.own 10000000 false)), (27, .c (.imm y0_ cube)), (28, .c (.int .i64 (cube.length:Int))), (29, .c (.int .i64 i))], [(10000000, .sl 56 y2_ out (.deep true .no))]))) (f := impl_CubeProblem_l1 cube) (K := (fun r => k (.tup [.c (.own 900 false), .c (.bool r.1)]) [(900, .sl 56 y2_ r.2 (.deep true .no))])) he (leads_ren [(10000000, 27900)] rfl rfl ⟨⟨rfl, rfl⟩, trivial⟩ ⟨⟨⟨rfl, rfl⟩, trivial⟩, .inl rfl, rfl, rfl, trivial⟩) ?_
    rintro ⟨i, out⟩ J1 he
    refine go_if he (fun he => ?_) fun he => ?_
    ·refine go_rq he fun he => ?_
     refine go_rq he fun he => ?_
     refine go_rq he fun he => ?_
     have he := ok_some he
     exact ⟨((i + (1:Int)), (out ++ [([((1:Int), (cube.getD i.toNat 0))], (1:Int))])), he, (leads_ren [(10000000, 39)] rfl rfl ⟨⟨rfl, rfl⟩, trivial⟩ ⟨⟨⟨rfl, rfl⟩, trivial⟩, .inl rfl, rfl, rfl, trivial⟩)⟩
    ·have he := ok_some he
     exact ⟨rfl, _, _, (leads_ren [(900, 10000000)] (l := [(4, .c (.own 900 false)), (5, .c (.bool true))]) (st' := [(900, .sl 56 y2_ out (.deep true .no))]) rfl rfl ⟨⟨rfl, rfl⟩, trivial⟩ ⟨⟨⟨rfl, rfl⟩, trivial⟩, .inr rfl, trivial⟩), he⟩
  ·have he := ok_some he
   exact ⟨rfl, _, _, (leads_ren [] (l := [(4, .c (.own 900 false)), (5, .c (.bool false))]) (st' := [(900, .sl 56 y2_ ([] : List D2_) (.deep true .no))]) rfl rfl ⟨trivial, trivial⟩ ⟨⟨rfl, trivial⟩, .inr rfl, trivial⟩), he⟩
 ·have he := ok_some he
  exact ⟨rfl, _, _, (leads_ren [] (l := [(4, .c (.own 900 false)), (5, .c (.bool false))]) (st' := [(900, .sl 56 y2_ ([] : List D2_) (.deep true .no))]) rfl rfl ⟨trivial, trivial⟩ ⟨⟨rfl, trivial⟩, .inr rfl, trivial⟩), he⟩

noncomputable def c_slices_Clone_impl_Constraint : Con := fun args st => match args, st with
  | [.c (.imm (.pair (.sl (.pair (.int .i64) (.int .i64))) (.int .i64)) s_)], [] => .opt ((List D2_)) (slices_Clone_impl_Constraint s_) (fun r => .ret (.c (.own 900 false)) [(900, .sl 56 y2_ r .shallow)])
  | _, _ => .fail

noncomputable def C_slices_Clone_impl_Constraint : Cfg := { y := tys, n := 8, h := 0, tab := [], cut := [], hand := [], good := [], deep := [], sched := [] }

theorem t_slices_Clone_impl_Constraint : TabOk Tryz.prog C_slices_Clone_impl_Constraint := tabOk_of (fun p h => by cases h)

theorem k_slices_Clone_impl_Constraint : Entry Tryz.prog 50 c_slices_Clone_impl_Constraint := by
 refine entry_by (C := C_slices_Clone_impl_Constraint) mixed tys_ok t_slices_Clone_impl_Constraint (fn := Tryz.f50) (c := bd Tryz.f50) (by kernel_rfl) (by kernel_rfl) (by kernel_rfl) (by kernel_rfl) ?_
 intro args st k he
 unfold c_slices_Clone_impl_Constraint at he
 split at he
 rotate_left
 ·exact he.elim
 rename_i s_
 have he : Ok (slices_Clone_impl_Constraint s_) (fun r => k (.c (.own 900 false)) [(900, .sl 56 y2_ r .shallow)]) := he
 refine ⟨rfl, rfl, ?_⟩
 refine fun b1_ hb1_ => ?_
 have he := ok_nt he hb1_
 refine And.intro (fun hb => ?_) (fun hb => ?_)
 ·have he := ok_t he hb
  have he := ok_some he
  exact ⟨rfl, _, _, (leads_ren [] (l := [(2, .c (.own 900 false))]) (st' := [(900, .sl 56 y2_ ([] : List D2_) .shallow)]) rfl rfl ⟨trivial, trivial⟩ ⟨⟨rfl, trivial⟩, trivial⟩), he⟩
 ·have he := ok_f he hb
  refine go_rq he fun he => ?_
  have he := ok_some he
  exact ⟨rfl, _, _, (leads_ren [(900, 7)] (l := [(2, .c (.own 900 false))]) (st' := [(900, .sl 56 y2_ (([] : List D2_) ++ s_) .shallow)]) rfl rfl ⟨⟨rfl, rfl⟩, trivial⟩ ⟨⟨⟨rfl, rfl⟩, trivial⟩, trivial⟩), he⟩

noncomputable def c_impl_under : Con := fun args st => match args, st with
  | [.c (.int .i64 l), .c (.imm (.int .i64) p)], [] => .opt (Int) (impl_under l p) (fun r => .ret (.c (.int .i64 r)) [])
  | _, _ => .fail

noncomputable def C_impl_under : Cfg := { y := tys, n := 19, h := 0, tab := [], cut := [], hand := [], good := [], deep := [], sched := [] }

theorem t_impl_under : TabOk Tryz.prog C_impl_under := tabOk_of (fun p h => by cases h)

theorem k_impl_under : Entry Tryz.prog 90 c_impl_under := by
 refine entry_by (C := C_impl_under) mixed tys_ok t_impl_under (fn := Tryz.f90) (c := bd Tryz.f90) (by kernel_rfl) (by kernel_rfl) (by kernel_rfl) (by kernel_rfl) ?_
 intro args st k he
 unfold c_impl_under at he
 split at he
 rotate_left
 ·exact he.elim
 rename_i l p
 have he : Ok (impl_under l p) (fun r => k (.c (.int .i64 r)) []) := he
 refine ⟨rfl, rfl, ?_⟩
 refine go_if he (fun he => ?_) fun he => ?_
 ·refine go_rq he fun he => ?_
  refine go_rq he fun he => ?_
  refine go_rq he fun he => ?_
  refine go_rq he fun he => ?_
  have he := ok_some he
  exact ⟨rfl, _, _, Leads.refl _ _, he⟩
 ·refine go_rq he fun he => ?_
  refine go_rq he fun he => ?_
  have he := ok_some he
  exact ⟨rfl, _, _, Leads.refl _ _, he⟩

noncomputable def c_impl_Constraint_slack : Con := fun args st => match args, st with
  | [.agg [.imm (.pair (.int .i64) (.int .i64)) c__0, .int .i64 c__1], .c (.imm (.int .i64) p)], [] => .opt (Int) (impl_Constraint_slack (c__0, c__1) p) (fun r => .ret (.c (.int .i64 r)) [])
  | _, _ => .fail

noncomputable def C_impl_Constraint_slack : Cfg := { y := tys, n := 29, h := 0, tab := [(90, c_impl_under)], cut := [], hand := [], good := [], deep := [], sched := [] }

theorem t_impl_Constraint_slack : TabOk Tryz.prog C_impl_Constraint_slack := by
  refine tabOk_of ?_
  simp only [C_impl_Constraint_slack, List.forall_mem_cons]
  exact ⟨k_impl_under, fun p h => by cases h⟩

theorem k_impl_Constraint_slack : Entry Tryz.prog 84 c_impl_Constraint_slack := by
 refine entry_by (C := C_impl_Constraint_slack) mixed tys_ok t_impl_Constraint_slack (fn := Tryz.f84) (c := bd Tryz.f84) (by kernel_rfl) (by kernel_rfl) (by kernel_rfl) (by kernel_rfl) ?_
 intro args st k he
 unfold c_impl_Constraint_slack at he
 split at he
 rotate_left
 ·exact he.elim
 rename_i c__0 c__1 p
 have he : Ok (impl_Constraint_slack (c__0, c__1) p) (fun r => k (.c (.int .i64 r)) []) := he
 refine ⟨rfl, rfl, ?_⟩
 refine go_rq he fun he => ?_
 refine loop_model mixed tys_ok t_impl_Constraint_slack (S := Int × Int) (I := (fun (out, i) => (envOf [(1, .c (.imm y0_ p)), (5, .c (.int .i64 out)), (12, .c (.imm y1_ (c__0, c__1).1)), (13, .c (.int .i64 ((c__0, c__1).1.length:Int))), (14, .c (.int .i64 i))], []))) (f := impl_Constraint_slack_l1 (c__0, c__1) p) (K := (fun r => k (.c (.int .i64 r)) [])) he (leads_ren [] rfl rfl trivial ⟨.inl rfl, rfl, .inl rfl, rfl, rfl, trivial⟩) ?_
 rintro ⟨out, i⟩ J1 he
 refine go_if he (fun he => ?_) fun he => ?_
 ·refine go_rq he fun he => ?_
  refine go_bind he fun r1_ he => ?_
  refine go_if he (fun he => ?_) fun he => ?_
  ·refine go_rq he fun he => ?_
   refine go_rq he fun he => ?_
   have he := ok_some he
   exact ⟨((out + ((c__0, c__1).1.getD i.toNat (0, 0)).1), (i + (1:Int))), he, (leads_ren [] rfl rfl trivial ⟨.inl rfl, rfl, .inl rfl, rfl, rfl, trivial⟩)⟩
  ·refine go_rq he fun he => ?_
   have he := ok_some he
   exact ⟨(out, (i + (1:Int))), he, (leads_ren [] rfl rfl trivial ⟨.inl rfl, rfl, .inl rfl, rfl, rfl, trivial⟩)⟩
 ·have he := ok_some he
  exact ⟨rfl, _, _, Leads.refl _ _, he⟩

noncomputable def c_impl_Constraint_implied : Con := fun args st => match args, st with
  | [.agg [.imm (.pair (.int .i64) (.int .i64)) c__0, .int .i64 c__1], .c (.imm (.int .i64) p)], [] => .opt ((List Int)) (impl_Constraint_implied (c__0, c__1) p) (fun r => .ret (.c (.own 900 false)) [(900, .sl 3 y0_ r .shallow)])
  | _, _ => .fail

noncomputable def C_impl_Constraint_implied : Cfg := { y := tys, n := 37, h := 0, tab := [(84, c_impl_Constraint_slack), (90, c_impl_under)], cut := [], hand := [], good := [], deep := [], sched := [] }

theorem t_impl_Constraint_implied : TabOk Tryz.prog C_impl_Constraint_implied := by
  refine tabOk_of ?_
  simp only [C_impl_Constraint_implied, List.forall_mem_cons]
  exact ⟨k_impl_Constraint_slack, k_impl_under, fun p h => by cases h⟩

theorem k_impl_Constraint_implied : Entry Tryz.prog 85 c_impl_Constraint_implied := by
 refine entry_by (C := C_impl_Constraint_implied) mixed tys_ok t_impl_Constraint_implied (fn := Tryz.f85) (c := bd Tryz.f85) (by kernel_rfl) (by kernel_rfl) (by kernel_rfl) (by kernel_rfl) ?_
 intro args st k he
 unfold c_impl_Constraint_implied at he
 split at he
 rotate_left
 ·exact he.elim
 rename_i c__0 c__1 p
 have he : Ok (impl_Constraint_implied (c__0, c__1) p) (fun r => k (.c (.own 900 false)) [(900, .sl 3 y0_ r .shallow)]) := he
 refine ⟨rfl, rfl, ?_⟩
 refine go_bind he fun r1_ he => ?_
 refine loop_model mixed tys_ok t_impl_Constraint_implied (S := Int × (List Int)) (I := (fun (i, out) => (envOf [(1, .c (.imm y0_ p)), (5, .c (.int .i64 r1_)), (6, .c (.own 10000000 false)), (13, .c (.imm y1_ (c__0, c__1).1)), (14, .c (.int .i64 ((c__0, c__1).1.length:Int))), (15, .c (.int .i64 i))], [(10000000, .sl 3 y0_ out .shallow)]))) (f := impl_Constraint_implied_l1 (c__0, c__1) p r1_) (K := (fun r => k (.c (.own 900 false)) [(900, .sl 3 y0_ r .shallow)])) he (leads_ren [] rfl rfl ⟨trivial, trivial⟩ ⟨.inl rfl, rfl, ⟨rfl, trivial⟩, .inl rfl, rfl, rfl, trivial⟩) ?_
 rintro ⟨i, out⟩ J1 he
 refine go_if he (fun he => ?_) fun he => ?_
 ·refine go_rq he fun he => ?_
  refine go_bind he fun r3_ he => ?_
  refine go_if he (fun he => ?_) fun he => ?_
  ·refine go_if he (fun he => ?_) fun he => ?_
   ·refine go_rq he fun he => ?_
    refine go_rq he fun he => ?_
    have he := ok_some he
    exact ⟨((i + (1:Int)), (out ++ [((c__0, c__1).1.getD i.toNat (0, 0)).2])), he, (leads_ren [(10000000, 34)] rfl rfl ⟨⟨rfl, rfl⟩, trivial⟩ ⟨.inl rfl, rfl, ⟨⟨rfl, rfl⟩, trivial⟩, .inl rfl, rfl, rfl, trivial⟩)⟩
   ·refine go_rq he fun he => ?_
    have he := ok_some he
    exact ⟨((i + (1:Int)), out), he, (leads_ren [] rfl rfl ⟨⟨rfl, rfl⟩, trivial⟩ ⟨.inl rfl, rfl, ⟨⟨rfl, rfl⟩, trivial⟩, .inl rfl, rfl, rfl, trivial⟩)⟩
  ·refine go_rq he fun he => ?_
   have he := ok_some he
   exact ⟨((i + (1:Int)), out), he, (leads_ren [] rfl rfl ⟨⟨rfl, rfl⟩, trivial⟩ ⟨.inl rfl, rfl, ⟨⟨rfl, rfl⟩, trivial⟩, .inl rfl, rfl, rfl, trivial⟩)⟩
 ·have he := ok_some he
  exact ⟨rfl, _, _, (leads_ren [(900, 10000000)] (l := [(4, .c (.own 900 false))]) (st' := [(900, .sl 3 y0_ out .shallow)]) rfl rfl ⟨⟨rfl, rfl⟩, trivial⟩ ⟨⟨⟨rfl, rfl⟩, trivial⟩, trivial⟩), he⟩

noncomputable def c_impl_propagate : Con := fun args st => match args, st with
  | [.c (.imm (.pair (.sl (.pair (.int .i64) (.int .i64))) (.int .i64)) list_), .c (.imm (.int .i64) p)], [] => .opt (Int × (List Int)) (impl_propagate list_ p) (fun r => .ret (.tup [.c (.own 900 false), .c (.int .i64 r.1)]) [(900, .sl 3 y0_ r.2 .shallow)])
  | _, _ => .fail

noncomputable def C_impl_propagate : Cfg := { y := tys, n := 50, h := 0, tab := [(65, c_slices_Clone_int), (84, c_impl_Constraint_slack), (85, c_impl_Constraint_implied)], cut := [], hand := [], good := [], deep := [], sched := [] }

theorem t_impl_propagate : TabOk Tryz.prog C_impl_propagate := by
  refine tabOk_of ?_
  simp only [C_impl_propagate, List.forall_mem_cons]
  exact ⟨k_slices_Clone_int, k_impl_Constraint_slack, k_impl_Constraint_implied, fun p h => by cases h⟩

theorem k_impl_propagate : Entry Tryz.prog 72 c_impl_propagate := by
 refine entry_by (C := C_impl_propagate) mixed tys_ok t_impl_propagate (fn := Tryz.f72) (c := bd Tryz.f72) (by kernel_rfl) (by kernel_rfl) (by kernel_rfl) (by kernel_rfl) ?_
 intro args st k he
 unfold c_impl_propagate at he
 split at he
 rotate_left
 ·exact he.elim
 rename_i list_ p
 have he : Ok (impl_propagate list_ p) (fun r => k (.tup [.c (.own 900 false), .c (.int .i64 r.1)]) [(900, .sl 3 y0_ r.2 .shallow)]) := he
 refine ⟨rfl, rfl, ?_⟩
 refine go_bind he fun r1_ he => ?_
 refine loop_model mixed tys_ok t_impl_propagate (S := Bool × (List Int)) (I := (fun (made, out3) => (envOf [(0, .c (.imm y2_ list_)), (6, .c (.own 10000000 false)), (7, .c (.bool made))], [(10000000, .sl 3 y0_ out3 .shallow)]))) (f := impl_propagate_l1 list_) (K := (fun r => k (.tup [.c (.own 900 false), .c (.int .i64 r.1)]) [(900, .sl 3 y0_ r.2 .shallow)])) he (leads_ren [(10000000, 14900)] rfl rfl ⟨⟨rfl, rfl⟩, trivial⟩ ⟨.inl rfl, ⟨⟨rfl, rfl⟩, trivial⟩, .inr rfl, trivial⟩) ?_
 rintro ⟨made, out3⟩ J1 he
 refine go_if he (fun he => ?_) fun he => ?_
 ·refine loop_model mixed tys_ok t_impl_propagate (S := Bool × Int × (List Int)) (I := (fun (made4, i3, out5) => (envOf [(0, .c (.imm y2_ list_)), (6, .c (.own 10004000 false)), (7, .c (.bool made4)), (15, .c (.imm y2_ list_)), (16, .c (.int .i64 (list_.length:Int))), (17, .c (.int .i64 i3))], [(10004000, .sl 3 y0_ out5 .shallow)]))) (f := impl_propagate_l2 list_) (K := (LK J1 (fun r => k (.tup [.c (.own 900 false), .c (.int .i64 r.1)]) [(900, .sl 3 y0_ r.2 .shallow)]))) he (leads_ren [(10004000, 10000000)] rfl rfl ⟨⟨rfl, rfl⟩, trivial⟩ ⟨.inl rfl, ⟨⟨rfl, rfl⟩, trivial⟩, .inr rfl, .inl rfl, rfl, rfl, trivial⟩) ?_
  rintro ⟨made4, i3, out5⟩ J2 he
  refine go_if he (fun he => ?_) fun he => ?_
  ·refine go_rq he fun he => ?_
   refine go_bind he fun r8_ he => ?_
   refine go_if he (fun he => ?_) fun he => ?_
   ·have he := ok_some he
    exact ⟨rfl, _, _, (leads_ren [(900, 10004000)] (l := [(4, .c (.own 900 false)), (5, .c (.int .i64 i3))]) (st' := [(900, .sl 3 y0_ out5 .shallow)]) rfl rfl ⟨⟨rfl, rfl⟩, trivial⟩ ⟨⟨⟨rfl, rfl⟩, trivial⟩, rfl, trivial⟩), he⟩
   ·refine go_bind he fun r9_ he => ?_
    refine loop_model mixed tys_ok t_impl_propagate (S := Bool × Int × (List Int)) (I := (fun (made6, i5, out6) => (envOf [(0, .c (.imm y2_ list_)), (6, .c (.own 10006000 false)), (7, .c (.bool made6)), (15, .c (.imm y2_ list_)), (16, .c (.int .i64 (list_.length:Int))), (17, .c (.int .i64 i3)), (30, .c (.own 10006001 false)), (31, .c (.int .i64 (r9_.length:Int))), (32, .c (.int .i64 i5))], [(10006000, .sl 3 y0_ out6 .shallow), (10006001, .sl 3 y0_ r9_ .shallow)]))) (f := impl_propagate_l3 i3 r9_) (K := (LK J2 (LK J1 (fun r => k (.tup [.c (.own 900 false), .c (.int .i64 r.1)]) [(900, .sl 3 y0_ r.2 .shallow)])))) he (leads_ren [(10006000, 10004000), (10006001, 31900)] rfl rfl ⟨⟨rfl, rfl⟩, ⟨rfl, rfl⟩, trivial⟩ ⟨.inl rfl, ⟨⟨rfl, rfl⟩, trivial⟩, .inl rfl, .inl rfl, rfl, rfl, ⟨⟨rfl, rfl⟩, trivial⟩, rfl, rfl, trivial⟩) ?_
    rintro ⟨made6, i5, out6⟩ J3 he
    refine go_if he (fun he => ?_) fun he => ?_
    ·refine go_rq he fun he => ?_
     refine go_if he (fun he => ?_) fun he => ?_
     ·refine go_rq he fun he => ?_
      refine go_rq he fun he => ?_
      refine go_rq he fun he => ?_
      have he := ok_some he
      exact ⟨(true, (i5 + (1:Int)), (out6.set ((r9_.getD i5.toNat 0) - (1:Int)).toNat (1:Int))), he, (leads_ren [] rfl rfl ⟨⟨rfl, rfl⟩, ⟨rfl, rfl⟩, trivial⟩ ⟨.inl rfl, ⟨⟨rfl, rfl⟩, trivial⟩, .inr rfl, .inl rfl, rfl, rfl, ⟨⟨rfl, rfl⟩, trivial⟩, rfl, rfl, trivial⟩)⟩
     ·refine go_rq he fun he => ?_
      refine go_rq he fun he => ?_
      refine go_rq he fun he => ?_
      refine go_rq he fun he => ?_
      have he := ok_some he
      exact ⟨(true, (i5 + (1:Int)), (out6.set ((0 - (r9_.getD i5.toNat 0)) - (1:Int)).toNat (-1:Int))), he, (leads_ren [] rfl rfl ⟨⟨rfl, rfl⟩, ⟨rfl, rfl⟩, trivial⟩ ⟨.inl rfl, ⟨⟨rfl, rfl⟩, trivial⟩, .inr rfl, .inl rfl, rfl, rfl, ⟨⟨rfl, rfl⟩, trivial⟩, rfl, rfl, trivial⟩)⟩
    ·refine go_rq he fun he => ?_
     have he := ok_some he
     exact ⟨(made6, (i3 + (1:Int)), out6), he, (leads_ren [(10004000, 10006000)] rfl rfl ⟨⟨rfl, rfl⟩, trivial⟩ ⟨.inl rfl, ⟨⟨rfl, rfl⟩, trivial⟩, .inl rfl, .inl rfl, rfl, rfl, trivial⟩)⟩
  ·have he := ok_some he
   exact ⟨(made4, out5), he, (leads_ren [(10000000, 10004000)] rfl rfl ⟨⟨rfl, rfl⟩, trivial⟩ ⟨.inl rfl, ⟨⟨rfl, rfl⟩, trivial⟩, .inl rfl, trivial⟩)⟩
 ·have he := ok_some he
  exact ⟨rfl, _, _, (leads_ren [(900, 10000000)] (l := [(4, .c (.own 900 false)), (5, .c (.int .i64 (-1:Int)))]) (st' := [(900, .sl 3 y0_ out3 .shallow)]) rfl rfl ⟨⟨rfl, rfl⟩, trivial⟩ ⟨⟨⟨rfl, rfl⟩, trivial⟩, rfl, trivial⟩), he⟩

noncomputable def c_impl_valuesOf : Con := fun args st => match args, st with
  | [.c (.imm (.int .i64) p)], [] => .opt (Int × Bool × (List Bool)) (impl_valuesOf p) (fun r => .ret (.tup [.c (.own 900 false), .c (.int .i64 r.1), .c (.bool r.2.1)]) [(900, .sl 4 .bool r.2.2 .shallow)])
  | _, _ => .fail

noncomputable def C_impl_valuesOf : Cfg := { y := tys, n := 26, h := 0, tab := [], cut := [9], hand := [], good := [], deep := [], sched := [] }

theorem t_impl_valuesOf : TabOk Tryz.prog C_impl_valuesOf := tabOk_of (fun p h => by cases h)

theorem k_impl_valuesOf : Entry Tryz.prog 73 c_impl_valuesOf := by
 refine entry_by (C := C_impl_valuesOf) mixed tys_ok t_impl_valuesOf (fn := Tryz.f73) (c := bd Tryz.f73) (by kernel_rfl) (by kernel_rfl) (by kernel_rfl) (by kernel_rfl) ?_
 intro args st k he
 unfold c_impl_valuesOf at he
 split at he
 rotate_left
 ·exact he.elim
 rename_i p
 have he : Ok (impl_valuesOf p) (fun r => k (.tup [.c (.own 900 false), .c (.int .i64 r.1), .c (.bool r.2.1)]) [(900, .sl 4 .bool r.2.2 .shallow)]) := he
 refine ⟨rfl, rfl, ?_⟩
 refine seq_model mixed tys_ok t_impl_valuesOf (S := (List Bool)) (I := (fun out1 => (envOf [(5, .c (.own 10001000 false))], [(10001000, .sl 4 .bool out1 .shallow)]))) (B := fun s => Ok (impl_valuesOf_j1 s) (fun r => k (.tup [.c (.own 900 false), .c (.int .i64 r.1), .c (.bool r.2.1)]) [(900, .sl 4 .bool r.2.2 .shallow)])) ?_ ?_
 ·rintro out1 he
  have he := ok_some he
  exact ⟨rfl, _, _, (leads_ren [(900, 10001000)] (l := [(2, .c (.own 900 false)), (3, .c (.int .i64 (0:Int))), (4, .c (.bool true))]) (st' := [(900, .sl 4 .bool out1 .shallow)]) rfl rfl ⟨⟨rfl, rfl⟩, trivial⟩ ⟨⟨⟨rfl, rfl⟩, trivial⟩, rfl, .inr rfl, trivial⟩), he⟩
 ·skip
  refine loop_model mixed tys_ok t_impl_valuesOf (S := Int × (List Bool)) (I := (fun (i, out) => (envOf [(5, .c (.own 10000000 false)), (8, .c (.imm y0_ p)), (9, .c (.int .i64 (p.length:Int))), (10, .c (.int .i64 i))], [(10000000, .sl 4 .bool out .shallow)]))) (f := impl_valuesOf_l1 p) (K := (fun r => k (.tup [.c (.own 900 false), .c (.int .i64 r.1), .c (.bool r.2.1)]) [(900, .sl 4 .bool r.2.2 .shallow)])) he (leads_ren [] rfl rfl ⟨trivial, trivial⟩ ⟨⟨rfl, trivial⟩, .inl rfl, rfl, rfl, trivial⟩) ?_
  rintro ⟨i, out⟩ J1 he
  refine go_if he (fun he => ?_) fun he => ?_
  ·refine go_rq he fun he => ?_
   refine go_if he (fun he => ?_) fun he => ?_
   ·refine go_rq he fun he => ?_
    have he := ok_some he
    exact ⟨rfl, _, _, (leads_ren [] (l := [(2, .c (.own 900 false)), (3, .c (.int .i64 (i + (1:Int)))), (4, .c (.bool false))]) (st' := [(900, .sl 4 .bool ([] : List Bool) .shallow)]) rfl rfl ⟨trivial, trivial⟩ ⟨⟨rfl, trivial⟩, rfl, .inr rfl, trivial⟩), he⟩
   ·refine go_rq he fun he => ?_
    refine go_rq he fun he => ?_
    have he := ok_some he
    exact ⟨((i + (1:Int)), (out ++ [(decide ((0:Int) < (p.getD i.toNat 0)))])), he, (leads_ren [(10000000, 23)] rfl rfl ⟨⟨rfl, rfl⟩, trivial⟩ ⟨⟨⟨rfl, rfl⟩, trivial⟩, .inl rfl, rfl, rfl, trivial⟩)⟩
  ·exact ⟨out, ok_up he, (leads_ren [(10001000, 10000000)] rfl rfl ⟨⟨rfl, rfl⟩, trivial⟩ ⟨⟨⟨rfl, rfl⟩, trivial⟩, trivial⟩)⟩

noncomputable def c_slices_Index_int : Con := fun args st => match args, st with
  | [.c (.imm (.int .i64) s_), .c (.int .i64 v)], [] => .opt (Int) (slices_Index_int s_ v) (fun r => .ret (.c (.int .i64 r)) [])
  | _, _ => .fail

noncomputable def C_slices_Index_int : Cfg := { y := tys, n := 19, h := 0, tab := [], cut := [], hand := [], good := [], deep := [], sched := [] }

theorem t_slices_Index_int : TabOk Tryz.prog C_slices_Index_int := tabOk_of (fun p h => by cases h)

theorem k_slices_Index_int : Entry Tryz.prog 86 c_slices_Index_int := by
 refine entry_by (C := C_slices_Index_int) mixed tys_ok t_slices_Index_int (fn := Tryz.f86) (c := bd Tryz.f86) (by kernel_rfl) (by kernel_rfl) (by kernel_rfl) (by kernel_rfl) ?_
 intro args st k he
 unfold c_slices_Index_int at he
 split at he
 rotate_left
 ·exact he.elim
 rename_i s_ v
 have he : Ok (slices_Index_int s_ v) (fun r => k (.c (.int .i64 r)) []) := he
 refine ⟨rfl, rfl, ?_⟩
 refine loop_model mixed tys_ok t_slices_Index_int (S := Int) (I := (fun i => (envOf [(0, .c (.imm y0_ s_)), (1, .c (.int .i64 v)), (7, .c (.int .i64 (s_.length:Int))), (8, .c (.int .i64 i))], []))) (f := slices_Index_int_l1 s_ v) (K := (fun r => k (.c (.int .i64 r)) [])) he (leads_ren [] rfl rfl trivial ⟨.inl rfl, rfl, rfl, rfl, trivial⟩) ?_
 rintro i J1 he
 refine go_if he (fun he => ?_) fun he => ?_
 ·refine go_rq he fun he => ?_
  refine go_if he (fun he => ?_) fun he => ?_
  ·have he := ok_some he
   exact ⟨rfl, _, _, Leads.refl _ _, he⟩
  ·refine go_rq he fun he => ?_
   have he := ok_some he
   exact ⟨(i + (1:Int)), he, (leads_ren [] rfl rfl trivial ⟨.inl rfl, rfl, rfl, rfl, trivial⟩)⟩
 ·have he := ok_some he
  exact ⟨rfl, _, _, Leads.refl _ _, he⟩

noncomputable def c_slices_Contains_int : Con := fun args st => match args, st with
  | [.c (.imm (.int .i64) s_), .c (.int .i64 v)], [] => .opt (Bool) (slices_Contains_int s_ v) (fun r => .ret (.c (.bool r)) [])
  | _, _ => .fail

noncomputable def C_slices_Contains_int : Cfg := { y := tys, n := 9, h := 0, tab := [(86, c_slices_Index_int)], cut := [], hand := [], good := [], deep := [], sched := [] }

theorem t_slices_Contains_int : TabOk Tryz.prog C_slices_Contains_int := by
  refine tabOk_of ?_
  simp only [C_slices_Contains_int, List.forall_mem_cons]
  exact ⟨k_slices_Index_int, fun p h => by cases h⟩

theorem k_slices_Contains_int : Entry Tryz.prog 75 c_slices_Contains_int := by
 refine entry_by (C := C_slices_Contains_int) mixed tys_ok t_slices_Contains_int (fn := Tryz.f75) (c := bd Tryz.f75) (by kernel_rfl) (by kernel_rfl) (by kernel_rfl) (by kernel_rfl) ?_
 intro args st k he
 unfold c_slices_Contains_int at he
 split at he
 rotate_left
 ·exact he.elim
 rename_i s_ v
 have he : Ok (slices_Contains_int s_ v) (fun r => k (.c (.bool r)) []) := he
 refine ⟨rfl, rfl, ?_⟩
 refine go_bind he fun r1_ he => ?_
 have he := ok_some he
 exact ⟨rfl, _, _, Leads.refl _ _, he⟩

noncomputable def c_impl_ClauseOf_1 : Con := fun args st => match args, st with
  | [.c (.int .i64 a), .c (.int .i64 b)], [] => .opt (Int) (impl_ClauseOf_1 a b) (fun r => .ret (.c (.int .i64 r)) [])
  | _, _ => .fail

noncomputable def C_impl_ClauseOf_1 : Cfg := { y := tys, n := 10, h := 0, tab := [(70, c_impl_variableOf)], cut := [], hand := [], good := [], deep := [], sched := [] }

theorem t_impl_ClauseOf_1 : TabOk Tryz.prog C_impl_ClauseOf_1 := by
  refine tabOk_of ?_
  simp only [C_impl_ClauseOf_1, List.forall_mem_cons]
  exact ⟨k_impl_variableOf, fun p h => by cases h⟩

theorem k_impl_ClauseOf_1 : Entry Tryz.prog 77 c_impl_ClauseOf_1 := by
 refine entry_by (C := C_impl_ClauseOf_1) mixed tys_ok t_impl_ClauseOf_1 (fn := Tryz.f77) (c := bd Tryz.f77) (by kernel_rfl) (by kernel_rfl) (by kernel_rfl) (by kernel_rfl) ?_
 intro args st k he
 unfold c_impl_ClauseOf_1 at he
 split at he
 rotate_left
 ·exact he.elim
 rename_i a b
 have he : Ok (impl_ClauseOf_1 a b) (fun r => k (.c (.int .i64 r)) []) := he
 refine ⟨rfl, rfl, ?_⟩
 refine go_bind he fun r1_ he => ?_
 refine go_bind he fun r2_ he => ?_
 refine go_rq he fun he => ?_
 have he := ok_some he
 exact ⟨rfl, _, _, Leads.refl _ _, he⟩

end Go.AE.Y
