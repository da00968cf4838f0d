/-
  Walks: each function keeps the contract that its model gives. No conditions.
-/
import Derived.Test.YtaeeiddjpigemaaGreatR7Tab
import Derived.Test.YtaeeiddjpigemaaGreatR7W1
import Derived.Test.YtaeeiddjpigemaaGreatR7S
namespace Go.AE.Y
open Go Go.AE Go.Proofs
set_option linter.unusedVariables false
set_option maxHeartbeats 2000000
set_option maxRecDepth 100000

noncomputable def c_impl_ProblemValid : Con := fun args st => match args, st with
  | [.c (.imm (.pair (.sl (.pair (.int .i64) (.int .i64))) (.int .i64)) list_)], [] => .opt (Bool) (impl_ProblemValid list_) (fun r => .ret (.c (.bool r)) [])
  | _, _ => .fail

noncomputable def C_impl_ProblemValid : Cfg := { y := tys, n := 10, h := 0, tab := [(159, c_impl_allValid)], cut := [], hand := [], good := [], deep := [], sched := [] }

theorem t_impl_ProblemValid : TabOk Tryz.prog C_impl_ProblemValid := by
  refine tabOk_of ?_
  simp only [C_impl_ProblemValid, List.forall_mem_cons]
  exact ⟨k_impl_allValid, fun p h => by cases h⟩

theorem k_impl_ProblemValid : Entry Tryz.prog 98 c_impl_ProblemValid := by
 refine entry_by (C := C_impl_ProblemValid) mixed tys_ok t_impl_ProblemValid (fn := Tryz.f98) (c := bd Tryz.f98) (by kernel_rfl) (by kernel_rfl) (by kernel_rfl) (by kernel_rfl) ?_
 intro args st k he
 unfold c_impl_ProblemValid at he
 split at he
 rotate_left
 ·exact he.elim
 rename_i list_
 have he : Ok (impl_ProblemValid list_) (fun r => k (.c (.bool r)) []) := he
 refine ⟨rfl, rfl, ?_⟩
 refine go_if he (fun he => ?_) fun he => ?_
 ·refine go_bind he fun r1_ he => ?_
  have he := ok_some he
  exact ⟨rfl, _, _, Leads.refl _ _, he⟩
 ·have he := ok_some he
  exact ⟨rfl, _, _, Leads.refl _ _, he⟩

noncomputable def c_impl_numbered : Con := fun args st => match args, st with
  | [.c (.int .i64 n)], [] => .opt ((List Bool)) (impl_numbered n) (fun r => .ret (.c (.own 900 false)) [(900, .sl 4 .bool r .shallow)])
  | _, _ => .fail

noncomputable def C_impl_numbered : Cfg := { y := tys, n := 22, h := 0, tab := [], cut := [], hand := [], good := [], deep := [], sched := [] }

theorem t_impl_numbered : TabOk Tryz.prog C_impl_numbered := tabOk_of (fun p h => by cases h)

theorem k_impl_numbered : Entry Tryz.prog 103 c_impl_numbered := by
 refine entry_by (C := C_impl_numbered) mixed tys_ok t_impl_numbered (fn := Tryz.f103) (c := bd Tryz.f103) (by kernel_rfl) (by kernel_rfl) (by kernel_rfl) (by kernel_rfl) ?_
 intro args st k he
 unfold c_impl_numbered at he
 split at he
 rotate_left
 ·exact he.elim
 rename_i n
 have he : Ok (impl_numbered n) (fun r => k (.c (.own 900 false)) [(900, .sl 4 .bool r .shallow)]) := he
 refine ⟨rfl, rfl, ?_⟩
 refine go_rq he fun he => ?_
 refine loop_model mixed tys_ok t_impl_numbered (S := Int × (List Bool)) (I := (fun (i, out) => (envOf [(0, .c (.int .i64 n)), (3, .c (.own 10000000 false)), (7, .c (.int .i64 ((List.replicate (12:Int).toNat false).length:Int))), (8, .c (.int .i64 i))], [(10000000, .sl 4 .bool out .shallow)]))) (f := impl_numbered_l1 n) (K := (fun r => k (.c (.own 900 false)) [(900, .sl 4 .bool r .shallow)])) he (leads_ren [(10000000, 5)] rfl rfl ⟨⟨rfl, rfl⟩, trivial⟩ ⟨rfl, ⟨⟨rfl, rfl⟩, trivial⟩, rfl, rfl, trivial⟩) ?_
 rintro ⟨i, out⟩ J1 he
 refine go_if he (fun he => ?_) fun he => ?_
 ·refine go_rq he fun he => ?_
  refine go_rq he fun he => ?_
  refine go_rq he fun he => ?_
  refine go_rq he fun he => ?_
  refine go_rq he fun he => ?_
  have he := ok_some he
  exact ⟨((i + (1:Int)), (out.set i.toNat ((((n / 2 ^ ((11:Int) - i).toNat).toNat &&& (1:Int).toNat : Nat) : Int) == (1:Int)))), he, (leads_ren [] rfl rfl ⟨⟨rfl, rfl⟩, trivial⟩ ⟨rfl, ⟨⟨rfl, rfl⟩, trivial⟩, rfl, rfl, trivial⟩)⟩
 ·have he := ok_some he
  exact ⟨rfl, _, _, (leads_ren [(900, 10000000)] (l := [(2, .c (.own 900 false))]) (st' := [(900, .sl 4 .bool out .shallow)]) rfl rfl ⟨⟨rfl, rfl⟩, trivial⟩ ⟨⟨⟨rfl, rfl⟩, trivial⟩, trivial⟩), he⟩

noncomputable def c_impl_holds : Con := fun args st => match args, st with
  | [.c (.int .i64 l), .c (.imm .bool values)], [] => .opt (Bool) (impl_holds l values) (fun r => .ret (.c (.bool r)) [])
  | _, _ => .fail

noncomputable def C_impl_holds : Cfg := { y := tys, n := 14, h := 0, tab := [(170, c_impl_variableOf)], cut := [], hand := [], good := [], deep := [], sched := [] }

theorem t_impl_holds : TabOk Tryz.prog C_impl_holds := by
  refine tabOk_of ?_
  simp only [C_impl_holds, List.forall_mem_cons]
  exact ⟨k_impl_variableOf, fun p h => by cases h⟩

theorem k_impl_holds : Entry Tryz.prog 226 c_impl_holds := by
 refine entry_by (C := C_impl_holds) mixed tys_ok t_impl_holds (fn := Tryz.f226) (c := bd Tryz.f226) (by kernel_rfl) (by kernel_rfl) (by kernel_rfl) (by kernel_rfl) ?_
 intro args st k he
 unfold c_impl_holds at he
 split at he
 rotate_left
 ·exact he.elim
 rename_i l values
 have he : Ok (impl_holds l values) (fun r => k (.c (.bool r)) []) := he
 refine ⟨rfl, rfl, ?_⟩
 refine go_bind he fun r1_ he => ?_
 refine go_rq he fun he => ?_
 refine go_rq he fun he => ?_
 have he := ok_some he
 exact ⟨rfl, _, _, Leads.refl _ _, he⟩

noncomputable def c_impl_Constraint_holds : Con := fun args st => match args, st with
  | [.agg [.imm (.pair (.int .i64) (.int .i64)) c__0, .int .i64 c__1], .c (.imm .bool values)], [] => .opt (Bool) (impl_Constraint_holds (c__0, c__1) values) (fun r => .ret (.c (.bool r)) [])
  | _, _ => .fail

noncomputable def C_impl_Constraint_holds : Cfg := { y := tys, n := 28, h := 0, tab := [(226, c_impl_holds)], cut := [], hand := [], good := [], deep := [], sched := [] }

theorem t_impl_Constraint_holds : TabOk Tryz.prog C_impl_Constraint_holds := by
  refine tabOk_of ?_
  simp only [C_impl_Constraint_holds, List.forall_mem_cons]
  exact ⟨k_impl_holds, fun p h => by cases h⟩

theorem k_impl_Constraint_holds : Entry Tryz.prog 163 c_impl_Constraint_holds := by
 refine entry_by (C := C_impl_Constraint_holds) mixed tys_ok t_impl_Constraint_holds (fn := Tryz.f163) (c := bd Tryz.f163) (by kernel_rfl) (by kernel_rfl) (by kernel_rfl) (by kernel_rfl) ?_
 intro args st k he
 unfold c_impl_Constraint_holds at he
 split at he
 rotate_left
 ·exact he.elim
 rename_i c__0 c__1 values
 have he : Ok (impl_Constraint_holds (c__0, c__1) values) (fun r => k (.c (.bool r)) []) := he
 refine ⟨rfl, rfl, ?_⟩
 refine loop_model mixed tys_ok t_impl_Constraint_holds (S := Int × Int) (I := (fun (sum, i) => (envOf [(1, .c (.imm .bool values)), (2, .c (.ptr 10000000 0)), (5, .c (.int .i64 sum)), (9, .c (.imm y2_ (c__0, c__1).1)), (10, .c (.int .i64 ((c__0, c__1).1.length:Int))), (11, .c (.int .i64 i))], [(10000000, .rc [.imm y2_ (c__0, c__1).1, .int .i64 (c__0, c__1).2])]))) (f := impl_Constraint_holds_l1 (c__0, c__1) values) (K := (fun r => k (.c (.bool r)) [])) he (leads_ren [(10000000, 2)] rfl rfl ⟨⟨.inl rfl, rfl, trivial⟩, trivial⟩ ⟨.inl rfl, ⟨⟨rfl, rfl⟩, rfl⟩, rfl, .inl rfl, rfl, rfl, trivial⟩) ?_
 rintro ⟨sum, i⟩ J1 he
 refine go_if he (fun he => ?_) fun he => ?_
 ·refine go_rq he fun he => ?_
  refine go_bind he fun r1_ he => ?_
  refine go_if he (fun he => ?_) fun he => ?_
  ·refine go_rq he fun he => ?_
   refine go_rq he fun he => ?_
   have he := ok_some he
   exact ⟨((sum + ((c__0, c__1).1.getD i.toNat (0, 0)).1), (i + (1:Int))), he, (leads_ren [] rfl rfl ⟨⟨.inl rfl, rfl, trivial⟩, trivial⟩ ⟨.inl rfl, ⟨⟨rfl, rfl⟩, rfl⟩, rfl, .inl rfl, rfl, rfl, trivial⟩)⟩
  ·refine go_rq he fun he => ?_
   have he := ok_some he
   exact ⟨(sum, (i + (1:Int))), he, (leads_ren [] rfl rfl ⟨⟨.inl rfl, rfl, trivial⟩, trivial⟩ ⟨.inl rfl, ⟨⟨rfl, rfl⟩, rfl⟩, rfl, .inl rfl, rfl, rfl, trivial⟩)⟩
 ·have he := ok_some he
  exact ⟨rfl, _, _, (leads_ren [] (l := [(4, .c (.bool (decide ((c__0, c__1).2 ≤ sum))))]) (st' := []) rfl rfl trivial ⟨.inl rfl, trivial⟩), he⟩

noncomputable def c_impl_satisfies_1 : Con := fun args st => match args, st with
  | [.agg [.imm (.pair (.int .i64) (.int .i64)) c__0, .int .i64 c__1], .c (.ptr 0 0)], [(0, .rc [.imm .bool o0])] => .opt (Bool) (impl_satisfies_1 (c__0, c__1) o0) (fun r => .ret (.c (.bool r)) [(0, .rc [.imm .bool o0])])
  | _, _ => .fail

noncomputable def C_impl_satisfies_1 : Cfg := { y := tys, n := 8, h := 1, tab := [(163, c_impl_Constraint_holds)], cut := [], hand := [], good := [], deep := [], sched := [] }

theorem t_impl_satisfies_1 : TabOk Tryz.prog C_impl_satisfies_1 := by
  refine tabOk_of ?_
  simp only [C_impl_satisfies_1, List.forall_mem_cons]
  exact ⟨k_impl_Constraint_holds, fun p h => by cases h⟩

theorem k_impl_satisfies_1 : Entry Tryz.prog 162 c_impl_satisfies_1 := by
 refine entry_by (C := C_impl_satisfies_1) mixed tys_ok t_impl_satisfies_1 (fn := Tryz.f162) (c := bd Tryz.f162) (by kernel_rfl) (by kernel_rfl) (by kernel_rfl) (by kernel_rfl) ?_
 intro args st k he
 unfold c_impl_satisfies_1 at he
 split at he
 rotate_left
 ·exact he.elim
 rename_i c__0 c__1 o0
 have he : Ok (impl_satisfies_1 (c__0, c__1) o0) (fun r => k (.c (.bool r)) [(0, .rc [.imm .bool o0])]) := he
 refine ⟨rfl, rfl, ?_⟩
 refine go_bind he fun r1_ he => ?_
 have he := ok_some he
 exact ⟨rfl, _, _, (leads_ren [] (l := [(3, .c (.bool (!r1_)))]) (st' := [(0, .rc [.imm .bool o0])]) rfl rfl ⟨⟨.inl rfl, trivial⟩, trivial⟩ ⟨.inl rfl, trivial⟩), he⟩

noncomputable def c_slices_IndexFunc_impl_Constraint__impl_satisfies_1 : Con := fun args st => match args, st with
  | [.c (.imm (.pair (.sl (.pair (.int .i64) (.int .i64))) (.int .i64)) s_), .c (.fn 162 [0])], [(0, .rc [.imm .bool o0])] => .opt (Int) (slices_IndexFunc_impl_Constraint__impl_satisfies_1 s_ o0) (fun r => .ret (.c (.int .i64 r)) [(0, .rc [.imm .bool o0])])
  | _, _ => .fail

noncomputable def C_slices_IndexFunc_impl_Constraint__impl_satisfies_1 : Cfg := { y := tys, n := 19, h := 1, tab := [(162, c_impl_satisfies_1)], cut := [], hand := [], good := [], deep := [], sched := [] }

theorem t_slices_IndexFunc_impl_Constraint__impl_satisfies_1 : TabOk Tryz.prog C_slices_IndexFunc_impl_Constraint__impl_satisfies_1 := by
  refine tabOk_of ?_
  simp only [C_slices_IndexFunc_impl_Constraint__impl_satisfies_1, List.forall_mem_cons]
  exact ⟨k_impl_satisfies_1, fun p h => by cases h⟩

theorem k_slices_IndexFunc_impl_Constraint__impl_satisfies_1 : Entry Tryz.prog 225 c_slices_IndexFunc_impl_Constraint__impl_satisfies_1 := by
 refine entry_by (C := C_slices_IndexFunc_impl_Constraint__impl_satisfies_1) mixed tys_ok t_slices_IndexFunc_impl_Constraint__impl_satisfies_1 (fn := Tryz.f225) (c := bd Tryz.f225) (by kernel_rfl) (by kernel_rfl) (by kernel_rfl) (by kernel_rfl) ?_
 intro args st k he
 unfold c_slices_IndexFunc_impl_Constraint__impl_satisfies_1 at he
 split at he
 rotate_left
 ·exact he.elim
 rename_i s_ o0
 have he : Ok (slices_IndexFunc_impl_Constraint__impl_satisfies_1 s_ o0) (fun r => k (.c (.int .i64 r)) [(0, .rc [.imm .bool o0])]) := he
 refine ⟨rfl, rfl, ?_⟩
 refine loop_model mixed tys_ok t_slices_IndexFunc_impl_Constraint__impl_satisfies_1 (S := Int) (I := (fun i => (envOf [(0, .c (.imm y3_ s_)), (1, .c (.fn 162 [0])), (7, .c (.int .i64 (s_.length:Int))), (8, .c (.int .i64 i))], [(0, .rc [.imm .bool o0])]))) (f := slices_IndexFunc_impl_Constraint__impl_satisfies_1_l1 s_ o0) (K := (fun r => k (.c (.int .i64 r)) [(0, .rc [.imm .bool o0])])) he (leads_ren [] rfl rfl ⟨⟨.inl rfl, trivial⟩, trivial⟩ ⟨.inl rfl, ⟨rfl, ⟨⟨rfl, rfl⟩, trivial⟩⟩, rfl, rfl, trivial⟩) ?_
 rintro i J1 he
 refine go_if he (fun he => ?_) fun he => ?_
 ·refine go_rq he fun he => ?_
  refine go_bind he fun r1_ he => ?_
  refine go_if he (fun he => ?_) fun he => ?_
  ·have he := ok_some he
   exact ⟨rfl, _, _, (leads_ren [] (l := [(4, .c (.int .i64 i))]) (st' := [(0, .rc [.imm .bool o0])]) rfl rfl ⟨⟨.inl rfl, trivial⟩, trivial⟩ ⟨rfl, trivial⟩), he⟩
  ·refine go_rq he fun he => ?_
   have he := ok_some he
   exact ⟨(i + (1:Int)), he, (leads_ren [] rfl rfl ⟨⟨.inl rfl, trivial⟩, trivial⟩ ⟨.inl rfl, ⟨rfl, ⟨⟨rfl, rfl⟩, trivial⟩⟩, rfl, rfl, trivial⟩)⟩
 ·have he := ok_some he
  exact ⟨rfl, _, _, (leads_ren [] (l := [(4, .c (.int .i64 (-1:Int)))]) (st' := [(0, .rc [.imm .bool o0])]) rfl rfl ⟨⟨.inl rfl, trivial⟩, trivial⟩ ⟨rfl, trivial⟩), he⟩

noncomputable def c_slices_ContainsFunc_impl_Constraint__impl_satisfies_1 : Con := fun args st => match args, st with
  | [.c (.imm (.pair (.sl (.pair (.int .i64) (.int .i64))) (.int .i64)) s_), .c (.fn 162 [0])], [(0, .rc [.imm .bool o0])] => .opt (Bool) (slices_ContainsFunc_impl_Constraint__impl_satisfies_1 s_ o0) (fun r => .ret (.c (.bool r)) [(0, .rc [.imm .bool o0])])
  | _, _ => .fail

noncomputable def C_slices_ContainsFunc_impl_Constraint__impl_satisfies_1 : Cfg := { y := tys, n := 9, h := 1, tab := [(225, c_slices_IndexFunc_impl_Constraint__impl_satisfies_1)], cut := [], hand := [], good := [], deep := [], sched := [] }

theorem t_slices_ContainsFunc_impl_Constraint__impl_satisfies_1 : TabOk Tryz.prog C_slices_ContainsFunc_impl_Constraint__impl_satisfies_1 := by
  refine tabOk_of ?_
  simp only [C_slices_ContainsFunc_impl_Constraint__impl_satisfies_1, List.forall_mem_cons]
  exact ⟨k_slices_IndexFunc_impl_Constraint__impl_satisfies_1, fun p h => by cases h⟩

theorem k_slices_ContainsFunc_impl_Constraint__impl_satisfies_1 : Entry Tryz.prog 161 c_slices_ContainsFunc_impl_Constraint__impl_satisfies_1 := by
 refine entry_by (C := C_slices_ContainsFunc_impl_Constraint__impl_satisfies_1) mixed tys_ok t_slices_ContainsFunc_impl_Constraint__impl_satisfies_1 (fn := Tryz.f161) (c := bd Tryz.f161) (by kernel_rfl) (by kernel_rfl) (by kernel_rfl) (by kernel_rfl) ?_
 intro args st k he
 unfold c_slices_ContainsFunc_impl_Constraint__impl_satisfies_1 at he
 split at he
 rotate_left
 ·exact he.elim
 rename_i s_ o0
 have he : Ok (slices_ContainsFunc_impl_Constraint__impl_satisfies_1 s_ o0) (fun r => k (.c (.bool r)) [(0, .rc [.imm .bool o0])]) := he
 refine ⟨rfl, rfl, ?_⟩
 refine go_bind he fun r1_ he => ?_
 have he := ok_some he
 exact ⟨rfl, _, _, (leads_ren [] (l := [(4, .c (.bool (decide ((0:Int) ≤ r1_))))]) (st' := [(0, .rc [.imm .bool o0])]) rfl rfl ⟨⟨.inl rfl, trivial⟩, trivial⟩ ⟨.inl rfl, trivial⟩), he⟩

noncomputable def c_impl_satisfies : Con := fun args st => match args, st with
  | [.c (.imm (.pair (.sl (.pair (.int .i64) (.int .i64))) (.int .i64)) list_), .c (.imm .bool values)], [] => .opt (Bool) (impl_satisfies list_ values) (fun r => .ret (.c (.bool r)) [])
  | _, _ => .fail

noncomputable def C_impl_satisfies : Cfg := { y := tys, n := 9, h := 0, tab := [(161, c_slices_ContainsFunc_impl_Constraint__impl_satisfies_1)], cut := [], hand := [], good := [], deep := [], sched := [] }

theorem t_impl_satisfies : TabOk Tryz.prog C_impl_satisfies := by
  refine tabOk_of ?_
  simp only [C_impl_satisfies, List.forall_mem_cons]
  exact ⟨k_slices_ContainsFunc_impl_Constraint__impl_satisfies_1, fun p h => by cases h⟩

theorem k_impl_satisfies : Entry Tryz.prog 102 c_impl_satisfies := by
 refine entry_by (C := C_impl_satisfies) mixed tys_ok t_impl_satisfies (fn := Tryz.f102) (c := bd Tryz.f102) (by kernel_rfl) (by kernel_rfl) (by kernel_rfl) (by kernel_rfl) ?_
 intro args st k he
 unfold c_impl_satisfies at he
 split at he
 rotate_left
 ·exact he.elim
 rename_i list_ values
 have he : Ok (impl_satisfies list_ values) (fun r => k (.c (.bool r)) []) := he
 refine ⟨rfl, rfl, ?_⟩
 refine go_bind he fun r1_ he => ?_
 have he := ok_some he
 exact ⟨rfl, _, _, (leads_ren [] (l := [(4, .c (.bool (!r1_)))]) (st' := []) rfl rfl trivial ⟨.inl rfl, trivial⟩), he⟩

noncomputable def c_impl_solvable : Con := fun args st => match args, st with
  | [.c (.imm (.pair (.sl (.pair (.int .i64) (.int .i64))) (.int .i64)) list_)], [] => .opt (Bool) (impl_solvable list_) (fun r => .ret (.c (.bool r)) [])
  | _, _ => .fail

noncomputable def C_impl_solvable : Cfg := { y := tys, n := 12, h := 0, tab := [(102, c_impl_satisfies), (103, c_impl_numbered)], cut := [], hand := [], good := [], deep := [], sched := [] }

theorem t_impl_solvable : TabOk Tryz.prog C_impl_solvable := by
  refine tabOk_of ?_
  simp only [C_impl_solvable, List.forall_mem_cons]
  exact ⟨k_impl_satisfies, k_impl_numbered, fun p h => by cases h⟩

theorem k_impl_solvable : Entry Tryz.prog 106 c_impl_solvable := by
 refine entry_by (C := C_impl_solvable) mixed tys_ok t_impl_solvable (fn := Tryz.f106) (c := bd Tryz.f106) (by kernel_rfl) (by kernel_rfl) (by kernel_rfl) (by kernel_rfl) ?_
 intro args st k he
 unfold c_impl_solvable at he
 split at he
 rotate_left
 ·exact he.elim
 rename_i list_
 have he : Ok (impl_solvable list_) (fun r => k (.c (.bool r)) []) := he
 refine ⟨rfl, rfl, ?_⟩
 refine loop_model mixed tys_ok t_impl_solvable (S := Int) (I := (fun i => (envOf [(0, .c (.imm y3_ list_)), (4, .c (.int .i64 i))], []))) (f := impl_solvable_l1 list_) (K := (fun r => k (.c (.bool r)) [])) he (leads_ren [] rfl rfl trivial ⟨.inl rfl, rfl, trivial⟩) ?_
 rintro i J1 he
 refine go_if he (fun he => ?_) fun he => ?_
 ·refine go_bind he fun r1_ he => ?_
  refine go_bind he fun r2_ he => ?_
  refine go_if he (fun he => ?_) fun he => ?_
  ·have he := ok_some he
   exact ⟨rfl, _, _, (leads_ren [] (l := [(2, .c (.bool true))]) (st' := []) rfl rfl trivial ⟨.inr rfl, trivial⟩), he⟩
  ·refine go_rq he fun he => ?_
   have he := ok_some he
   exact ⟨(i + (1:Int)), he, (leads_ren [] rfl rfl trivial ⟨.inl rfl, rfl, trivial⟩)⟩
 ·have he := ok_some he
  exact ⟨rfl, _, _, Leads.refl _ _, he⟩

noncomputable def c_impl_indices : Con := fun args st => match args, st with
  | [.c (.int .i64 count)], [] => .opt ((List Int)) (impl_indices count) (fun r => .ret (.c (.own 900 false)) [(900, .sl 3 y0_ r .shallow)])
  | _, _ => .fail

noncomputable def C_impl_indices : Cfg := { y := tys, n := 15, h := 0, tab := [], cut := [], hand := [], good := [], deep := [], sched := [] }

theorem t_impl_indices : TabOk Tryz.prog C_impl_indices := tabOk_of (fun p h => by cases h)

theorem k_impl_indices : Entry Tryz.prog 107 c_impl_indices := by
 refine entry_by (C := C_impl_indices) mixed tys_ok t_impl_indices (fn := Tryz.f107) (c := bd Tryz.f107) (by kernel_rfl) (by kernel_rfl) (by kernel_rfl) (by kernel_rfl) ?_
 intro args st k he
 unfold c_impl_indices at he
 split at he
 rotate_left
 ·exact he.elim
 rename_i count
 have he : Ok (impl_indices count) (fun r => k (.c (.own 900 false)) [(900, .sl 3 y0_ r .shallow)]) := he
 refine ⟨rfl, rfl, ?_⟩
 refine loop_model mixed tys_ok t_impl_indices (S := Int × (List Int)) (I := (fun (i, out) => (envOf [(3, .c (.own 10000000 false)), (5, .c (.int .i64 count)), (6, .c (.int .i64 i))], [(10000000, .sl 3 y0_ out .shallow)]))) (f := impl_indices_l1 count) (K := (fun r => k (.c (.own 900 false)) [(900, .sl 3 y0_ r .shallow)])) he (leads_ren [] rfl rfl ⟨trivial, trivial⟩ ⟨⟨rfl, trivial⟩, rfl, rfl, trivial⟩) ?_
 rintro ⟨i, out⟩ J1 he
 refine go_if he (fun he => ?_) fun he => ?_
 ·refine go_rq he fun he => ?_
  refine go_rq he fun he => ?_
  have he := ok_some he
  exact ⟨((i + (1:Int)), (out ++ [i])), he, (leads_ren [(10000000, 12)] rfl rfl ⟨⟨rfl, rfl⟩, trivial⟩ ⟨⟨⟨rfl, rfl⟩, trivial⟩, rfl, rfl, trivial⟩)⟩
 ·have he := ok_some he
  exact ⟨rfl, _, _, (leads_ren [(900, 10000000)] (l := [(2, .c (.own 900 false))]) (st' := [(900, .sl 3 y0_ out .shallow)]) rfl rfl ⟨⟨rfl, rfl⟩, trivial⟩ ⟨⟨⟨rfl, rfl⟩, trivial⟩, trivial⟩), he⟩

noncomputable def c_slices_Clone_int : Con := fun args st => match args, st with
  | [.c (.imm (.int .i64) s_)], [] => .opt ((List Int)) (slices_Clone_int s_) (fun r => .ret (.c (.own 900 false)) [(900, .sl 3 y0_ r .shallow)])
  | _, _ => .fail

noncomputable def C_slices_Clone_int : Cfg := { y := tys, n := 8, h := 0, tab := [], cut := [], hand := [], good := [], deep := [], sched := [] }

theorem t_slices_Clone_int : TabOk Tryz.prog C_slices_Clone_int := tabOk_of (fun p h => by cases h)

theorem k_slices_Clone_int : Entry Tryz.prog 75 c_slices_Clone_int := by
 refine entry_by (C := C_slices_Clone_int) mixed tys_ok t_slices_Clone_int (fn := Tryz.f75) (c := bd Tryz.f75) (by kernel_rfl) (by kernel_rfl) (by kernel_rfl) (by kernel_rfl) ?_
 intro args st k he
 unfold c_slices_Clone_int at he
 split at he
 rotate_left
 ·exact he.elim
 rename_i s_
 have he : Ok (slices_Clone_int s_) (fun r => k (.c (.own 900 false)) [(900, .sl 3 y0_ r .shallow)]) := he
 refine ⟨rfl, rfl, ?_⟩
 refine fun b1_ hb1_ => ?_
 have he := ok_nt he hb1_
 refine And.intro (fun hb => ?_) (fun hb => ?_)
 ·have he := ok_t he hb
  have he := ok_some he
  exact ⟨rfl, _, _, (leads_ren [] (l := [(2, .c (.own 900 false))]) (st' := [(900, .sl 3 y0_ ([] : List Int) .shallow)]) rfl rfl ⟨trivial, trivial⟩ ⟨⟨rfl, trivial⟩, trivial⟩), he⟩
 ·have he := ok_f he hb
  refine go_rq he fun he => ?_
  have he := ok_some he
  exact ⟨rfl, _, _, (leads_ren [(900, 7)] (l := [(2, .c (.own 900 false))]) (st' := [(900, .sl 3 y0_ (([] : List Int) ++ s_) .shallow)]) rfl rfl ⟨⟨rfl, rfl⟩, trivial⟩ ⟨⟨⟨rfl, rfl⟩, trivial⟩, trivial⟩), he⟩

noncomputable def c_impl_without_1 : Con := fun args st => match args, st with
  | [.c (.int .i64 n), .c (.ptr 0 0)], [(0, .rc [.int .i64 o0])] => .opt (Bool) (impl_without_1 n o0) (fun r => .ret (.c (.bool r)) [(0, .rc [.int .i64 o0])])
  | _, _ => .fail

noncomputable def C_impl_without_1 : Cfg := { y := tys, n := 7, h := 1, tab := [], cut := [], hand := [], good := [], deep := [], sched := [] }

theorem t_impl_without_1 : TabOk Tryz.prog C_impl_without_1 := tabOk_of (fun p h => by cases h)

theorem k_impl_without_1 : Entry Tryz.prog 167 c_impl_without_1 := by
 refine entry_by (C := C_impl_without_1) mixed tys_ok t_impl_without_1 (fn := Tryz.f167) (c := bd Tryz.f167) (by kernel_rfl) (by kernel_rfl) (by kernel_rfl) (by kernel_rfl) ?_
 intro args st k he
 unfold c_impl_without_1 at he
 split at he
 rotate_left
 ·exact he.elim
 rename_i n o0
 have he : Ok (impl_without_1 n o0) (fun r => k (.c (.bool r)) [(0, .rc [.int .i64 o0])]) := he
 refine ⟨rfl, rfl, ?_⟩
 have he := ok_some he
 exact ⟨rfl, _, _, (leads_ren [] (l := [(3, .c (.bool (n == o0)))]) (st' := [(0, .rc [.int .i64 o0])]) rfl rfl ⟨⟨rfl, trivial⟩, trivial⟩ ⟨.inl rfl, trivial⟩), he⟩

noncomputable def c_slices_IndexFunc_int__impl_without_1 : Con := fun args st => match args, st with
  | [.c (.imm (.int .i64) s_), .c (.fn 167 [0])], [(0, .rc [.int .i64 o0])] => .opt (Int) (slices_IndexFunc_int__impl_without_1 s_ o0) (fun r => .ret (.c (.int .i64 r)) [(0, .rc [.int .i64 o0])])
  | _, _ => .fail

noncomputable def C_slices_IndexFunc_int__impl_without_1 : Cfg := { y := tys, n := 19, h := 1, tab := [(167, c_impl_without_1)], cut := [], hand := [], good := [], deep := [], sched := [] }

theorem t_slices_IndexFunc_int__impl_without_1 : TabOk Tryz.prog C_slices_IndexFunc_int__impl_without_1 := by
  refine tabOk_of ?_
  simp only [C_slices_IndexFunc_int__impl_without_1, List.forall_mem_cons]
  exact ⟨k_impl_without_1, fun p h => by cases h⟩

theorem k_slices_IndexFunc_int__impl_without_1 : Entry Tryz.prog 186 c_slices_IndexFunc_int__impl_without_1 := by
 refine entry_by (C := C_slices_IndexFunc_int__impl_without_1) mixed tys_ok t_slices_IndexFunc_int__impl_without_1 (fn := Tryz.f186) (c := bd Tryz.f186) (by kernel_rfl) (by kernel_rfl) (by kernel_rfl) (by kernel_rfl) ?_
 intro args st k he
 unfold c_slices_IndexFunc_int__impl_without_1 at he
 split at he
 rotate_left
 ·exact he.elim
 rename_i s_ o0
 have he : Ok (slices_IndexFunc_int__impl_without_1 s_ o0) (fun r => k (.c (.int .i64 r)) [(0, .rc [.int .i64 o0])]) := he
 refine ⟨rfl, rfl, ?_⟩
 refine loop_model mixed tys_ok t_slices_IndexFunc_int__impl_without_1 (S := Int) (I := (fun i => (envOf [(0, .c (.imm y0_ s_)), (1, .c (.fn 167 [0])), (7, .c (.int .i64 (s_.length:Int))), (8, .c (.int .i64 i))], [(0, .rc [.int .i64 o0])]))) (f := slices_IndexFunc_int__impl_without_1_l1 s_ o0) (K := (fun r => k (.c (.int .i64 r)) [(0, .rc [.int .i64 o0])])) he (leads_ren [] rfl rfl ⟨⟨rfl, trivial⟩, trivial⟩ ⟨.inl rfl, ⟨rfl, ⟨⟨rfl, rfl⟩, trivial⟩⟩, rfl, rfl, trivial⟩) ?_
 rintro i J1 he
 refine go_if he (fun he => ?_) fun he => ?_
 ·refine go_rq he fun he => ?_
  refine go_bind he fun r1_ he => ?_
  refine go_if he (fun he => ?_) fun he => ?_
  ·have he := ok_some he
   exact ⟨rfl, _, _, (leads_ren [] (l := [(4, .c (.int .i64 i))]) (st' := [(0, .rc [.int .i64 o0])]) rfl rfl ⟨⟨rfl, trivial⟩, trivial⟩ ⟨rfl, trivial⟩), he⟩
  ·refine go_rq he fun he => ?_
   have he := ok_some he
   exact ⟨(i + (1:Int)), he, (leads_ren [] rfl rfl ⟨⟨rfl, trivial⟩, trivial⟩ ⟨.inl rfl, ⟨rfl, ⟨⟨rfl, rfl⟩, trivial⟩⟩, rfl, rfl, trivial⟩)⟩
 ·have he := ok_some he
  exact ⟨rfl, _, _, (leads_ren [] (l := [(4, .c (.int .i64 (-1:Int)))]) (st' := [(0, .rc [.int .i64 o0])]) rfl rfl ⟨⟨rfl, trivial⟩, trivial⟩ ⟨rfl, trivial⟩), he⟩

noncomputable def c_slices_DeleteFunc_int__impl_without_1 : Con := fun args st => match args, st with
  | [.c (.own 1 false), .c (.fn 167 [0])], [(0, .rc [.int .i64 o0]), (1, .sl 3 (.int .i64) s_ .shallow)] => .opt ((List Int)) (slices_DeleteFunc_int__impl_without_1 o0 s_) (fun r => .ret (.c (.own 900 false)) [(0, .rc [.int .i64 o0]), (1, .dead), (900, .sl 3 y0_ r .shallow)])
  | _, _ => .fail

noncomputable def C_slices_DeleteFunc_int__impl_without_1 : Cfg := { y := tys, n := 42, h := 2, tab := [(167, c_impl_without_1), (186, c_slices_IndexFunc_int__impl_without_1)], cut := [11], hand := [], good := [], deep := [], sched := [] }

theorem t_slices_DeleteFunc_int__impl_without_1 : TabOk Tryz.prog C_slices_DeleteFunc_int__impl_without_1 := by
  refine tabOk_of ?_
  simp only [C_slices_DeleteFunc_int__impl_without_1, List.forall_mem_cons]
  exact ⟨k_impl_without_1, k_slices_IndexFunc_int__impl_without_1, fun p h => by cases h⟩

theorem k_slices_DeleteFunc_int__impl_without_1 : Entry Tryz.prog 166 c_slices_DeleteFunc_int__impl_without_1 := by
 refine entry_by (C := C_slices_DeleteFunc_int__impl_without_1) mixed tys_ok t_slices_DeleteFunc_int__impl_without_1 (fn := Tryz.f166) (c := bd Tryz.f166) (by kernel_rfl) (by kernel_rfl) (by kernel_rfl) (by kernel_rfl) ?_
 intro args st k he
 unfold c_slices_DeleteFunc_int__impl_without_1 at he
 split at he
 rotate_left
 ·exact he.elim
 rename_i o0 s_
 have he : Ok (slices_DeleteFunc_int__impl_without_1 o0 s_) (fun r => k (.c (.own 900 false)) [(0, .rc [.int .i64 o0]), (1, .dead), (900, .sl 3 y0_ r .shallow)]) := he
 refine ⟨rfl, rfl, ?_⟩
 refine go_bind he fun r1_ he => ?_
 refine go_if he (fun he => ?_) fun he => ?_
 ·have he := ok_some he
  exact ⟨rfl, _, _, (leads_ren [(900, 1)] (l := [(4, .c (.own 900 false))]) (st' := [(0, .rc [.int .i64 o0]), (1, .dead), (900, .sl 3 y0_ s_ .shallow)]) rfl rfl ⟨⟨rfl, trivial⟩, trivial, ⟨rfl, rfl⟩, trivial⟩ ⟨⟨⟨rfl, rfl⟩, trivial⟩, trivial⟩), he⟩
 ·refine seq_model mixed tys_ok t_slices_DeleteFunc_int__impl_without_1 (S := Int × (List Int)) (I := (fun (i1, s_2) => (envOf [(0, .c (.own 1 false)), (5, .c (.int .i64 i1))], [(0, .rc [.int .i64 o0]), (1, .sl 3 y0_ s_2 .shallow)]))) (B := fun s => Ok (slices_DeleteFunc_int__impl_without_1_j1 s) (fun r => k (.c (.own 900 false)) [(0, .rc [.int .i64 o0]), (1, .dead), (900, .sl 3 y0_ r .shallow)])) ?_ ?_
  ·rintro ⟨i1, s_2⟩ he
   refine go_rq he fun he => ?_
   refine go_rq he fun he => ?_
   have he := ok_some he
   exact ⟨rfl, _, _, (leads_ren [(900, 41)] (l := [(4, .c (.own 900 false))]) (st' := [(0, .rc [.int .i64 o0]), (1, .dead), (900, .sl 3 y0_ ((s_2.take i1.toNat ++ List.replicate (s_2.length - i1.toNat) (0:Int)).take i1.toNat) .shallow)]) rfl rfl ⟨⟨rfl, trivial⟩, trivial, ⟨rfl, rfl⟩, trivial⟩ ⟨⟨⟨rfl, rfl⟩, trivial⟩, trivial⟩), he⟩
  ·skip
   refine go_rq he fun he => ?_
   refine loop_model mixed tys_ok t_slices_DeleteFunc_int__impl_without_1 (S := Int × Int × (List Int)) (I := (fun (i, j, s_1) => (envOf [(0, .c (.own 1 false)), (1, .c (.fn 167 [0])), (5, .c (.int .i64 i)), (6, .c (.int .i64 j))], [(0, .rc [.int .i64 o0]), (1, .sl 3 y0_ s_1 .shallow)]))) (f := slices_DeleteFunc_int__impl_without_1_l1 o0) (K := (fun r => k (.c (.own 900 false)) [(0, .rc [.int .i64 o0]), (1, .dead), (900, .sl 3 y0_ r .shallow)])) he (leads_ren [] rfl rfl ⟨⟨rfl, trivial⟩, ⟨rfl, rfl⟩, trivial⟩ ⟨⟨⟨rfl, rfl⟩, trivial⟩, ⟨rfl, ⟨⟨rfl, rfl⟩, trivial⟩⟩, rfl, rfl, trivial⟩) ?_
   rintro ⟨i, j, s_1⟩ J1 he
   refine go_if he (fun he => ?_) fun he => ?_
   ·refine go_rq he fun he => ?_
    refine go_bind he fun r3_ he => ?_
    refine go_if he (fun he => ?_) fun he => ?_
    ·refine go_rq he fun he => ?_
     refine go_rq he fun he => ?_
     refine go_rq he fun he => ?_
     have he := ok_some he
     exact ⟨((i + (1:Int)), (j + (1:Int)), (s_1.set i.toNat (s_1.getD j.toNat 0))), he, (leads_ren [] rfl rfl ⟨⟨rfl, trivial⟩, ⟨rfl, rfl⟩, trivial⟩ ⟨⟨⟨rfl, rfl⟩, trivial⟩, ⟨rfl, ⟨⟨rfl, rfl⟩, trivial⟩⟩, rfl, rfl, trivial⟩)⟩
    ·refine go_rq he fun he => ?_
     have he := ok_some he
     exact ⟨(i, (j + (1:Int)), s_1), he, (leads_ren [] rfl rfl ⟨⟨rfl, trivial⟩, ⟨rfl, rfl⟩, trivial⟩ ⟨⟨⟨rfl, rfl⟩, trivial⟩, ⟨rfl, ⟨⟨rfl, rfl⟩, trivial⟩⟩, rfl, rfl, trivial⟩)⟩
   ·exact ⟨(i, s_1), ok_up he, (leads_ren [] rfl rfl ⟨⟨rfl, trivial⟩, ⟨rfl, rfl⟩, trivial⟩ ⟨⟨⟨rfl, rfl⟩, trivial⟩, rfl, trivial⟩)⟩

noncomputable def c_impl_without : Con := fun args st => match args, st with
  | [.c (.imm (.int .i64) list_), .c (.int .i64 k_)], [] => .opt ((List Int)) (impl_without list_ k_) (fun r => .ret (.c (.own 900 false)) [(900, .sl 3 y0_ r .shallow)])
  | _, _ => .fail

noncomputable def C_impl_without : Cfg := { y := tys, n := 9, h := 0, tab := [(75, c_slices_Clone_int), (166, c_slices_DeleteFunc_int__impl_without_1)], cut := [], hand := [(166, [0])], good := [], deep := [], sched := [] }

theorem t_impl_without : TabOk Tryz.prog C_impl_without := by
  refine tabOk_of ?_
  simp only [C_impl_without, List.forall_mem_cons]
  exact ⟨k_slices_Clone_int, k_slices_DeleteFunc_int__impl_without_1, fun p h => by cases h⟩

theorem k_impl_without : Entry Tryz.prog 108 c_impl_without := by
 refine entry_by (C := C_impl_without) mixed tys_ok t_impl_without (fn := Tryz.f108) (c := bd Tryz.f108) (by kernel_rfl) (by kernel_rfl) (by kernel_rfl) (by kernel_rfl) ?_
 intro args st k he
 unfold c_impl_without at he
 split at he
 rotate_left
 ·exact he.elim
 rename_i list_ k_
 have he : Ok (impl_without list_ k_) (fun r => k (.c (.own 900 false)) [(900, .sl 3 y0_ r .shallow)]) := he
 refine ⟨rfl, rfl, ?_⟩
 refine go_bind he fun r1_ he => ?_
 refine go_bind he fun r2_ he => ?_
 have he := ok_some he
 exact ⟨rfl, _, _, (leads_ren [(900, 9900)] (l := [(4, .c (.own 900 false))]) (st' := [(900, .sl 3 y0_ r2_ .shallow)]) rfl rfl ⟨⟨rfl, rfl⟩, trivial⟩ ⟨⟨⟨rfl, rfl⟩, trivial⟩, trivial⟩), he⟩

noncomputable def c_impl_partOf : Con := fun args st => match args, st with
  | [.c (.imm (.pair (.sl (.pair (.int .i64) (.int .i64))) (.int .i64)) list_), .c (.imm (.int .i64) keep)], [] => .opt ((List D3_)) (impl_partOf list_ keep) (fun r => .ret (.c (.own 900 false)) [(900, .sl 89 y3_ r .shallow)])
  | _, _ => .fail

noncomputable def C_impl_partOf : Cfg := { y := tys, n := 23, h := 0, tab := [], cut := [], hand := [], good := [], deep := [], sched := [] }

theorem t_impl_partOf : TabOk Tryz.prog C_impl_partOf := tabOk_of (fun p h => by cases h)

theorem k_impl_partOf : Entry Tryz.prog 101 c_impl_partOf := by
 refine entry_by (C := C_impl_partOf) mixed tys_ok t_impl_partOf (fn := Tryz.f101) (c := bd Tryz.f101) (by kernel_rfl) (by kernel_rfl) (by kernel_rfl) (by kernel_rfl) ?_
 intro args st k he
 unfold c_impl_partOf at he
 split at he
 rotate_left
 ·exact he.elim
 rename_i list_ keep
 have he : Ok (impl_partOf list_ keep) (fun r => k (.c (.own 900 false)) [(900, .sl 89 y3_ r .shallow)]) := he
 refine ⟨rfl, rfl, ?_⟩
 refine loop_model mixed tys_ok t_impl_partOf (S := Int × (List D3_)) (I := (fun (i, out) => (envOf [(0, .c (.imm y3_ list_)), (5, .c (.own 10000000 false)), (8, .c (.imm y0_ keep)), (9, .c (.int .i64 (keep.length:Int))), (10, .c (.int .i64 i))], [(10000000, .sl 89 y3_ out .shallow)]))) (f := impl_partOf_l1 list_ keep) (K := (fun r => k (.c (.own 900 false)) [(900, .sl 89 y3_ r .shallow)])) he (leads_ren [] rfl rfl ⟨trivial, trivial⟩ ⟨.inl rfl, ⟨rfl, trivial⟩, .inl rfl, rfl, rfl, trivial⟩) ?_
 rintro ⟨i, out⟩ J1 he
 refine go_if he (fun he => ?_) fun he => ?_
 ·refine go_rq he fun he => ?_
  refine go_rq he fun he => ?_
  refine go_rq he fun he => ?_
  refine go_rq he fun he => ?_
  have he := ok_some he
  exact ⟨((i + (1:Int)), (out ++ [(list_.getD (keep.getD i.toNat 0).toNat ([], 0))])), he, (leads_ren [(10000000, 20)] rfl rfl ⟨⟨rfl, rfl⟩, trivial⟩ ⟨.inl rfl, ⟨⟨rfl, rfl⟩, trivial⟩, .inl rfl, rfl, rfl, trivial⟩)⟩
 ·have he := ok_some he
  exact ⟨rfl, _, _, (leads_ren [(900, 10000000)] (l := [(4, .c (.own 900 false))]) (st' := [(900, .sl 89 y3_ out .shallow)]) rfl rfl ⟨⟨rfl, rfl⟩, trivial⟩ ⟨⟨⟨rfl, rfl⟩, trivial⟩, trivial⟩), he⟩

noncomputable def c_impl_partOf__s : Con := fun args st => match args, st with
  | [.c (.imm (.pair (.sl (.pair (.int .i64) (.int .i64))) (.int .i64)) list_), .c (.own 0 false)], [(0, .sl 3 (.int .i64) keep .shallow)] => .opt ((List D3_)) (impl_partOf__s list_ keep) (fun r => .ret (.c (.own 900 false)) [(0, .sl 3 y0_ keep .shallow), (900, .sl 89 y3_ r .shallow)])
  | _, _ => .fail

noncomputable def C_impl_partOf__s : Cfg := { y := tys, n := 23, h := 1, tab := [], cut := [], hand := [], good := [], deep := [], sched := [] }

theorem t_impl_partOf__s : TabOk Tryz.prog C_impl_partOf__s := tabOk_of (fun p h => by cases h)

theorem k_impl_partOf__s : Entry Tryz.prog 101 c_impl_partOf__s := by
 refine entry_by (C := C_impl_partOf__s) mixed tys_ok t_impl_partOf__s (fn := Tryz.f101) (c := bd Tryz.f101) (by kernel_rfl) (by kernel_rfl) (by kernel_rfl) (by kernel_rfl) ?_
 intro args st k he
 unfold c_impl_partOf__s at he
 split at he
 rotate_left
 ·exact he.elim
 rename_i list_ keep
 have he : Ok (impl_partOf__s list_ keep) (fun r => k (.c (.own 900 false)) [(0, .sl 3 y0_ keep .shallow), (900, .sl 89 y3_ r .shallow)]) := he
 refine ⟨rfl, rfl, ?_⟩
 refine loop_model mixed tys_ok t_impl_partOf__s (S := Int × (List D3_)) (I := (fun (i, out) => (envOf [(0, .c (.imm y3_ list_)), (5, .c (.own 10000000 false)), (8, .c (.own 0 false)), (9, .c (.int .i64 (keep.length:Int))), (10, .c (.int .i64 i))], [(0, .sl 3 y0_ keep .shallow), (10000000, .sl 89 y3_ out .shallow)]))) (f := impl_partOf__s_l1 list_ keep) (K := (fun r => k (.c (.own 900 false)) [(0, .sl 3 y0_ keep .shallow), (900, .sl 89 y3_ r .shallow)])) he (leads_ren [] rfl rfl ⟨⟨rfl, rfl⟩, trivial, trivial⟩ ⟨.inl rfl, ⟨rfl, trivial⟩, ⟨⟨rfl, rfl⟩, trivial⟩, rfl, rfl, trivial⟩) ?_
 rintro ⟨i, out⟩ J1 he
 refine go_if he (fun he => ?_) fun he => ?_
 ·refine go_rq he fun he => ?_
  refine go_rq he fun he => ?_
  refine go_rq he fun he => ?_
  refine go_rq he fun he => ?_
  have he := ok_some he
  exact ⟨((i + (1:Int)), (out ++ [(list_.getD (keep.getD i.toNat 0).toNat ([], 0))])), he, (leads_ren [(10000000, 20)] rfl rfl ⟨⟨rfl, rfl⟩, ⟨rfl, rfl⟩, trivial⟩ ⟨.inl rfl, ⟨⟨rfl, rfl⟩, trivial⟩, ⟨⟨rfl, rfl⟩, trivial⟩, rfl, rfl, trivial⟩)⟩
 ·have he := ok_some he
  exact ⟨rfl, _, _, (leads_ren [(900, 10000000)] (l := [(4, .c (.own 900 false))]) (st' := [(0, .sl 3 y0_ keep .shallow), (900, .sl 89 y3_ out .shallow)]) rfl rfl ⟨⟨rfl, rfl⟩, ⟨rfl, rfl⟩, trivial⟩ ⟨⟨⟨rfl, rfl⟩, trivial⟩, trivial⟩), he⟩

noncomputable def c_impl_MinimalCore : Con := fun args st => match args, st with
  | [.c (.imm (.pair (.sl (.pair (.int .i64) (.int .i64))) (.int .i64)) list_)], [] => .opt (Bool × (List Int)) (impl_MinimalCore list_) (fun r => .ret (.tup [.c (.own 900 false), .c (.bool r.1)]) [(900, .sl 3 y0_ r.2 .shallow)])
  | _, _ => .fail

noncomputable def C_impl_MinimalCore : Cfg := { y := tys, n := 34, h := 0, tab := [(98, c_impl_ProblemValid), (101, c_impl_partOf__s), (106, c_impl_solvable), (107, c_impl_indices), (108, c_impl_without)], cut := [], hand := [(101, [1])], good := [], deep := [], sched := [] }

theorem t_impl_MinimalCore : TabOk Tryz.prog C_impl_MinimalCore := by
  refine tabOk_of ?_
  simp only [C_impl_MinimalCore, List.forall_mem_cons]
  exact ⟨k_impl_ProblemValid, k_impl_partOf__s, k_impl_solvable, k_impl_indices, k_impl_without, fun p h => by cases h⟩

theorem k_impl_MinimalCore : Entry Tryz.prog 42 c_impl_MinimalCore := by
 refine entry_by (C := C_impl_MinimalCore) mixed tys_ok t_impl_MinimalCore (fn := Tryz.f42) (c := bd Tryz.f42) (by kernel_rfl) (by kernel_rfl) (by kernel_rfl) (by kernel_rfl) ?_
 intro args st k he
 unfold c_impl_MinimalCore at he
 split at he
 rotate_left
 ·exact he.elim
 rename_i list_
 have he : Ok (impl_MinimalCore list_) (fun r => k (.tup [.c (.own 900 false), .c (.bool r.1)]) [(900, .sl 3 y0_ r.2 .shallow)]) := he
 refine ⟨rfl, rfl, ?_⟩
 refine go_bind he fun r1_ he => ?_
 refine go_if2 he (fun he => ?_) fun he => ?_
 ·refine go_bind he fun r2_ he => ?_
  refine go_if he (fun he => ?_) fun he => ?_
  ·have he := ok_some he
   exact ⟨rfl, _, _, (leads_ren [] (l := [(2, .c (.own 900 false)), (3, .c (.bool false))]) (st' := [(900, .sl 3 y0_ ([] : List Int) .shallow)]) rfl rfl ⟨trivial, trivial⟩ ⟨⟨rfl, trivial⟩, .inr rfl, trivial⟩), he⟩
  ·refine go_bind he fun r3_ he => ?_
   refine go_rq he fun he => ?_
   refine loop_model mixed tys_ok t_impl_MinimalCore (S := Int × (List Int)) (I := (fun (k_, out) => (envOf [(0, .c (.imm y3_ list_)), (4, .c (.own 10000000 false)), (5, .c (.int .i64 k_))], [(10000000, .sl 3 y0_ out .shallow)]))) (f := impl_MinimalCore_l1 list_) (K := (fun r => k (.tup [.c (.own 900 false), .c (.bool r.1)]) [(900, .sl 3 y0_ r.2 .shallow)])) he (leads_ren [(10000000, 17900)] rfl rfl ⟨⟨rfl, rfl⟩, trivial⟩ ⟨.inl rfl, ⟨⟨rfl, rfl⟩, trivial⟩, rfl, trivial⟩) ?_
   rintro ⟨k_, out⟩ J1 he
   refine go_if he (fun he => ?_) fun he => ?_
   ·refine go_bind he fun r7_ he => ?_
    refine go_bind he fun r8_ he => ?_
    refine go_bind he fun r9_ he => ?_
    refine go_if he (fun he => ?_) fun he => ?_
    ·refine go_rq he fun he => ?_
     have he := ok_some he
     exact ⟨((k_ - (1:Int)), r7_), he, (leads_ren [(10000000, 27900)] rfl rfl ⟨⟨rfl, rfl⟩, trivial⟩ ⟨.inl rfl, ⟨⟨rfl, rfl⟩, trivial⟩, rfl, trivial⟩)⟩
    ·refine go_rq he fun he => ?_
     have he := ok_some he
     exact ⟨((k_ - (1:Int)), out), he, (leads_ren [] rfl rfl ⟨⟨rfl, rfl⟩, trivial⟩ ⟨.inl rfl, ⟨⟨rfl, rfl⟩, trivial⟩, rfl, trivial⟩)⟩
   ·have he := ok_some he
    exact ⟨rfl, _, _, (leads_ren [(900, 10000000)] (l := [(2, .c (.own 900 false)), (3, .c (.bool true))]) (st' := [(900, .sl 3 y0_ out .shallow)]) rfl rfl ⟨⟨rfl, rfl⟩, trivial⟩ ⟨⟨⟨rfl, rfl⟩, trivial⟩, .inr rfl, trivial⟩), he⟩
 ·have he := ok_some he
  exact ⟨rfl, _, _, (leads_ren [] (l := [(2, .c (.own 900 false)), (3, .c (.bool false))]) (st' := [(900, .sl 3 y0_ ([] : List Int) .shallow)]) rfl rfl ⟨trivial, trivial⟩ ⟨⟨rfl, trivial⟩, .inr rfl, trivial⟩), he⟩

noncomputable def c_spec_l1Lit : Con := fun args st => match args, st with
  | [.c (.int .i64 n)], [] => .opt (Bool) (spec_l1Lit n) (fun r => .ret (.c (.bool r)) [])
  | _, _ => .fail

noncomputable def C_spec_l1Lit : Cfg := { y := tys, n := 13, h := 0, tab := [], cut := [], hand := [], good := [], deep := [], sched := [] }

theorem t_spec_l1Lit : TabOk Tryz.prog C_spec_l1Lit := tabOk_of (fun p h => by cases h)

theorem k_spec_l1Lit : Entry Tryz.prog 228 c_spec_l1Lit := by
 refine entry_by (C := C_spec_l1Lit) mixed tys_ok t_spec_l1Lit (fn := Tryz.f228) (c := bd Tryz.f228) (by kernel_rfl) (by kernel_rfl) (by kernel_rfl) (by kernel_rfl) ?_
 intro args st k he
 unfold c_spec_l1Lit at he
 split at he
 rotate_left
 ·exact he.elim
 rename_i n
 have he : Ok (spec_l1Lit n) (fun r => k (.c (.bool r)) []) := he
 refine ⟨rfl, rfl, ?_⟩
 refine go_if he (fun he => ?_) fun he => ?_
 ·refine go_if he (fun he => ?_) fun he => ?_
  ·have he := ok_some he
   exact ⟨rfl, _, _, Leads.refl _ _, he⟩
  ·have he := ok_some he
   exact ⟨rfl, _, _, Leads.refl _ _, he⟩
 ·have he := ok_some he
  exact ⟨rfl, _, _, Leads.refl _ _, he⟩

noncomputable def c_spec_l1Abs : Con := fun args st => match args, st with
  | [.c (.int .i64 n)], [] => .opt (Int) (spec_l1Abs n) (fun r => .ret (.c (.int .i64 r)) [])
  | _, _ => .fail

noncomputable def C_spec_l1Abs : Cfg := { y := tys, n := 8, h := 0, tab := [], cut := [], hand := [], good := [], deep := [], sched := [] }

theorem t_spec_l1Abs : TabOk Tryz.prog C_spec_l1Abs := tabOk_of (fun p h => by cases h)

theorem k_spec_l1Abs : Entry Tryz.prog 229 c_spec_l1Abs := by
 refine entry_by (C := C_spec_l1Abs) mixed tys_ok t_spec_l1Abs (fn := Tryz.f229) (c := bd Tryz.f229) (by kernel_rfl) (by kernel_rfl) (by kernel_rfl) (by kernel_rfl) ?_
 intro args st k he
 unfold c_spec_l1Abs at he
 split at he
 rotate_left
 ·exact he.elim
 rename_i n
 have he : Ok (spec_l1Abs n) (fun r => k (.c (.int .i64 r)) []) := he
 refine ⟨rfl, rfl, ?_⟩
 refine go_if he (fun he => ?_) fun he => ?_
 ·refine go_rq he fun he => ?_
  have he := ok_some he
  exact ⟨rfl, _, _, Leads.refl _ _, he⟩
 ·have he := ok_some he
  exact ⟨rfl, _, _, Leads.refl _ _, he⟩

end Go.AE.Y
