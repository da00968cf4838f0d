/-
  Walks: each function keeps the contract that its model gives. No conditions.
-/
import Derived.Test.YtaeeiddjpigemaaGreatR7Tab
import Derived.Test.YtaeeiddjpigemaaGreatR7W5
namespace Go.AE.Y
open Go Go.AE Go.Proofs
set_option linter.unusedVariables false
set_option maxHeartbeats 2000000
set_option maxRecDepth 100000

noncomputable def c_impl_SubProblem : Con := fun args st => match args, st with
  | [.c (.imm (.pair (.sl (.pair (.int .i64) (.int .i64))) (.int .i64)) list_), .c (.imm (.int .i64) keep)], [] => .opt (Bool × (List D3_)) (impl_SubProblem list_ keep) (fun r => .ret (.tup [.c (.own 900 false), .c (.bool r.1)]) [(900, .sl 89 y3_ r.2 (.deep true .no))])
  | _, _ => .fail

noncomputable def C_impl_SubProblem : Cfg := { y := tys, n := 20, h := 0, tab := [(98, c_impl_ProblemValid), (99, c_impl_isPart), (100, c_impl_ownAll), (101, c_impl_partOf)], cut := [], hand := [], good := [], deep := [], sched := [] }

theorem t_impl_SubProblem : TabOk Tryz.prog C_impl_SubProblem := by
  refine tabOk_of ?_
  simp only [C_impl_SubProblem, List.forall_mem_cons]
  exact ⟨k_impl_ProblemValid, k_impl_isPart, k_impl_ownAll, k_impl_partOf, fun p h => by cases h⟩

theorem k_impl_SubProblem : Entry Tryz.prog 39 c_impl_SubProblem := by
 refine entry_by (C := C_impl_SubProblem) mixed tys_ok t_impl_SubProblem (fn := Tryz.f39) (c := bd Tryz.f39) (by kernel_rfl) (by kernel_rfl) (by kernel_rfl) (by kernel_rfl) ?_
 intro args st k he
 unfold c_impl_SubProblem at he
 split at he
 rotate_left
 ·exact he.elim
 rename_i list_ keep
 have he : Ok (impl_SubProblem list_ keep) (fun r => k (.tup [.c (.own 900 false), .c (.bool r.1)]) [(900, .sl 89 y3_ r.2 (.deep true .no))]) := he
 refine ⟨rfl, rfl, ?_⟩
 refine go_bind he fun r1_ he => ?_
 refine go_if2 he (fun he => ?_) fun he => ?_
 ·refine go_bind he fun r2_ he => ?_
  refine go_if he (fun he => ?_) fun he => ?_
  ·have he := ok_some he
   exact ⟨rfl, _, _, (leads_ren [] (l := [(4, .c (.own 900 false)), (5, .c (.bool false))]) (st' := [(900, .sl 89 y3_ ([] : List D3_) (.deep true .no))]) rfl rfl ⟨trivial, trivial⟩ ⟨⟨rfl, trivial⟩, .inr rfl, trivial⟩), he⟩
  ·refine go_bind he fun r3_ he => ?_
   refine go_bind he fun r4_ he => ?_
   have he := ok_some he
   exact ⟨rfl, _, _, (leads_ren [(900, 20900)] (l := [(4, .c (.own 900 false)), (5, .c (.bool true))]) (st' := [(900, .sl 89 y3_ r4_ (.deep true .no))]) rfl rfl ⟨⟨rfl, rfl⟩, trivial⟩ ⟨⟨⟨rfl, rfl⟩, trivial⟩, .inr rfl, trivial⟩), he⟩
 ·have he := ok_some he
  exact ⟨rfl, _, _, (leads_ren [] (l := [(4, .c (.own 900 false)), (5, .c (.bool false))]) (st' := [(900, .sl 89 y3_ ([] : List D3_) (.deep true .no))]) rfl rfl ⟨trivial, trivial⟩ ⟨⟨rfl, trivial⟩, .inr rfl, trivial⟩), he⟩

noncomputable def c_impl_numbered : Con := fun args st => match args, st with
  | [.c (.int .i64 n)], [] => .opt ((List Bool)) (impl_numbered n) (fun r => .ret (.c (.own 900 false)) [(900, .sl 4 .bool r .shallow)])
  | _, _ => .fail

noncomputable def C_impl_numbered : Cfg := { y := tys, n := 22, h := 0, tab := [], cut := [], hand := [], good := [], deep := [], sched := [] }

theorem t_impl_numbered : TabOk Tryz.prog C_impl_numbered := tabOk_of (fun p h => by cases h)

theorem k_impl_numbered : Entry Tryz.prog 103 c_impl_numbered := by
 refine entry_by (C := C_impl_numbered) mixed tys_ok t_impl_numbered (fn := Tryz.f103) (c := bd Tryz.f103) (by kernel_rfl) (by kernel_rfl) (by kernel_rfl) (by kernel_rfl) ?_
 intro args st k he
 unfold c_impl_numbered at he
 split at he
 rotate_left
 ·exact he.elim
 rename_i n
 have he : Ok (impl_numbered n) (fun r => k (.c (.own 900 false)) [(900, .sl 4 .bool r .shallow)]) := he
 refine ⟨rfl, rfl, ?_⟩
 refine go_rq he fun he => ?_
 refine loop_model mixed tys_ok t_impl_numbered (S := Int × (List Bool)) (I := (fun (i, out) => (envOf [(0, .c (.int .i64 n)), (3, .c (.own 10000000 false)), (7, .c (.int .i64 ((List.replicate (12:Int).toNat false).length:Int))), (8, .c (.int .i64 i))], [(10000000, .sl 4 .bool out .shallow)]))) (f := impl_numbered_l1 n) (K := (fun r => k (.c (.own 900 false)) [(900, .sl 4 .bool r .shallow)])) he (leads_ren [(10000000, 5)] rfl rfl ⟨⟨rfl, rfl⟩, trivial⟩ ⟨rfl, ⟨⟨rfl, rfl⟩, trivial⟩, rfl, rfl, trivial⟩) ?_
 rintro ⟨i, out⟩ J1 he
 refine go_if he (fun he => ?_) fun he => ?_
 ·refine go_rq he fun he => ?_
  refine go_rq he fun he => ?_
  refine go_rq he fun he => ?_
  refine go_rq he fun he => ?_
  refine go_rq he fun he => ?_
  have he := ok_some he
  exact ⟨((i + (1:Int)), (out.set i.toNat ((((n / 2 ^ ((11:Int) - i).toNat).toNat &&& (1:Int).toNat : Nat) : Int) == (1:Int)))), he, (leads_ren [] rfl rfl ⟨⟨rfl, rfl⟩, trivial⟩ ⟨rfl, ⟨⟨rfl, rfl⟩, trivial⟩, rfl, rfl, trivial⟩)⟩
 ·have he := ok_some he
  exact ⟨rfl, _, _, (leads_ren [(900, 10000000)] (l := [(2, .c (.own 900 false))]) (st' := [(900, .sl 4 .bool out .shallow)]) rfl rfl ⟨⟨rfl, rfl⟩, trivial⟩ ⟨⟨⟨rfl, rfl⟩, trivial⟩, trivial⟩), he⟩

noncomputable def c_impl_holds : Con := fun args st => match args, st with
  | [.c (.int .i64 l), .c (.imm .bool values)], [] => .opt (Bool) (impl_holds l values) (fun r => .ret (.c (.bool r)) [])
  | _, _ => .fail

noncomputable def C_impl_holds : Cfg := { y := tys, n := 14, h := 0, tab := [(170, c_impl_variableOf)], cut := [], hand := [], good := [], deep := [], sched := [] }

theorem t_impl_holds : TabOk Tryz.prog C_impl_holds := by
  refine tabOk_of ?_
  simp only [C_impl_holds, List.forall_mem_cons]
  exact ⟨k_impl_variableOf, fun p h => by cases h⟩

theorem k_impl_holds : Entry Tryz.prog 226 c_impl_holds := by
 refine entry_by (C := C_impl_holds) mixed tys_ok t_impl_holds (fn := Tryz.f226) (c := bd Tryz.f226) (by kernel_rfl) (by kernel_rfl) (by kernel_rfl) (by kernel_rfl) ?_
 intro args st k he
 unfold c_impl_holds at he
 split at he
 rotate_left
 ·exact he.elim
 rename_i l values
 have he : Ok (impl_holds l values) (fun r => k (.c (.bool r)) []) := he
 refine ⟨rfl, rfl, ?_⟩
 refine go_bind he fun r1_ he => ?_
 refine go_rq he fun he => ?_
 refine go_rq he fun he => ?_
 have he := ok_some he
 exact ⟨rfl, _, _, Leads.refl _ _, he⟩

noncomputable def c_impl_Constraint_holds : Con := fun args st => match args, st with
  | [.agg [.imm (.pair (.int .i64) (.int .i64)) c__0, .int .i64 c__1], .c (.imm .bool values)], [] => .opt (Bool) (impl_Constraint_holds (c__0, c__1) values) (fun r => .ret (.c (.bool r)) [])
  | _, _ => .fail

noncomputable def C_impl_Constraint_holds : Cfg := { y := tys, n := 28, h := 0, tab := [(226, c_impl_holds)], cut := [], hand := [], good := [], deep := [], sched := [] }

theorem t_impl_Constraint_holds : TabOk Tryz.prog C_impl_Constraint_holds := by
  refine tabOk_of ?_
  simp only [C_impl_Constraint_holds, List.forall_mem_cons]
  exact ⟨k_impl_holds, fun p h => by cases h⟩

theorem k_impl_Constraint_holds : Entry Tryz.prog 163 c_impl_Constraint_holds := by
 refine entry_by (C := C_impl_Constraint_holds) mixed tys_ok t_impl_Constraint_holds (fn := Tryz.f163) (c := bd Tryz.f163) (by kernel_rfl) (by kernel_rfl) (by kernel_rfl) (by kernel_rfl) ?_
 intro args st k he
 unfold c_impl_Constraint_holds at he
 split at he
 rotate_left
 ·exact he.elim
 rename_i c__0 c__1 values
 have he : Ok (impl_Constraint_holds (c__0, c__1) values) (fun r => k (.c (.bool r)) []) := he
 refine ⟨rfl, rfl, ?_⟩
 refine loop_model mixed tys_ok t_impl_Constraint_holds (S := Int × Int) (I := (fun (sum, i) => (envOf [(1, .c (.imm .bool values)), (2, .c (.ptr 10000000 0)), (5, .c (.int .i64 sum)), (9, .c (.imm y2_ (c__0, c__1).1)), (10, .c (.int .i64 ((c__0, c__1).1.length:Int))), (11, .c (.int .i64 i))], [(10000000, .rc [.imm y2_ (c__0, c__1).1, .int .i64 (c__0, c__1).2])]))) (f := impl_Constraint_holds_l1 (c__0, c__1) values) (K := (fun r => k (.c (.bool r)) [])) he (leads_ren [(10000000, 2)] rfl rfl ⟨⟨.inl rfl, rfl, trivial⟩, trivial⟩ ⟨.inl rfl, ⟨⟨rfl, rfl⟩, rfl⟩, rfl, .inl rfl, rfl, rfl, trivial⟩) ?_
 rintro ⟨sum, i⟩ J1 he
 refine go_if he (fun he => ?_) fun he => ?_
 ·refine go_rq he fun he => ?_
  refine go_bind he fun r1_ he => ?_
  refine go_if he (fun he => ?_) fun he => ?_
  ·refine go_rq he fun he => ?_
   refine go_rq he fun he => ?_
   have he := ok_some he
   exact ⟨((sum + ((c__0, c__1).1.getD i.toNat (0, 0)).1), (i + (1:Int))), he, (leads_ren [] rfl rfl ⟨⟨.inl rfl, rfl, trivial⟩, trivial⟩ ⟨.inl rfl, ⟨⟨rfl, rfl⟩, rfl⟩, rfl, .inl rfl, rfl, rfl, trivial⟩)⟩
  ·refine go_rq he fun he => ?_
   have he := ok_some he
   exact ⟨(sum, (i + (1:Int))), he, (leads_ren [] rfl rfl ⟨⟨.inl rfl, rfl, trivial⟩, trivial⟩ ⟨.inl rfl, ⟨⟨rfl, rfl⟩, rfl⟩, rfl, .inl rfl, rfl, rfl, trivial⟩)⟩
 ·have he := ok_some he
  exact ⟨rfl, _, _, (leads_ren [] (l := [(4, .c (.bool (decide ((c__0, c__1).2 ≤ sum))))]) (st' := []) rfl rfl trivial ⟨.inl rfl, trivial⟩), he⟩

noncomputable def c_impl_satisfies_1 : Con := fun args st => match args, st with
  | [.agg [.imm (.pair (.int .i64) (.int .i64)) c__0, .int .i64 c__1], .c (.ptr 0 0)], [(0, .rc [.imm .bool o0])] => .opt (Bool) (impl_satisfies_1 (c__0, c__1) o0) (fun r => .ret (.c (.bool r)) [(0, .rc [.imm .bool o0])])
  | _, _ => .fail

noncomputable def C_impl_satisfies_1 : Cfg := { y := tys, n := 8, h := 1, tab := [(163, c_impl_Constraint_holds)], cut := [], hand := [], good := [], deep := [], sched := [] }

theorem t_impl_satisfies_1 : TabOk Tryz.prog C_impl_satisfies_1 := by
  refine tabOk_of ?_
  simp only [C_impl_satisfies_1, List.forall_mem_cons]
  exact ⟨k_impl_Constraint_holds, fun p h => by cases h⟩

theorem k_impl_satisfies_1 : Entry Tryz.prog 162 c_impl_satisfies_1 := by
 refine entry_by (C := C_impl_satisfies_1) mixed tys_ok t_impl_satisfies_1 (fn := Tryz.f162) (c := bd Tryz.f162) (by kernel_rfl) (by kernel_rfl) (by kernel_rfl) (by kernel_rfl) ?_
 intro args st k he
 unfold c_impl_satisfies_1 at he
 split at he
 rotate_left
 ·exact he.elim
 rename_i c__0 c__1 o0
 have he : Ok (impl_satisfies_1 (c__0, c__1) o0) (fun r => k (.c (.bool r)) [(0, .rc [.imm .bool o0])]) := he
 refine ⟨rfl, rfl, ?_⟩
 refine go_bind he fun r1_ he => ?_
 have he := ok_some he
 exact ⟨rfl, _, _, (leads_ren [] (l := [(3, .c (.bool (!r1_)))]) (st' := [(0, .rc [.imm .bool o0])]) rfl rfl ⟨⟨.inl rfl, trivial⟩, trivial⟩ ⟨.inl rfl, trivial⟩), he⟩

noncomputable def c_slices_IndexFunc_impl_Constraint__impl_satisfies_1 : Con := fun args st => match args, st with
  | [.c (.imm (.pair (.sl (.pair (.int .i64) (.int .i64))) (.int .i64)) s_), .c (.fn 162 [0])], [(0, .rc [.imm .bool o0])] => .opt (Int) (slices_IndexFunc_impl_Constraint__impl_satisfies_1 s_ o0) (fun r => .ret (.c (.int .i64 r)) [(0, .rc [.imm .bool o0])])
  | _, _ => .fail

noncomputable def C_slices_IndexFunc_impl_Constraint__impl_satisfies_1 : Cfg := { y := tys, n := 19, h := 1, tab := [(162, c_impl_satisfies_1)], cut := [], hand := [], good := [], deep := [], sched := [] }

theorem t_slices_IndexFunc_impl_Constraint__impl_satisfies_1 : TabOk Tryz.prog C_slices_IndexFunc_impl_Constraint__impl_satisfies_1 := by
  refine tabOk_of ?_
  simp only [C_slices_IndexFunc_impl_Constraint__impl_satisfies_1, List.forall_mem_cons]
  exact ⟨k_impl_satisfies_1, fun p h => by cases h⟩

theorem k_slices_IndexFunc_impl_Constraint__impl_satisfies_1 : Entry Tryz.prog 225 c_slices_IndexFunc_impl_Constraint__impl_satisfies_1 := by
 refine entry_by (C := C_slices_IndexFunc_impl_Constraint__impl_satisfies_1) mixed tys_ok t_slices_IndexFunc_impl_Constraint__impl_satisfies_1 (fn := Tryz.f225) (c := bd Tryz.f225) (by kernel_rfl) (by kernel_rfl) (by kernel_rfl) (by kernel_rfl) ?_
 intro args st k he
 unfold c_slices_IndexFunc_impl_Constraint__impl_satisfies_1 at he
 split at he
 rotate_left
 ·exact he.elim
 rename_i s_ o0
 have he : Ok (slices_IndexFunc_impl_Constraint__impl_satisfies_1 s_ o0) (fun r => k (.c (.int .i64 r)) [(0, .rc [.imm .bool o0])]) := he
 refine ⟨rfl, rfl, ?_⟩
 refine loop_model mixed tys_ok t_slices_IndexFunc_impl_Constraint__impl_satisfies_1 (S := Int) (I := (fun i => (envOf [(0, .c (.imm y3_ s_)), (1, .c (.fn 162 [0])), (7, .c (.int .i64 (s_.length:Int))), (8, .c (.int .i64 i))], [(0, .rc [.imm .bool o0])]))) (f := slices_IndexFunc_impl_Constraint__impl_satisfies_1_l1 s_ o0) (K := (fun r => k (.c (.int .i64 r)) [(0, .rc [.imm .bool o0])])) he (leads_ren [] rfl rfl ⟨⟨.inl rfl, trivial⟩, trivial⟩ ⟨.inl rfl, ⟨rfl, ⟨⟨rfl, rfl⟩, trivial⟩⟩, rfl, rfl, trivial⟩) ?_
 rintro i J1 he
 refine go_if he (fun he => ?_) fun he => ?_
 ·refine go_rq he fun he => ?_
  refine go_bind he fun r1_ he => ?_
  refine go_if he (fun he => ?_) fun he => ?_
  ·have he := ok_some he
   exact ⟨rfl, _, _, (leads_ren [] (l := [(4, .c (.int .i64 i))]) (st' := [(0, .rc [.imm .bool o0])]) rfl rfl ⟨⟨.inl rfl, trivial⟩, trivial⟩ ⟨rfl, trivial⟩), he⟩
  ·refine go_rq he fun he => ?_
   have he := ok_some he
   exact ⟨(i + (1:Int)), he, (leads_ren [] rfl rfl ⟨⟨.inl rfl, trivial⟩, trivial⟩ ⟨.inl rfl, ⟨rfl, ⟨⟨rfl, rfl⟩, trivial⟩⟩, rfl, rfl, trivial⟩)⟩
 ·have he := ok_some he
  exact ⟨rfl, _, _, (leads_ren [] (l := [(4, .c (.int .i64 (-1:Int)))]) (st' := [(0, .rc [.imm .bool o0])]) rfl rfl ⟨⟨.inl rfl, trivial⟩, trivial⟩ ⟨rfl, trivial⟩), he⟩

noncomputable def c_slices_ContainsFunc_impl_Constraint__impl_satisfies_1 : Con := fun args st => match args, st with
  | [.c (.imm (.pair (.sl (.pair (.int .i64) (.int .i64))) (.int .i64)) s_), .c (.fn 162 [0])], [(0, .rc [.imm .bool o0])] => .opt (Bool) (slices_ContainsFunc_impl_Constraint__impl_satisfies_1 s_ o0) (fun r => .ret (.c (.bool r)) [(0, .rc [.imm .bool o0])])
  | _, _ => .fail

noncomputable def C_slices_ContainsFunc_impl_Constraint__impl_satisfies_1 : Cfg := { y := tys, n := 9, h := 1, tab := [(225, c_slices_IndexFunc_impl_Constraint__impl_satisfies_1)], cut := [], hand := [], good := [], deep := [], sched := [] }

theorem t_slices_ContainsFunc_impl_Constraint__impl_satisfies_1 : TabOk Tryz.prog C_slices_ContainsFunc_impl_Constraint__impl_satisfies_1 := by
  refine tabOk_of ?_
  simp only [C_slices_ContainsFunc_impl_Constraint__impl_satisfies_1, List.forall_mem_cons]
  exact ⟨k_slices_IndexFunc_impl_Constraint__impl_satisfies_1, fun p h => by cases h⟩

theorem k_slices_ContainsFunc_impl_Constraint__impl_satisfies_1 : Entry Tryz.prog 161 c_slices_ContainsFunc_impl_Constraint__impl_satisfies_1 := by
 refine entry_by (C := C_slices_ContainsFunc_impl_Constraint__impl_satisfies_1) mixed tys_ok t_slices_ContainsFunc_impl_Constraint__impl_satisfies_1 (fn := Tryz.f161) (c := bd Tryz.f161) (by kernel_rfl) (by kernel_rfl) (by kernel_rfl) (by kernel_rfl) ?_
 intro args st k he
 unfold c_slices_ContainsFunc_impl_Constraint__impl_satisfies_1 at he
 split at he
 rotate_left
 ·exact he.elim
 rename_i s_ o0
 have he : Ok (slices_ContainsFunc_impl_Constraint__impl_satisfies_1 s_ o0) (fun r => k (.c (.bool r)) [(0, .rc [.imm .bool o0])]) := he
 refine ⟨rfl, rfl, ?_⟩
 refine go_bind he fun r1_ he => ?_
 have he := ok_some he
 exact ⟨rfl, _, _, (leads_ren [] (l := [(4, .c (.bool (decide ((0:Int) ≤ r1_))))]) (st' := [(0, .rc [.imm .bool o0])]) rfl rfl ⟨⟨.inl rfl, trivial⟩, trivial⟩ ⟨.inl rfl, trivial⟩), he⟩

noncomputable def c_impl_satisfies : Con := fun args st => match args, st with
  | [.c (.imm (.pair (.sl (.pair (.int .i64) (.int .i64))) (.int .i64)) list_), .c (.imm .bool values)], [] => .opt (Bool) (impl_satisfies list_ values) (fun r => .ret (.c (.bool r)) [])
  | _, _ => .fail

noncomputable def C_impl_satisfies : Cfg := { y := tys, n := 9, h := 0, tab := [(161, c_slices_ContainsFunc_impl_Constraint__impl_satisfies_1)], cut := [], hand := [], good := [], deep := [], sched := [] }

theorem t_impl_satisfies : TabOk Tryz.prog C_impl_satisfies := by
  refine tabOk_of ?_
  simp only [C_impl_satisfies, List.forall_mem_cons]
  exact ⟨k_slices_ContainsFunc_impl_Constraint__impl_satisfies_1, fun p h => by cases h⟩

theorem k_impl_satisfies : Entry Tryz.prog 102 c_impl_satisfies := by
 refine entry_by (C := C_impl_satisfies) mixed tys_ok t_impl_satisfies (fn := Tryz.f102) (c := bd Tryz.f102) (by kernel_rfl) (by kernel_rfl) (by kernel_rfl) (by kernel_rfl) ?_
 intro args st k he
 unfold c_impl_satisfies at he
 split at he
 rotate_left
 ·exact he.elim
 rename_i list_ values
 have he : Ok (impl_satisfies list_ values) (fun r => k (.c (.bool r)) []) := he
 refine ⟨rfl, rfl, ?_⟩
 refine go_bind he fun r1_ he => ?_
 have he := ok_some he
 exact ⟨rfl, _, _, (leads_ren [] (l := [(4, .c (.bool (!r1_)))]) (st' := []) rfl rfl trivial ⟨.inl rfl, trivial⟩), he⟩

noncomputable def c_impl_CountSolutions : Con := fun args st => match args, st with
  | [.c (.imm (.pair (.sl (.pair (.int .i64) (.int .i64))) (.int .i64)) list_)], [] => .opt (Int) (impl_CountSolutions list_) (fun r => .ret (.c (.int .i64 r)) [])
  | _, _ => .fail

noncomputable def C_impl_CountSolutions : Cfg := { y := tys, n := 19, h := 0, tab := [(98, c_impl_ProblemValid), (102, c_impl_satisfies), (103, c_impl_numbered)], cut := [], hand := [], good := [], deep := [], sched := [] }

theorem t_impl_CountSolutions : TabOk Tryz.prog C_impl_CountSolutions := by
  refine tabOk_of ?_
  simp only [C_impl_CountSolutions, List.forall_mem_cons]
  exact ⟨k_impl_ProblemValid, k_impl_satisfies, k_impl_numbered, fun p h => by cases h⟩

theorem k_impl_CountSolutions : Entry Tryz.prog 40 c_impl_CountSolutions := by
 refine entry_by (C := C_impl_CountSolutions) mixed tys_ok t_impl_CountSolutions (fn := Tryz.f40) (c := bd Tryz.f40) (by kernel_rfl) (by kernel_rfl) (by kernel_rfl) (by kernel_rfl) ?_
 intro args st k he
 unfold c_impl_CountSolutions at he
 split at he
 rotate_left
 ·exact he.elim
 rename_i list_
 have he : Ok (impl_CountSolutions list_) (fun r => k (.c (.int .i64 r)) []) := he
 refine ⟨rfl, rfl, ?_⟩
 refine go_bind he fun r1_ he => ?_
 refine go_if he (fun he => ?_) fun he => ?_
 ·have he := ok_some he
  exact ⟨rfl, _, _, Leads.refl _ _, he⟩
 ·refine loop_model mixed tys_ok t_impl_CountSolutions (S := Int × Int) (I := (fun (count, i) => (envOf [(0, .c (.imm y3_ list_)), (3, .c (.int .i64 count)), (8, .c (.int .i64 i))], []))) (f := impl_CountSolutions_l1 list_) (K := (fun r => k (.c (.int .i64 r)) [])) he (leads_ren [] rfl rfl trivial ⟨.inl rfl, rfl, rfl, trivial⟩) ?_
  rintro ⟨count, i⟩ J1 he
  refine go_if he (fun he => ?_) fun he => ?_
  ·refine go_bind he fun r2_ he => ?_
   refine go_bind he fun r3_ he => ?_
   refine go_if he (fun he => ?_) fun he => ?_
   ·refine go_rq he fun he => ?_
    refine go_rq he fun he => ?_
    have he := ok_some he
    exact ⟨((count + (1:Int)), (i + (1:Int))), he, (leads_ren [] rfl rfl trivial ⟨.inl rfl, rfl, rfl, trivial⟩)⟩
   ·refine go_rq he fun he => ?_
    have he := ok_some he
    exact ⟨(count, (i + (1:Int))), he, (leads_ren [] rfl rfl trivial ⟨.inl rfl, rfl, rfl, trivial⟩)⟩
  ·have he := ok_some he
   exact ⟨rfl, _, _, Leads.refl _ _, he⟩

noncomputable def c_laws_FnUsedInputs : Con := fun args st => match args, st with
  | [.c (.imm (.int .u8) code)], [] => .opt (Bool) (laws_FnUsedInputs code) (fun r => .ret (.c (.bool r)) [])
  | _, _ => .fail

noncomputable def C_laws_FnUsedInputs : Cfg := { y := tys, n := 64, h := 0, tab := [(14, c_laws_cpInts), (30, c_spec_UsedInputs), (32, c_impl_UsedInputs), (38, c_spec_DrawUsedInputs), (39, c_impl_SubProblem), (40, c_impl_CountSolutions)], cut := [], hand := [], good := [], deep := [], sched := [] }

theorem t_laws_FnUsedInputs : TabOk Tryz.prog C_laws_FnUsedInputs := by
  refine tabOk_of ?_
  simp only [C_laws_FnUsedInputs, List.forall_mem_cons]
  exact ⟨k_laws_cpInts, k_spec_UsedInputs, k_impl_UsedInputs, k_spec_DrawUsedInputs, k_impl_SubProblem, k_impl_CountSolutions, fun p h => by cases h⟩

theorem k_laws_FnUsedInputs : Entry Tryz.prog 7 c_laws_FnUsedInputs := by
 refine entry_by (C := C_laws_FnUsedInputs) mixed tys_ok t_laws_FnUsedInputs (fn := Tryz.f7) (c := bd Tryz.f7) (by kernel_rfl) (by kernel_rfl) (by kernel_rfl) (by kernel_rfl) ?_
 intro args st k he
 unfold c_laws_FnUsedInputs at he
 split at he
 rotate_left
 ·exact he.elim
 rename_i code
 have he : Ok (laws_FnUsedInputs code) (fun r => k (.c (.bool r)) []) := he
 refine ⟨rfl, rfl, ?_⟩
 refine go_if he (fun he => ?_) fun he => ?_
 ·have he := ok_some he
  exact ⟨rfl, _, _, Leads.refl _ _, he⟩
 ·refine go_bind he fun r1_ he => ?_
  refine go_bind he fun r2_ he => ?_
  refine go_bind he fun r3_ he => ?_
  refine go_if2 he (fun he => ?_) fun he => ?_
  ·refine go_bind he fun r4_ he => ?_
   refine go_if2 he (fun he => ?_) fun he => ?_
   ·refine go_if he (fun he => ?_) fun he => ?_
    ·refine go_if he (fun he => ?_) fun he => ?_
     ·refine go_bind he fun r5_ he => ?_
      have he := ok_some he
      exact ⟨rfl, _, _, (leads_ren [] (l := [(2, .c (.bool r5_))]) (st' := []) rfl rfl trivial ⟨.inl rfl, trivial⟩), he⟩
     ·have he := ok_some he
      exact ⟨rfl, _, _, (leads_ren [] (l := [(2, .c (.bool false))]) (st' := []) rfl rfl trivial ⟨.inr rfl, trivial⟩), he⟩
    ·refine go_bind he fun r8_ he => ?_
     refine go_if he (fun he => ?_) fun he => ?_
     ·refine go_bind he fun r9_ he => ?_
      have he := ok_some he
      exact ⟨rfl, _, _, (leads_ren [] (l := [(2, .c (.bool (r9_ == (0:Int))))]) (st' := []) rfl rfl trivial ⟨.inl rfl, trivial⟩), he⟩
     ·have he := ok_some he
      exact ⟨rfl, _, _, (leads_ren [] (l := [(2, .c (.bool false))]) (st' := []) rfl rfl trivial ⟨.inr rfl, trivial⟩), he⟩
   ·refine go_if he (fun he => ?_) fun he => ?_
    ·refine go_bind he fun r6_ he => ?_
     have he := ok_some he
     exact ⟨rfl, _, _, (leads_ren [] (l := [(2, .c (.bool r6_))]) (st' := []) rfl rfl trivial ⟨.inl rfl, trivial⟩), he⟩
    ·have he := ok_some he
     exact ⟨rfl, _, _, (leads_ren [] (l := [(2, .c (.bool false))]) (st' := []) rfl rfl trivial ⟨.inr rfl, trivial⟩), he⟩
  ·refine go_if he (fun he => ?_) fun he => ?_
   ·refine go_bind he fun r7_ he => ?_
    have he := ok_some he
    exact ⟨rfl, _, _, (leads_ren [] (l := [(2, .c (.bool r7_))]) (st' := []) rfl rfl trivial ⟨.inl rfl, trivial⟩), he⟩
   ·have he := ok_some he
    exact ⟨rfl, _, _, (leads_ren [] (l := [(2, .c (.bool false))]) (st' := []) rfl rfl trivial ⟨.inr rfl, trivial⟩), he⟩

end Go.AE.Y
