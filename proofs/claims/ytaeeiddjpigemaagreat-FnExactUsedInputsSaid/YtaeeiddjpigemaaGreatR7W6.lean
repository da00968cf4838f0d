/-
  Walks: each function keeps the contract that its model gives. No conditions.
-/
import Derived.Test.YtaeeiddjpigemaaGreatR7Tab
import Derived.Test.YtaeeiddjpigemaaGreatR7W5
namespace Go.AE.Y
open Go Go.AE Go.Proofs
set_option linter.unusedVariables false
set_option maxHeartbeats 2000000
set_option maxRecDepth 100000

noncomputable def c_laws_markConstraintS : Con := fun args st => match args, st with
  | [.c (.own 0 false), .c (.int .i64 k_)], [(0, .sl 89 (.pair (.sl (.pair (.int .i64) (.int .i64))) (.int .i64)) a (.deep true .no))] => .opt (Int × (List D2_)) (laws_markConstraintS k_ a) (fun r => .ret (.c (.int .i64 r.1)) [(0, .sl 89 y2_ r.2 (.deep true .no))])
  | _, _ => .fail

noncomputable def C_laws_markConstraintS : Cfg := { y := tys, n := 27, h := 1, tab := [(96, c_laws_markTermS__d)], cut := [], hand := [(96, [0])], good := [], deep := [], sched := [] }

theorem t_laws_markConstraintS : TabOk Tryz.prog C_laws_markConstraintS := by
  refine tabOk_of ?_
  simp only [C_laws_markConstraintS, List.forall_mem_cons]
  exact ⟨k_laws_markTermS__d, fun p h => by cases h⟩

theorem k_laws_markConstraintS : Entry Tryz.prog 34 c_laws_markConstraintS := by
 refine entry_by (C := C_laws_markConstraintS) mixed tys_ok t_laws_markConstraintS (fn := Tryz.f34) (c := bd Tryz.f34) (by kernel_rfl) (by kernel_rfl) (by kernel_rfl) (by kernel_rfl) ?_
 intro args st k he
 unfold c_laws_markConstraintS at he
 split at he
 rotate_left
 ·exact he.elim
 rename_i k_ a
 have he : Ok (laws_markConstraintS k_ a) (fun r => k (.c (.int .i64 r.1)) [(0, .sl 89 y2_ r.2 (.deep true .no))]) := he
 refine ⟨rfl, rfl, ?_⟩
 refine loop_model mixed tys_ok t_laws_markConstraintS (S := Int × Int × (List D2_)) (I := (fun (k_1, i, a1) => (envOf [(0, .c (.own 0 false)), (1, .c (.int .i64 k_1)), (5, .c (.int .i64 i))], [(0, .sl 89 y2_ a1 (.deep true .no))]))) (f := laws_markConstraintS_l1) (K := (fun r => k (.c (.int .i64 r.1)) [(0, .sl 89 y2_ r.2 (.deep true .no))])) he (leads_ren [] rfl rfl ⟨⟨rfl, rfl⟩, trivial⟩ ⟨⟨⟨rfl, rfl⟩, trivial⟩, rfl, rfl, trivial⟩) ?_
 rintro ⟨k_1, i, a1⟩ J1 he
 refine go_if he (fun he => ?_) fun he => ?_
 ·refine go_rq he fun he => ?_
  refine go_bind he fun r2_ he => ?_
  refine go_rq he fun he => ?_
  refine go_rq he fun he => ?_
  refine go_rq he fun he => ?_
  have he := ok_some he
  exact ⟨((r2_.1 + (1:Int)), (i + (1:Int)), ((a1.set i.toNat ((a1.getD i.toNat ([], 0)).1, r2_.1)).set i.toNat (r2_.2, ((a1.set i.toNat ((a1.getD i.toNat ([], 0)).1, r2_.1)).getD i.toNat ([], 0)).2))), he, ((leads_close [0] rfl).trans (leads_ren [] (l := [(0, .c (.own 0 false)), (1, .c (.int .i64 (r2_.1 + (1:Int)))), (5, .c (.int .i64 (i + (1:Int))))]) (st' := [(0, .sl 89 y2_ ((a1.set i.toNat ((a1.getD i.toNat ([], 0)).1, r2_.1)).set i.toNat (r2_.2, ((a1.set i.toNat ((a1.getD i.toNat ([], 0)).1, r2_.1)).getD i.toNat ([], 0)).2)) (.deep true .no))]) rfl rfl (by exact ⟨⟨rfl, rfl⟩, trivial⟩) (by exact ⟨⟨⟨rfl, rfl⟩, trivial⟩, rfl, rfl, trivial⟩)))⟩
 ·have he := ok_some he
  exact ⟨rfl, _, _, (leads_ren [] (l := [(4, .c (.int .i64 k_1))]) (st' := [(0, .sl 89 y2_ a1 (.deep true .no))]) rfl rfl ⟨⟨rfl, rfl⟩, trivial⟩ ⟨rfl, trivial⟩), he⟩

noncomputable def c_laws_markStepS : Con := fun args st => match args, st with
  | [.c (.own 0 false), .c (.int .i64 k_)], [(0, .sl 96 (.pair (.int .i64) (.pair (.int .i64) (.pair (.int .i64) (.pair (.sl (.pair (.int .i64) (.int .i64))) (.int .i64))))) a (.deep true .no))] => .opt (Int × (List D5_)) (laws_markStepS k_ a) (fun r => .ret (.c (.int .i64 r.1)) [(0, .sl 96 y5_ r.2 (.deep true .no))])
  | _, _ => .fail

noncomputable def C_laws_markStepS : Cfg := { y := tys, n := 50, h := 1, tab := [(96, c_laws_markTermS__d)], cut := [7, 9, 12], hand := [(96, [0])], good := [], deep := [], sched := [] }

theorem t_laws_markStepS : TabOk Tryz.prog C_laws_markStepS := by
  refine tabOk_of ?_
  simp only [C_laws_markStepS, List.forall_mem_cons]
  exact ⟨k_laws_markTermS__d, fun p h => by cases h⟩

theorem k_laws_markStepS : Entry Tryz.prog 35 c_laws_markStepS := by
 refine entry_by (C := C_laws_markStepS) mixed tys_ok t_laws_markStepS (fn := Tryz.f35) (c := bd Tryz.f35) (by kernel_rfl) (by kernel_rfl) (by kernel_rfl) (by kernel_rfl) ?_
 intro args st k he
 unfold c_laws_markStepS at he
 split at he
 rotate_left
 ·exact he.elim
 rename_i k_ a
 have he : Ok (laws_markStepS k_ a) (fun r => k (.c (.int .i64 r.1)) [(0, .sl 96 y5_ r.2 (.deep true .no))]) := he
 refine ⟨rfl, rfl, ?_⟩
 refine loop_model mixed tys_ok t_laws_markStepS (S := Int × Int × (List D5_)) (I := (fun (k_1, i, a4) => (envOf [(0, .c (.own 0 false)), (1, .c (.int .i64 k_1)), (5, .c (.int .i64 i))], [(0, .sl 96 y5_ a4 (.deep true .no))]))) (f := laws_markStepS_l1) (K := (fun r => k (.c (.int .i64 r.1)) [(0, .sl 96 y5_ r.2 (.deep true .no))])) he (leads_ren [] rfl rfl ⟨⟨rfl, rfl⟩, trivial⟩ ⟨⟨⟨rfl, rfl⟩, trivial⟩, rfl, rfl, trivial⟩) ?_
 rintro ⟨k_1, i, a4⟩ J1 he
 refine go_if he (fun he => ?_) fun he => ?_
 ·refine go_rq he fun he => ?_
  refine go_rq he fun he => ?_
  refine seq_model mixed tys_ok t_laws_markStepS (S := (List D5_)) (I := (fun a5 => (envOf [(0, .c (.own 0 false)), (1, .c (.int .i64 (k_1 + (1:Int)))), (5, .c (.int .i64 i))], [(0, .sl 96 y5_ a5 (.deep true .no))]))) (B := fun s => Ok (laws_markStepS_j1 k_1 i s) (LK J1 (fun r => k (.c (.int .i64 r.1)) [(0, .sl 96 y5_ r.2 (.deep true .no))]))) ?_ ?_
  ·rintro a5 he
   refine go_rq he fun he => ?_
   refine seq_model mixed tys_ok t_laws_markStepS (S := (List D5_)) (I := (fun a6 => (envOf [(0, .c (.own 0 false)), (1, .c (.int .i64 ((k_1 + (1:Int)) + (1:Int)))), (5, .c (.int .i64 i))], [(0, .sl 96 y5_ a6 (.deep true .no))]))) (B := fun s => Ok (laws_markStepS_j2 k_1 i s) (LK J1 (fun r => k (.c (.int .i64 r.1)) [(0, .sl 96 y5_ r.2 (.deep true .no))]))) ?_ ?_
   ·rintro a6 he
    refine go_rq he fun he => ?_
    refine go_rq he fun he => ?_
    refine go_bind he fun r2_ he => ?_
    refine seq_model mixed tys_ok t_laws_markStepS (S := (List D5_)) (I := (fun a7 => (envOf [(0, .c (.own 0 false)), (1, .c (.int .i64 r2_.1)), (5, .c (.int .i64 i))], [(0, .sl 96 y5_ a7 (.deep true .no))]))) (B := fun s => Ok (laws_markStepS_j3 i r2_ s) (LK J1 (fun r => k (.c (.int .i64 r.1)) [(0, .sl 96 y5_ r.2 (.deep true .no))]))) ?_ ?_
    ·rintro a7 he
     refine go_rq he fun he => ?_
     refine go_rq he fun he => ?_
     have he := ok_some he
     exact ⟨((r2_.1 + (1:Int)), (i + (1:Int)), a7), he, (leads_ren [] rfl rfl ⟨⟨rfl, rfl⟩, trivial⟩ ⟨⟨⟨rfl, rfl⟩, trivial⟩, rfl, rfl, trivial⟩)⟩
    ·skip
     refine go_rq he fun he => ?_
     exact ⟨((a6.set i.toNat ((a6.getD i.toNat (0, (0, (0, ([], 0))))).1, ((a6.getD i.toNat (0, (0, (0, ([], 0))))).2.1, ((a6.getD i.toNat (0, (0, (0, ([], 0))))).2.2.1, ((a6.getD i.toNat (0, (0, (0, ([], 0))))).2.2.2.1, r2_.1))))).set i.toNat (((a6.set i.toNat ((a6.getD i.toNat (0, (0, (0, ([], 0))))).1, ((a6.getD i.toNat (0, (0, (0, ([], 0))))).2.1, ((a6.getD i.toNat (0, (0, (0, ([], 0))))).2.2.1, ((a6.getD i.toNat (0, (0, (0, ([], 0))))).2.2.2.1, r2_.1))))).getD i.toNat (0, (0, (0, ([], 0))))).1, (((a6.set i.toNat ((a6.getD i.toNat (0, (0, (0, ([], 0))))).1, ((a6.getD i.toNat (0, (0, (0, ([], 0))))).2.1, ((a6.getD i.toNat (0, (0, (0, ([], 0))))).2.2.1, ((a6.getD i.toNat (0, (0, (0, ([], 0))))).2.2.2.1, r2_.1))))).getD i.toNat (0, (0, (0, ([], 0))))).2.1, (((a6.set i.toNat ((a6.getD i.toNat (0, (0, (0, ([], 0))))).1, ((a6.getD i.toNat (0, (0, (0, ([], 0))))).2.1, ((a6.getD i.toNat (0, (0, (0, ([], 0))))).2.2.1, ((a6.getD i.toNat (0, (0, (0, ([], 0))))).2.2.2.1, r2_.1))))).getD i.toNat (0, (0, (0, ([], 0))))).2.2.1, (r2_.2, ((a6.set i.toNat ((a6.getD i.toNat (0, (0, (0, ([], 0))))).1, ((a6.getD i.toNat (0, (0, (0, ([], 0))))).2.1, ((a6.getD i.toNat (0, (0, (0, ([], 0))))).2.2.1, ((a6.getD i.toNat (0, (0, (0, ([], 0))))).2.2.2.1, r2_.1))))).getD i.toNat (0, (0, (0, ([], 0))))).2.2.2.2))))), he, ((leads_close [0] rfl).trans (leads_ren [] (l := [(0, .c (.own 0 false)), (1, .c (.int .i64 r2_.1)), (5, .c (.int .i64 i))]) (st' := [(0, .sl 96 y5_ ((a6.set i.toNat ((a6.getD i.toNat (0, (0, (0, ([], 0))))).1, ((a6.getD i.toNat (0, (0, (0, ([], 0))))).2.1, ((a6.getD i.toNat (0, (0, (0, ([], 0))))).2.2.1, ((a6.getD i.toNat (0, (0, (0, ([], 0))))).2.2.2.1, r2_.1))))).set i.toNat (((a6.set i.toNat ((a6.getD i.toNat (0, (0, (0, ([], 0))))).1, ((a6.getD i.toNat (0, (0, (0, ([], 0))))).2.1, ((a6.getD i.toNat (0, (0, (0, ([], 0))))).2.2.1, ((a6.getD i.toNat (0, (0, (0, ([], 0))))).2.2.2.1, r2_.1))))).getD i.toNat (0, (0, (0, ([], 0))))).1, (((a6.set i.toNat ((a6.getD i.toNat (0, (0, (0, ([], 0))))).1, ((a6.getD i.toNat (0, (0, (0, ([], 0))))).2.1, ((a6.getD i.toNat (0, (0, (0, ([], 0))))).2.2.1, ((a6.getD i.toNat (0, (0, (0, ([], 0))))).2.2.2.1, r2_.1))))).getD i.toNat (0, (0, (0, ([], 0))))).2.1, (((a6.set i.toNat ((a6.getD i.toNat (0, (0, (0, ([], 0))))).1, ((a6.getD i.toNat (0, (0, (0, ([], 0))))).2.1, ((a6.getD i.toNat (0, (0, (0, ([], 0))))).2.2.1, ((a6.getD i.toNat (0, (0, (0, ([], 0))))).2.2.2.1, r2_.1))))).getD i.toNat (0, (0, (0, ([], 0))))).2.2.1, (r2_.2, ((a6.set i.toNat ((a6.getD i.toNat (0, (0, (0, ([], 0))))).1, ((a6.getD i.toNat (0, (0, (0, ([], 0))))).2.1, ((a6.getD i.toNat (0, (0, (0, ([], 0))))).2.2.1, ((a6.getD i.toNat (0, (0, (0, ([], 0))))).2.2.2.1, r2_.1))))).getD i.toNat (0, (0, (0, ([], 0))))).2.2.2.2))))) (.deep true .no))]) rfl rfl (by exact ⟨⟨rfl, rfl⟩, trivial⟩) (by exact ⟨⟨⟨rfl, rfl⟩, trivial⟩, rfl, rfl, trivial⟩)))⟩
   ·skip
    refine go_rq he fun he => ?_
    exact ⟨(a5.set i.toNat ((a5.getD i.toNat (0, (0, (0, ([], 0))))).1, ((a5.getD i.toNat (0, (0, (0, ([], 0))))).2.1, (((k_1 + (1:Int)) + (1:Int)), (a5.getD i.toNat (0, (0, (0, ([], 0))))).2.2.2)))), he, (leads_ren [] rfl rfl ⟨⟨rfl, rfl⟩, trivial⟩ ⟨⟨⟨rfl, rfl⟩, trivial⟩, rfl, rfl, trivial⟩)⟩
  ·skip
   refine go_rq he fun he => ?_
   exact ⟨((a4.set i.toNat (k_1, (a4.getD i.toNat (0, (0, (0, ([], 0))))).2)).set i.toNat (((a4.set i.toNat (k_1, (a4.getD i.toNat (0, (0, (0, ([], 0))))).2)).getD i.toNat (0, (0, (0, ([], 0))))).1, ((k_1 + (1:Int)), ((a4.set i.toNat (k_1, (a4.getD i.toNat (0, (0, (0, ([], 0))))).2)).getD i.toNat (0, (0, (0, ([], 0))))).2.2))), he, (leads_ren [] rfl rfl ⟨⟨rfl, rfl⟩, trivial⟩ ⟨⟨⟨rfl, rfl⟩, trivial⟩, rfl, rfl, trivial⟩)⟩
 ·have he := ok_some he
  exact ⟨rfl, _, _, (leads_ren [] (l := [(4, .c (.int .i64 k_1))]) (st' := [(0, .sl 96 y5_ a4 (.deep true .no))]) rfl rfl ⟨⟨rfl, rfl⟩, trivial⟩ ⟨rfl, trivial⟩), he⟩

noncomputable def c_laws_markIntS : Con := fun args st => match args, st with
  | [.c (.own 0 false), .c (.int .i64 k_)], [(0, .sl 3 (.int .i64) a .shallow)] => .opt (Int × (List Int)) (laws_markIntS k_ a) (fun r => .ret (.c (.int .i64 r.1)) [(0, .sl 3 y0_ r.2 .shallow)])
  | _, _ => .fail

noncomputable def C_laws_markIntS : Cfg := { y := tys, n := 19, h := 1, tab := [], cut := [], hand := [], good := [], deep := [], sched := [] }

theorem t_laws_markIntS : TabOk Tryz.prog C_laws_markIntS := tabOk_of (fun p h => by cases h)

theorem k_laws_markIntS : Entry Tryz.prog 36 c_laws_markIntS := by
 refine entry_by (C := C_laws_markIntS) mixed tys_ok t_laws_markIntS (fn := Tryz.f36) (c := bd Tryz.f36) (by kernel_rfl) (by kernel_rfl) (by kernel_rfl) (by kernel_rfl) ?_
 intro args st k he
 unfold c_laws_markIntS at he
 split at he
 rotate_left
 ·exact he.elim
 rename_i k_ a
 have he : Ok (laws_markIntS k_ a) (fun r => k (.c (.int .i64 r.1)) [(0, .sl 3 y0_ r.2 .shallow)]) := he
 refine ⟨rfl, rfl, ?_⟩
 refine loop_model mixed tys_ok t_laws_markIntS (S := Int × Int × (List Int)) (I := (fun (k_1, i, a1) => (envOf [(0, .c (.own 0 false)), (1, .c (.int .i64 k_1)), (5, .c (.int .i64 i))], [(0, .sl 3 y0_ a1 .shallow)]))) (f := laws_markIntS_l1) (K := (fun r => k (.c (.int .i64 r.1)) [(0, .sl 3 y0_ r.2 .shallow)])) he (leads_ren [] rfl rfl ⟨⟨rfl, rfl⟩, trivial⟩ ⟨⟨⟨rfl, rfl⟩, trivial⟩, rfl, rfl, trivial⟩) ?_
 rintro ⟨k_1, i, a1⟩ J1 he
 refine go_if he (fun he => ?_) fun he => ?_
 ·refine go_rq he fun he => ?_
  refine go_rq he fun he => ?_
  refine go_rq he fun he => ?_
  have he := ok_some he
  exact ⟨((k_1 + (1:Int)), (i + (1:Int)), (a1.set i.toNat k_1)), he, (leads_ren [] rfl rfl ⟨⟨rfl, rfl⟩, trivial⟩ ⟨⟨⟨rfl, rfl⟩, trivial⟩, rfl, rfl, trivial⟩)⟩
 ·have he := ok_some he
  exact ⟨rfl, _, _, (leads_ren [] (l := [(4, .c (.int .i64 k_1))]) (st' := [(0, .sl 3 y0_ a1 .shallow)]) rfl rfl ⟨⟨rfl, rfl⟩, trivial⟩ ⟨rfl, trivial⟩), he⟩

noncomputable def c_laws_heldIntS : Con := fun args st => match args, st with
  | [.c (.imm (.int .i64) a), .c (.int .i64 k_)], [] => .opt (Int) (laws_heldIntS a k_) (fun r => .ret (.c (.int .i64 r)) [])
  | _, _ => .fail

noncomputable def C_laws_heldIntS : Cfg := { y := tys, n := 21, h := 0, tab := [], cut := [], hand := [], good := [], deep := [], sched := [] }

theorem t_laws_heldIntS : TabOk Tryz.prog C_laws_heldIntS := tabOk_of (fun p h => by cases h)

theorem k_laws_heldIntS : Entry Tryz.prog 37 c_laws_heldIntS := by
 refine entry_by (C := C_laws_heldIntS) mixed tys_ok t_laws_heldIntS (fn := Tryz.f37) (c := bd Tryz.f37) (by kernel_rfl) (by kernel_rfl) (by kernel_rfl) (by kernel_rfl) ?_
 intro args st k he
 unfold c_laws_heldIntS at he
 split at he
 rotate_left
 ·exact he.elim
 rename_i a k_
 have he : Ok (laws_heldIntS a k_) (fun r => k (.c (.int .i64 r)) []) := he
 refine ⟨rfl, rfl, ?_⟩
 refine loop_model mixed tys_ok t_laws_heldIntS (S := Int × Int) (I := (fun (k_1, i) => (envOf [(0, .c (.imm y0_ a)), (1, .c (.int .i64 k_1)), (5, .c (.int .i64 i))], []))) (f := laws_heldIntS_l1 a) (K := (fun r => k (.c (.int .i64 r)) [])) he (leads_ren [] rfl rfl trivial ⟨.inl rfl, rfl, rfl, trivial⟩) ?_
 rintro ⟨k_1, i⟩ J1 he
 refine go_if he (fun he => ?_) fun he => ?_
 ·refine go_rq he fun he => ?_
  refine go_if he (fun he => ?_) fun he => ?_
  ·have he := ok_some he
   exact ⟨rfl, _, _, Leads.refl _ _, he⟩
  ·refine go_rq he fun he => ?_
   refine go_rq he fun he => ?_
   have he := ok_some he
   exact ⟨((k_1 + (1:Int)), (i + (1:Int))), he, (leads_ren [] rfl rfl trivial ⟨.inl rfl, rfl, rfl, trivial⟩)⟩
 ·have he := ok_some he
  exact ⟨rfl, _, _, Leads.refl _ _, he⟩

noncomputable def c_laws_FnExactUsedInputs : Con := fun args st => match args, st with
  | [.c (.imm (.pair (.sl (.pair (.int .i64) (.int .i64))) (.int .i64)) a0), .c (.imm (.pair (.int .i64) (.pair (.int .i64) (.pair (.int .i64) (.pair (.sl (.pair (.int .i64) (.int .i64))) (.int .i64))))) a1)], [] => .opt (Bool) (laws_FnExactUsedInputs a0 a1) (fun r => .ret (.c (.bool r)) [])
  | _, _ => .fail

noncomputable def C_laws_FnExactUsedInputs : Cfg := { y := tys, n := 119, h := 0, tab := [(20, c_laws_szStepS), (24, c_laws_toStepS), (26, c_laws_eqIntS), (27, c_laws_eqStepS), (29, c_laws_szConstraintS), (30, c_spec_UsedInputs), (31, c_laws_toConstraintS), (32, c_impl_UsedInputs), (33, c_laws_eqConstraintS), (34, c_laws_markConstraintS), (35, c_laws_markStepS), (36, c_laws_markIntS), (37, c_laws_heldIntS)], cut := [], hand := [(34, [0]), (35, [0]), (36, [0])], good := [], deep := [], sched := [] }

theorem t_laws_FnExactUsedInputs : TabOk Tryz.prog C_laws_FnExactUsedInputs := by
  refine tabOk_of ?_
  simp only [C_laws_FnExactUsedInputs, List.forall_mem_cons]
  exact ⟨k_laws_szStepS, k_laws_toStepS, k_laws_eqIntS, k_laws_eqStepS, k_laws_szConstraintS, k_spec_UsedInputs, k_laws_toConstraintS, k_impl_UsedInputs, k_laws_eqConstraintS, k_laws_markConstraintS, k_laws_markStepS, k_laws_markIntS, k_laws_heldIntS, fun p h => by cases h⟩

theorem k_laws_FnExactUsedInputs : Entry Tryz.prog 6 c_laws_FnExactUsedInputs := by
 refine entry_by (C := C_laws_FnExactUsedInputs) mixed tys_ok t_laws_FnExactUsedInputs (fn := Tryz.f6) (c := bd Tryz.f6) (by kernel_rfl) (by kernel_rfl) (by kernel_rfl) (by kernel_rfl) ?_
 intro args st k he
 unfold c_laws_FnExactUsedInputs at he
 split at he
 rotate_left
 ·exact he.elim
 rename_i a0 a1
 have he : Ok (laws_FnExactUsedInputs a0 a1) (fun r => k (.c (.bool r)) []) := he
 refine ⟨rfl, rfl, ?_⟩
 refine go_bind he fun r1_ he => ?_
 refine go_if he (fun he => ?_) fun he => ?_
 ·have he := ok_some he
  exact ⟨rfl, _, _, Leads.refl _ _, he⟩
 ·refine go_bind he fun r2_ he => ?_
  refine go_if he (fun he => ?_) fun he => ?_
  ·have he := ok_some he
   exact ⟨rfl, _, _, Leads.refl _ _, he⟩
  ·refine go_bind he fun r3_ he => ?_
   refine go_bind he fun r4_ he => ?_
   refine go_bind he fun r5_ he => ?_
   refine go_bind he fun r6_ he => ?_
   refine go_bind he fun r7_ he => ?_
   refine go_bind he fun r8_ he => ?_
   refine go_bind he fun r9_ he => ?_
   refine go_if2 he (fun he => ?_) fun he => ?_
   ·refine go_if he (fun he => ?_) fun he => ?_
    ·have he := ok_some he
     exact ⟨rfl, _, _, (leads_ren [] (l := [(4, .c (.bool false))]) (st' := []) rfl rfl trivial ⟨.inr rfl, trivial⟩), he⟩
    ·refine go_bind he fun r10_ he => ?_
     refine go_bind he fun r11_ he => ?_
     refine go_if he (fun he => ?_) fun he => ?_
     ·have he := ok_some he
      exact ⟨rfl, _, _, (leads_ren [] (l := [(4, .c (.bool false))]) (st' := []) rfl rfl trivial ⟨.inr rfl, trivial⟩), he⟩
     ·refine go_bind he fun r12_ he => ?_
      refine go_bind he fun r13_ he => ?_
      refine go_if he (fun he => ?_) fun he => ?_
      ·have he := ok_some he
       exact ⟨rfl, _, _, (leads_ren [] (l := [(4, .c (.bool false))]) (st' := []) rfl rfl trivial ⟨.inr rfl, trivial⟩), he⟩
      ·refine go_bind he fun r14_ he => ?_
       refine go_bind he fun r15_ he => ?_
       refine go_if2 he (fun he => ?_) fun he => ?_
       ·refine go_bind he fun r16_ he => ?_
        refine go_if2 he (fun he => ?_) fun he => ?_
        ·refine go_if he (fun he => ?_) fun he => ?_
         ·have he := ok_some he
          exact ⟨rfl, _, _, (leads_ren [] (l := [(4, .c (.bool false))]) (st' := []) rfl rfl trivial ⟨.inr rfl, trivial⟩), he⟩
         ·refine go_bind he fun r17_ he => ?_
          refine go_bind he fun r18_ he => ?_
          refine go_if he (fun he => ?_) fun he => ?_
          ·have he := ok_some he
           exact ⟨rfl, _, _, (leads_ren [] (l := [(4, .c (.bool false))]) (st' := []) rfl rfl trivial ⟨.inr rfl, trivial⟩), he⟩
          ·refine go_if he (fun he => ?_) fun he => ?_
           ·have he := ok_some he
            exact ⟨rfl, _, _, (leads_ren [] (l := [(4, .c (.bool false))]) (st' := []) rfl rfl trivial ⟨.inr rfl, trivial⟩), he⟩
           ·refine go_bind he fun r19_ he => ?_
            refine go_bind he fun r20_ he => ?_
            refine go_bind he fun r21_ he => ?_
            refine go_bind he fun r22_ he => ?_
            refine go_if2 he (fun he => ?_) fun he => ?_
            ·refine go_if he (fun he => ?_) fun he => ?_
             ·have he := ok_some he
              exact ⟨rfl, _, _, (leads_ren [] (l := [(4, .c (.bool false))]) (st' := []) rfl rfl trivial ⟨.inr rfl, trivial⟩), he⟩
             ·refine go_bind he fun r23_ he => ?_
              refine go_if he (fun he => ?_) fun he => ?_
              ·have he := ok_some he
               exact ⟨rfl, _, _, (leads_ren [] (l := [(4, .c (.bool false))]) (st' := []) rfl rfl trivial ⟨.inr rfl, trivial⟩), he⟩
              ·refine go_if he (fun he => ?_) fun he => ?_
               ·have he := ok_some he
                exact ⟨rfl, _, _, (leads_ren [] (l := [(4, .c (.bool false))]) (st' := []) rfl rfl trivial ⟨.inr rfl, trivial⟩), he⟩
               ·have he := ok_some he
                exact ⟨rfl, _, _, (leads_ren [] (l := [(4, .c (.bool true))]) (st' := []) rfl rfl trivial ⟨.inr rfl, trivial⟩), he⟩
            ·have he := ok_some he
             exact ⟨rfl, _, _, (leads_ren [] (l := [(4, .c (.bool false))]) (st' := []) rfl rfl trivial ⟨.inr rfl, trivial⟩), he⟩
        ·have he := ok_some he
         exact ⟨rfl, _, _, (leads_ren [] (l := [(4, .c (.bool false))]) (st' := []) rfl rfl trivial ⟨.inr rfl, trivial⟩), he⟩
       ·have he := ok_some he
        exact ⟨rfl, _, _, (leads_ren [] (l := [(4, .c (.bool false))]) (st' := []) rfl rfl trivial ⟨.inr rfl, trivial⟩), he⟩
   ·have he := ok_some he
    exact ⟨rfl, _, _, (leads_ren [] (l := [(4, .c (.bool false))]) (st' := []) rfl rfl trivial ⟨.inr rfl, trivial⟩), he⟩

end Go.AE.Y
