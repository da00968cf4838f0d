/-
  Walks: each function keeps the contract that its model gives. No conditions.
-/
import Derived.Test.YtaeeiddjpigemaaGreatR7Tab
import Derived.Test.YtaeeiddjpigemaaGreatR7W2
namespace Go.AE.Y
open Go Go.AE Go.Proofs
set_option linter.unusedVariables false
set_option maxHeartbeats 2000000
set_option maxRecDepth 100000

noncomputable def c_spec_ConstraintFalse : Con := fun args st => match args, st with
  | [.agg [.imm (.pair (.int .i64) (.int .i64)) c__0, .int .i64 c__1]], [] => .opt (Bool) (spec_ConstraintFalse (c__0, c__1)) (fun r => .ret (.c (.bool r)) [])
  | _, _ => .fail

noncomputable def C_spec_ConstraintFalse : Cfg := { y := tys, n := 12, h := 0, tab := [(168, c_spec_ConstraintValid), (216, c_spec_l1Total)], cut := [], hand := [], good := [], deep := [], sched := [(1, (.alt 0 (.alt 1 (.first 2 (.first 5 (.alt 3 (.alt 4 (.alt 6 (.first 7 (.first 8 (.first 9 .done))) .stop) (.alt 6 (.alt 4 (.first 7 (.first 8 (.first 9 .done))) .stop) .stop)) (.alt 6 (.alt 3 (.alt 4 (.first 7 (.first 8 (.first 9 .done))) .stop) .stop) .stop)))) .stop) .stop))] }

theorem t_spec_ConstraintFalse : TabOk Tryz.prog C_spec_ConstraintFalse := by
  refine tabOk_of ?_
  simp only [C_spec_ConstraintFalse, List.forall_mem_cons]
  exact ⟨k_spec_ConstraintValid, k_spec_l1Total, fun p h => by cases h⟩

theorem k_spec_ConstraintFalse : Entry Tryz.prog 153 c_spec_ConstraintFalse := by
 refine entry_by (C := C_spec_ConstraintFalse) mixed tys_ok t_spec_ConstraintFalse (fn := Tryz.f153) (c := bd Tryz.f153) (by kernel_rfl) (by kernel_rfl) (by kernel_rfl) (by kernel_rfl) ?_
 intro args st k he
 unfold c_spec_ConstraintFalse at he
 split at he
 rotate_left
 ·exact he.elim
 rename_i c__0 c__1
 have he : Ok (spec_ConstraintFalse (c__0, c__1)) (fun r => k (.c (.bool r)) []) := he
 refine ⟨rfl, rfl, ?_⟩
 refine And.intro (by kernel_rfl) ?_
 refine And.intro ?_ trivial
 refine And.intro ?_ trivial
 refine go_bind he fun r3_ he => ?_
 refine go_if he (fun he => ?_) fun he => ?_
 ·obtain ⟨r4_, hq1, he⟩ := ok_bind he
  refine And.intro ?_ (And.intro ?_ (trivial))
  ·skip
   refine And.intro ?_ (And.intro ?_ (trivial))
   ·skip
    refine ⟨r4_, hq1, ?_⟩
    refine And.intro ?_ trivial
    have he := ok_some he
    exact ⟨rfl, _, _, (leads_ren [] (l := [(2, .c (.bool (decide (r4_ < (c__0, c__1).2))))]) (st' := []) rfl rfl trivial ⟨.inl rfl, trivial⟩), he⟩
   ·skip
    refine And.intro ?_ trivial
    refine ⟨r4_, hq1, ?_⟩
    have he := ok_some he
    exact ⟨rfl, _, _, (leads_ren [] (l := [(2, .c (.bool (decide (r4_ < (c__0, c__1).2))))]) (st' := []) rfl rfl trivial ⟨.inl rfl, trivial⟩), he⟩
  ·skip
   refine And.intro ?_ trivial
   refine And.intro ?_ trivial
   refine ⟨r4_, hq1, ?_⟩
   have he := ok_some he
   exact ⟨rfl, _, _, (leads_ren [] (l := [(2, .c (.bool (decide (r4_ < (c__0, c__1).2))))]) (st' := []) rfl rfl trivial ⟨.inl rfl, trivial⟩), he⟩
 ·refine And.intro ?_ (And.intro ?_ (trivial))
  ·skip
   refine And.intro ?_ (And.intro ?_ (trivial))
   ·skip
    refine And.intro ?_ trivial
    have he := ok_some he
    exact ⟨rfl, _, _, (leads_ren [] (l := [(2, .c (.bool false))]) (st' := []) rfl rfl trivial ⟨.inr rfl, trivial⟩), he⟩
   ·skip
    refine And.intro ?_ trivial
    have he := ok_some he
    exact ⟨rfl, _, _, (leads_ren [] (l := [(2, .c (.bool false))]) (st' := []) rfl rfl trivial ⟨.inr rfl, trivial⟩), he⟩
  ·skip
   refine And.intro ?_ trivial
   refine And.intro ?_ trivial
   have he := ok_some he
   exact ⟨rfl, _, _, (leads_ren [] (l := [(2, .c (.bool false))]) (st' := []) rfl rfl trivial ⟨.inr rfl, trivial⟩), he⟩

noncomputable def c_spec_l4False : Con := fun args st => match args, st with
  | [.agg [.imm (.pair (.sl (.pair (.int .i64) (.int .i64))) (.int .i64)) d_0, .imm .bool d_1]], [] => .opt (Int) (spec_l4False (d_0, d_1)) (fun r => .ret (.c (.int .i64 r)) [])
  | _, _ => .fail

noncomputable def C_spec_l4False : Cfg := { y := tys, n := 26, h := 0, tab := [(153, c_spec_ConstraintFalse)], cut := [], hand := [], good := [], deep := [], sched := [] }

theorem t_spec_l4False : TabOk Tryz.prog C_spec_l4False := by
  refine tabOk_of ?_
  simp only [C_spec_l4False, List.forall_mem_cons]
  exact ⟨k_spec_ConstraintFalse, fun p h => by cases h⟩

theorem k_spec_l4False : Entry Tryz.prog 91 c_spec_l4False := by
 refine entry_by (C := C_spec_l4False) mixed tys_ok t_spec_l4False (fn := Tryz.f91) (c := bd Tryz.f91) (by kernel_rfl) (by kernel_rfl) (by kernel_rfl) (by kernel_rfl) ?_
 intro args st k he
 unfold c_spec_l4False at he
 split at he
 rotate_left
 ·exact he.elim
 rename_i d_0 d_1
 have he : Ok (spec_l4False (d_0, d_1)) (fun r => k (.c (.int .i64 r)) []) := he
 refine ⟨rfl, rfl, ?_⟩
 refine loop_model mixed tys_ok t_spec_l4False (S := Int) (I := (fun i => (envOf [(1, .c (.ptr 10000000 0)), (3, .c (.int .i64 i))], [(10000000, .rc [.imm y2_ (d_0, d_1).1, .imm .bool (d_0, d_1).2])]))) (f := spec_l4False_l1 (d_0, d_1)) (K := (fun r => k (.c (.int .i64 r)) [])) he (leads_ren [(10000000, 1)] rfl rfl ⟨⟨.inl rfl, .inl rfl, trivial⟩, trivial⟩ ⟨⟨⟨rfl, rfl⟩, rfl⟩, rfl, trivial⟩) ?_
 rintro i J1 he
 refine go_if he (fun he => ?_) fun he => ?_
 ·refine go_rq he fun he => ?_
  refine go_if he (fun he => ?_) fun he => ?_
  ·refine go_rq he fun he => ?_
   refine go_bind he fun r1_ he => ?_
   refine go_if he (fun he => ?_) fun he => ?_
   ·have he := ok_some he
    exact ⟨rfl, _, _, (leads_ren [] (l := [(2, .c (.int .i64 i))]) (st' := []) rfl rfl trivial ⟨rfl, trivial⟩), he⟩
   ·refine go_rq he fun he => ?_
    have he := ok_some he
    exact ⟨(i + (1:Int)), he, (leads_ren [] rfl rfl ⟨⟨.inl rfl, .inl rfl, trivial⟩, trivial⟩ ⟨⟨⟨rfl, rfl⟩, rfl⟩, rfl, trivial⟩)⟩
  ·refine go_rq he fun he => ?_
   have he := ok_some he
   exact ⟨(i + (1:Int)), he, (leads_ren [] rfl rfl ⟨⟨.inl rfl, .inl rfl, trivial⟩, trivial⟩ ⟨⟨⟨rfl, rfl⟩, rfl⟩, rfl, trivial⟩)⟩
 ·have he := ok_some he
  exact ⟨rfl, _, _, (leads_ren [] (l := [(2, .c (.int .i64 (-1:Int)))]) (st' := []) rfl rfl trivial ⟨rfl, trivial⟩), he⟩

noncomputable def c_spec_CheckRefutation : Con := fun args st => match args, st with
  | [.c (.imm (.pair (.sl (.pair (.int .i64) (.int .i64))) (.int .i64)) list_), .c (.imm (.pair (.int .i64) (.pair (.int .i64) (.pair (.int .i64) (.pair (.sl (.pair (.int .i64) (.int .i64))) (.int .i64))))) steps)], [] => .opt (Bool) (spec_CheckRefutation list_ steps) (fun r => .ret (.c (.bool r)) [])
  | _, _ => .fail

noncomputable def C_spec_CheckRefutation : Cfg := { y := tys, n := 24, h := 0, tab := [(90, c_spec_l4Run), (91, c_spec_l4False), (146, c_spec_l4Fits)], cut := [], hand := [], good := [], deep := [], sched := [] }

theorem t_spec_CheckRefutation : TabOk Tryz.prog C_spec_CheckRefutation := by
  refine tabOk_of ?_
  simp only [C_spec_CheckRefutation, List.forall_mem_cons]
  exact ⟨k_spec_l4Run, k_spec_l4False, k_spec_l4Fits, fun p h => by cases h⟩

theorem k_spec_CheckRefutation : Entry Tryz.prog 82 c_spec_CheckRefutation := by
 refine entry_by (C := C_spec_CheckRefutation) mixed tys_ok t_spec_CheckRefutation (fn := Tryz.f82) (c := bd Tryz.f82) (by kernel_rfl) (by kernel_rfl) (by kernel_rfl) (by kernel_rfl) ?_
 intro args st k he
 unfold c_spec_CheckRefutation at he
 split at he
 rotate_left
 ·exact he.elim
 rename_i list_ steps
 have he : Ok (spec_CheckRefutation list_ steps) (fun r => k (.c (.bool r)) []) := he
 refine ⟨rfl, rfl, ?_⟩
 refine go_bind he fun r1_ he => ?_
 refine go_if he (fun he => ?_) fun he => ?_
 ·have he := ok_some he
  exact ⟨rfl, _, _, Leads.refl _ _, he⟩
 ·refine go_bind he fun r2_ he => ?_
  refine go_if he (fun he => ?_) fun he => ?_
  ·refine go_bind he fun r3_ he => ?_
   have he := ok_some he
   exact ⟨rfl, _, _, (leads_ren [] (l := [(4, .c (.bool (decide ((0:Int) ≤ r3_))))]) (st' := []) rfl rfl trivial ⟨.inl rfl, trivial⟩), he⟩
  ·have he := ok_some he
   exact ⟨rfl, _, _, (leads_ren [] (l := [(4, .c (.bool false))]) (st' := []) rfl rfl trivial ⟨.inr rfl, trivial⟩), he⟩

noncomputable def c_spec_l4Needs : Con := fun args st => match args, st with
  | [.c (.own 0 false), .agg [.int .i64 s__0, .int .i64 s__1, .int .i64 s__2, .imm (.pair (.int .i64) (.int .i64)) s__3, .int .i64 s__4], .c (.int .i64 at_)], [(0, .sl 4 .bool need .shallow)] => .opt ((List Bool)) (spec_l4Needs (s__0, (s__1, (s__2, (s__3, s__4)))) at_ need) (fun r => .ret (.tup []) [(0, .sl 4 .bool r .shallow)])
  | _, _ => .fail

noncomputable def C_spec_l4Needs : Cfg := { y := tys, n := 38, h := 1, tab := [], cut := [], hand := [], good := [], deep := [], sched := [] }

theorem t_spec_l4Needs : TabOk Tryz.prog C_spec_l4Needs := tabOk_of (fun p h => by cases h)

theorem k_spec_l4Needs : Entry Tryz.prog 92 c_spec_l4Needs := by
 refine entry_by (C := C_spec_l4Needs) mixed tys_ok t_spec_l4Needs (fn := Tryz.f92) (c := bd Tryz.f92) (by kernel_rfl) (by kernel_rfl) (by kernel_rfl) (by kernel_rfl) ?_
 intro args st k he
 unfold c_spec_l4Needs at he
 split at he
 rotate_left
 ·exact he.elim
 rename_i s__0 s__1 s__2 s__3 s__4 at_ need
 have he : Ok (spec_l4Needs (s__0, (s__1, (s__2, (s__3, s__4)))) at_ need) (fun r => k (.tup []) [(0, .sl 4 .bool r .shallow)]) := he
 refine ⟨rfl, rfl, ?_⟩
 refine go_if he (fun he => ?_) fun he => ?_
 ·refine go_rq he fun he => ?_
  refine go_rq he fun he => ?_
  have he := ok_some he
  exact ⟨rfl, _, _, (leads_ren [] (l := []) (st' := [(0, .sl 4 .bool ((need.set (s__0, (s__1, (s__2, (s__3, s__4)))).2.1.toNat true).set (s__0, (s__1, (s__2, (s__3, s__4)))).2.2.1.toNat true) .shallow)]) rfl rfl ⟨⟨rfl, rfl⟩, trivial⟩ trivial), he⟩
 ·refine go_if he (fun he => ?_) fun he => ?_
  ·refine loop_model mixed tys_ok t_spec_l4Needs (S := Int × (List Bool)) (I := (fun (k_, need1) => (envOf [(0, .c (.own 0 false)), (2, .c (.int .i64 at_)), (6, .c (.int .i64 k_))], [(0, .sl 4 .bool need1 .shallow)]))) (f := spec_l4Needs_l1 at_) (K := (fun r => k (.tup []) [(0, .sl 4 .bool r .shallow)])) he (leads_ren [] rfl rfl ⟨⟨rfl, rfl⟩, trivial⟩ ⟨⟨⟨rfl, rfl⟩, trivial⟩, rfl, rfl, trivial⟩) ?_
   rintro ⟨k_, need1⟩ J1 he
   refine go_if he (fun he => ?_) fun he => ?_
   ·refine go_rq he fun he => ?_
    refine go_rq he fun he => ?_
    have he := ok_some he
    exact ⟨((k_ + (1:Int)), (need1.set k_.toNat true)), he, (leads_ren [] rfl rfl ⟨⟨rfl, rfl⟩, trivial⟩ ⟨⟨⟨rfl, rfl⟩, trivial⟩, rfl, rfl, trivial⟩)⟩
   ·have he := ok_some he
    exact ⟨rfl, _, _, (leads_ren [] (l := []) (st' := [(0, .sl 4 .bool need1 .shallow)]) rfl rfl ⟨⟨rfl, rfl⟩, trivial⟩ trivial), he⟩
  ·refine go_if he (fun he => ?_) fun he => ?_
   ·refine go_rq he fun he => ?_
    have he := ok_some he
    exact ⟨rfl, _, _, (leads_ren [] (l := []) (st' := [(0, .sl 4 .bool (need.set (s__0, (s__1, (s__2, (s__3, s__4)))).2.1.toNat true) .shallow)]) rfl rfl ⟨⟨rfl, rfl⟩, trivial⟩ trivial), he⟩
   ·refine go_if he (fun he => ?_) fun he => ?_
    ·refine go_rq he fun he => ?_
     have he := ok_some he
     exact ⟨rfl, _, _, (leads_ren [] (l := []) (st' := [(0, .sl 4 .bool (need.set (s__0, (s__1, (s__2, (s__3, s__4)))).2.1.toNat true) .shallow)]) rfl rfl ⟨⟨rfl, rfl⟩, trivial⟩ trivial), he⟩
    ·refine go_if he (fun he => ?_) fun he => ?_
     ·refine go_rq he fun he => ?_
      have he := ok_some he
      exact ⟨rfl, _, _, (leads_ren [] (l := []) (st' := [(0, .sl 4 .bool (need.set (s__0, (s__1, (s__2, (s__3, s__4)))).2.1.toNat true) .shallow)]) rfl rfl ⟨⟨rfl, rfl⟩, trivial⟩ trivial), he⟩
     ·refine go_if he (fun he => ?_) fun he => ?_
      ·refine go_rq he fun he => ?_
       have he := ok_some he
       exact ⟨rfl, _, _, (leads_ren [] (l := []) (st' := [(0, .sl 4 .bool (need.set (s__0, (s__1, (s__2, (s__3, s__4)))).2.1.toNat true) .shallow)]) rfl rfl ⟨⟨rfl, rfl⟩, trivial⟩ trivial), he⟩
      ·have he := ok_some he
       exact ⟨rfl, _, _, (leads_ren [] (l := []) (st' := [(0, .sl 4 .bool need .shallow)]) rfl rfl ⟨⟨rfl, rfl⟩, trivial⟩ trivial), he⟩

noncomputable def c_spec_UsedInputs : Con := fun args st => match args, st with
  | [.c (.imm (.pair (.sl (.pair (.int .i64) (.int .i64))) (.int .i64)) a0), .c (.imm (.pair (.int .i64) (.pair (.int .i64) (.pair (.int .i64) (.pair (.sl (.pair (.int .i64) (.int .i64))) (.int .i64))))) a1)], [] => .opt (Bool × (List Int)) (spec_UsedInputs a0 a1) (fun r => .ret (.tup [.c (.own 900 false), .c (.bool r.1)]) [(900, .sl 3 y0_ r.2 .shallow)])
  | _, _ => .fail

noncomputable def C_spec_UsedInputs : Cfg := { y := tys, n := 93, h := 0, tab := [(82, c_spec_CheckRefutation), (90, c_spec_l4Run), (91, c_spec_l4False), (92, c_spec_l4Needs)], cut := [13, 18], hand := [(92, [0])], good := [], deep := [], sched := [] }

theorem t_spec_UsedInputs : TabOk Tryz.prog C_spec_UsedInputs := by
  refine tabOk_of ?_
  simp only [C_spec_UsedInputs, List.forall_mem_cons]
  exact ⟨k_spec_CheckRefutation, k_spec_l4Run, k_spec_l4False, k_spec_l4Needs, fun p h => by cases h⟩

theorem k_spec_UsedInputs : Entry Tryz.prog 30 c_spec_UsedInputs := by
 refine entry_by (C := C_spec_UsedInputs) mixed tys_ok t_spec_UsedInputs (fn := Tryz.f30) (c := bd Tryz.f30) (by kernel_rfl) (by kernel_rfl) (by kernel_rfl) (by kernel_rfl) ?_
 intro args st k he
 unfold c_spec_UsedInputs at he
 split at he
 rotate_left
 ·exact he.elim
 rename_i a0 a1
 have he : Ok (spec_UsedInputs a0 a1) (fun r => k (.tup [.c (.own 900 false), .c (.bool r.1)]) [(900, .sl 3 y0_ r.2 .shallow)]) := he
 refine ⟨rfl, rfl, ?_⟩
 refine go_bind he fun r1_ he => ?_
 refine go_if he (fun he => ?_) fun he => ?_
 ·have he := ok_some he
  exact ⟨rfl, _, _, (leads_ren [(900, 14)] (l := [(4, .c (.own 900 false)), (5, .c (.bool false))]) (st' := [(900, .sl 3 y0_ ([] : List Int) .shallow)]) rfl rfl ⟨⟨rfl, rfl⟩, trivial⟩ ⟨⟨⟨rfl, rfl⟩, trivial⟩, .inr rfl, trivial⟩), he⟩
 ·refine go_bind he fun r2_ he => ?_
  refine go_rq he fun he => ?_
  refine go_bind he fun r3_ he => ?_
  refine go_rq he fun he => ?_
  refine seq_model mixed tys_ok t_spec_UsedInputs (S := (List Int)) (I := (fun i2 => (envOf [(0, .c (.imm y2_ a0)), (1, .c (.imm y5_ a1)), (6, .c (.own 10001000 false)), (7, .c (.ptr 10001001 0)), (9, .c (.own 10001002 false)), (10, .c (.own 10001003 false))], [(10001000, .sl 3 y0_ ([] : List Int) .shallow), (10001001, .rc [.own 10001004 false, .own 10001005 false]), (10001002, .sl 4 .bool ((List.replicate (r2_.2.1.length:Int).toNat false).set r3_.toNat true) .shallow), (10001003, .sl 3 y0_ i2 .shallow), (10001004, .sl 89 y2_ r2_.2.1 .shallow), (10001005, .sl 4 .bool r2_.2.2 .shallow)]))) (B := fun s => Ok (spec_UsedInputs_j1 a0 a1 r2_ r3_ s) (fun r => k (.tup [.c (.own 900 false), .c (.bool r.1)]) [(900, .sl 3 y0_ r.2 .shallow)])) ?_ ?_
  ·rintro i2 he
   refine seq_model mixed tys_ok t_spec_UsedInputs (S := (List Bool)) (I := (fun i5 => (envOf [(0, .c (.imm y2_ a0)), (6, .c (.own 10003000 false)), (9, .c (.own 10003001 false))], [(10003000, .sl 3 y0_ ([] : List Int) .shallow), (10003001, .sl 4 .bool i5 .shallow)]))) (B := fun s => Ok (spec_UsedInputs_j2 a0 s) (fun r => k (.tup [.c (.own 900 false), .c (.bool r.1)]) [(900, .sl 3 y0_ r.2 .shallow)])) ?_ ?_
   ·rintro i5 he
    refine loop_model mixed tys_ok t_spec_UsedInputs (S := Int × (List Int)) (I := (fun (i6, i7) => (envOf [(0, .c (.imm y2_ a0)), (6, .c (.own 10004000 false)), (9, .c (.own 10004001 false)), (13, .c (.int .i64 i6))], [(10004000, .sl 3 y0_ i7 .shallow), (10004001, .sl 4 .bool i5 .shallow)]))) (f := spec_UsedInputs_l1 a0 i5) (K := (fun r => k (.tup [.c (.own 900 false), .c (.bool r.1)]) [(900, .sl 3 y0_ r.2 .shallow)])) he (leads_ren [(10004000, 10003000), (10004001, 10003001)] rfl rfl ⟨⟨rfl, rfl⟩, ⟨rfl, rfl⟩, trivial⟩ ⟨.inl rfl, ⟨⟨rfl, rfl⟩, trivial⟩, ⟨⟨rfl, rfl⟩, trivial⟩, rfl, trivial⟩) ?_
    rintro ⟨i6, i7⟩ J1 he
    refine go_if he (fun he => ?_) fun he => ?_
    ·refine go_rq he fun he => ?_
     refine go_if he (fun he => ?_) fun he => ?_
     ·refine go_rq he fun he => ?_
      refine go_rq he fun he => ?_
      have he := ok_some he
      exact ⟨((i6 + (1:Int)), (i7 ++ [i6])), he, (leads_ren [(10004000, 91)] rfl rfl ⟨⟨rfl, rfl⟩, ⟨rfl, rfl⟩, trivial⟩ ⟨.inl rfl, ⟨⟨rfl, rfl⟩, trivial⟩, ⟨⟨rfl, rfl⟩, trivial⟩, rfl, trivial⟩)⟩
     ·refine go_rq he fun he => ?_
      have he := ok_some he
      exact ⟨((i6 + (1:Int)), i7), he, (leads_ren [] rfl rfl ⟨⟨rfl, rfl⟩, ⟨rfl, rfl⟩, trivial⟩ ⟨.inl rfl, ⟨⟨rfl, rfl⟩, trivial⟩, ⟨⟨rfl, rfl⟩, trivial⟩, rfl, trivial⟩)⟩
    ·have he := ok_some he
     exact ⟨rfl, _, _, (leads_ren [(900, 10004000)] (l := [(4, .c (.own 900 false)), (5, .c (.bool true))]) (st' := [(900, .sl 3 y0_ i7 .shallow)]) rfl rfl ⟨⟨rfl, rfl⟩, trivial⟩ ⟨⟨⟨rfl, rfl⟩, trivial⟩, .inr rfl, trivial⟩), he⟩
   ·skip
    refine go_rq he fun he => ?_
    refine loop_model mixed tys_ok t_spec_UsedInputs (S := Int × (List Bool)) (I := (fun (i3, i4) => (envOf [(0, .c (.imm y2_ a0)), (1, .c (.imm y5_ a1)), (6, .c (.own 10002000 false)), (9, .c (.own 10002001 false)), (10, .c (.own 10002002 false)), (12, .c (.int .i64 i3))], [(10002000, .sl 3 y0_ ([] : List Int) .shallow), (10002001, .sl 4 .bool i4 .shallow), (10002002, .sl 3 y0_ i2 .shallow)]))) (f := spec_UsedInputs_l2 a0 a1 i2) (K := (fun r => k (.tup [.c (.own 900 false), .c (.bool r.1)]) [(900, .sl 3 y0_ r.2 .shallow)])) he (leads_ren [(10002000, 10001000), (10002001, 10001002), (10002002, 10001003)] rfl rfl ⟨⟨rfl, rfl⟩, ⟨rfl, rfl⟩, ⟨rfl, rfl⟩, trivial⟩ ⟨.inl rfl, .inl rfl, ⟨⟨rfl, rfl⟩, trivial⟩, ⟨⟨rfl, rfl⟩, trivial⟩, ⟨⟨rfl, rfl⟩, trivial⟩, rfl, trivial⟩) ?_
    rintro ⟨i3, i4⟩ J1 he
    refine go_if he (fun he => ?_) fun he => ?_
    ·refine go_rq he fun he => ?_
     refine go_if he (fun he => ?_) fun he => ?_
     ·refine go_rq he fun he => ?_
      refine go_rq he fun he => ?_
      refine go_rq he fun he => ?_
      refine go_bind he fun r5_ he => ?_
      refine go_rq he fun he => ?_
      have he := ok_some he
      exact ⟨((i3 - (1:Int)), r5_), he, (leads_ren [] rfl rfl ⟨⟨rfl, rfl⟩, ⟨rfl, rfl⟩, ⟨rfl, rfl⟩, trivial⟩ ⟨.inl rfl, .inl rfl, ⟨⟨rfl, rfl⟩, trivial⟩, ⟨⟨rfl, rfl⟩, trivial⟩, ⟨⟨rfl, rfl⟩, trivial⟩, rfl, trivial⟩)⟩
     ·refine go_rq he fun he => ?_
      have he := ok_some he
      exact ⟨((i3 - (1:Int)), i4), he, (leads_ren [] rfl rfl ⟨⟨rfl, rfl⟩, ⟨rfl, rfl⟩, ⟨rfl, rfl⟩, trivial⟩ ⟨.inl rfl, .inl rfl, ⟨⟨rfl, rfl⟩, trivial⟩, ⟨⟨rfl, rfl⟩, trivial⟩, ⟨⟨rfl, rfl⟩, trivial⟩, rfl, trivial⟩)⟩
    ·exact ⟨i4, ok_up he, (leads_ren [(10003000, 10002000), (10003001, 10002001)] rfl rfl ⟨⟨rfl, rfl⟩, ⟨rfl, rfl⟩, trivial⟩ ⟨.inl rfl, ⟨⟨rfl, rfl⟩, trivial⟩, ⟨⟨rfl, rfl⟩, trivial⟩, trivial⟩)⟩
  ·skip
   refine loop_model mixed tys_ok t_spec_UsedInputs (S := Int × (List Int)) (I := (fun (i, i1) => (envOf [(0, .c (.imm y2_ a0)), (1, .c (.imm y5_ a1)), (6, .c (.own 10000000 false)), (7, .c (.ptr 10000001 0)), (9, .c (.own 10000002 false)), (10, .c (.own 10000003 false)), (11, .c (.int .i64 i))], [(10000000, .sl 3 y0_ ([] : List Int) .shallow), (10000001, .rc [.own 10000004 false, .own 10000005 false]), (10000002, .sl 4 .bool ((List.replicate (r2_.2.1.length:Int).toNat false).set r3_.toNat true) .shallow), (10000003, .sl 3 y0_ i1 .shallow), (10000004, .sl 89 y2_ r2_.2.1 .shallow), (10000005, .sl 4 .bool r2_.2.2 .shallow)]))) (f := spec_UsedInputs_l3 a0 a1 r2_ r3_) (K := (fun r => k (.tup [.c (.own 900 false), .c (.bool r.1)]) [(900, .sl 3 y0_ r.2 .shallow)])) he (leads_ren [(10000000, 14), (10000001, 7), (10000002, 29), (10000003, 34), (10000004, 24901), (10000005, 24902)] rfl rfl ⟨⟨rfl, rfl⟩, ⟨⟨⟨rfl, rfl⟩, trivial⟩, ⟨⟨rfl, rfl⟩, trivial⟩, trivial⟩, ⟨rfl, rfl⟩, ⟨rfl, rfl⟩, ⟨rfl, rfl⟩, ⟨rfl, rfl⟩, trivial⟩ ⟨.inl rfl, .inl rfl, ⟨⟨rfl, rfl⟩, trivial⟩, ⟨⟨rfl, rfl⟩, rfl⟩, ⟨⟨rfl, rfl⟩, trivial⟩, ⟨⟨rfl, rfl⟩, trivial⟩, rfl, trivial⟩) ?_
   rintro ⟨i, i1⟩ J1 he
   refine go_if he (fun he => ?_) fun he => ?_
   ·refine go_rq he fun he => ?_
    refine go_if he (fun he => ?_) fun he => ?_
    ·refine go_rq he fun he => ?_
     refine go_rq he fun he => ?_
     have he := ok_some he
     exact ⟨((i + (1:Int)), (i1 ++ [i])), he, (leads_ren [(10000003, 50)] rfl rfl ⟨⟨rfl, rfl⟩, ⟨⟨⟨rfl, rfl⟩, trivial⟩, ⟨⟨rfl, rfl⟩, trivial⟩, trivial⟩, ⟨rfl, rfl⟩, ⟨rfl, rfl⟩, ⟨rfl, rfl⟩, ⟨rfl, rfl⟩, trivial⟩ ⟨.inl rfl, .inl rfl, ⟨⟨rfl, rfl⟩, trivial⟩, ⟨⟨rfl, rfl⟩, rfl⟩, ⟨⟨rfl, rfl⟩, trivial⟩, ⟨⟨rfl, rfl⟩, trivial⟩, rfl, trivial⟩)⟩
    ·refine go_rq he fun he => ?_
     have he := ok_some he
     exact ⟨((i + (1:Int)), i1), he, (leads_ren [] rfl rfl ⟨⟨rfl, rfl⟩, ⟨⟨⟨rfl, rfl⟩, trivial⟩, ⟨⟨rfl, rfl⟩, trivial⟩, trivial⟩, ⟨rfl, rfl⟩, ⟨rfl, rfl⟩, ⟨rfl, rfl⟩, ⟨rfl, rfl⟩, trivial⟩ ⟨.inl rfl, .inl rfl, ⟨⟨rfl, rfl⟩, trivial⟩, ⟨⟨rfl, rfl⟩, rfl⟩, ⟨⟨rfl, rfl⟩, trivial⟩, ⟨⟨rfl, rfl⟩, trivial⟩, rfl, trivial⟩)⟩
   ·exact ⟨i1, ok_up he, (leads_ren [(10001000, 10000000), (10001001, 10000001), (10001002, 10000002), (10001003, 10000003), (10001004, 10000004), (10001005, 10000005)] rfl rfl ⟨⟨rfl, rfl⟩, ⟨⟨⟨rfl, rfl⟩, trivial⟩, ⟨⟨rfl, rfl⟩, trivial⟩, trivial⟩, ⟨rfl, rfl⟩, ⟨rfl, rfl⟩, ⟨rfl, rfl⟩, ⟨rfl, rfl⟩, trivial⟩ ⟨.inl rfl, .inl rfl, ⟨⟨rfl, rfl⟩, trivial⟩, ⟨⟨rfl, rfl⟩, rfl⟩, ⟨⟨rfl, rfl⟩, trivial⟩, ⟨⟨rfl, rfl⟩, trivial⟩, trivial⟩)⟩

noncomputable def c_impl_within : Con := fun args st => match args, st with
  | [.c (.int .i64 n), .c (.int .i64 low), .c (.int .i64 high)], [] => .opt (Bool) (impl_within n low high) (fun r => .ret (.c (.bool r)) [])
  | _, _ => .fail

noncomputable def C_impl_within : Cfg := { y := tys, n := 15, h := 0, tab := [], cut := [], hand := [], good := [], deep := [], sched := [] }

theorem t_impl_within : TabOk Tryz.prog C_impl_within := tabOk_of (fun p h => by cases h)

theorem k_impl_within : Entry Tryz.prog 127 c_impl_within := by
 refine entry_by (C := C_impl_within) mixed tys_ok t_impl_within (fn := Tryz.f127) (c := bd Tryz.f127) (by kernel_rfl) (by kernel_rfl) (by kernel_rfl) (by kernel_rfl) ?_
 intro args st k he
 unfold c_impl_within at he
 split at he
 rotate_left
 ·exact he.elim
 rename_i n low high
 have he : Ok (impl_within n low high) (fun r => k (.c (.bool r)) []) := he
 refine ⟨rfl, rfl, ?_⟩
 refine go_if he (fun he => ?_) fun he => ?_
 ·have he := ok_some he
  exact ⟨rfl, _, _, Leads.refl _ _, he⟩
 ·have he := ok_some he
  exact ⟨rfl, _, _, Leads.refl _ _, he⟩

noncomputable def c_impl_isLiteral : Con := fun args st => match args, st with
  | [.c (.int .i64 l)], [] => .opt (Bool) (impl_isLiteral l) (fun r => .ret (.c (.bool r)) [])
  | _, _ => .fail

noncomputable def C_impl_isLiteral : Cfg := { y := tys, n := 9, h := 0, tab := [(127, c_impl_within)], cut := [], hand := [], good := [], deep := [], sched := [] }

theorem t_impl_isLiteral : TabOk Tryz.prog C_impl_isLiteral := by
  refine tabOk_of ?_
  simp only [C_impl_isLiteral, List.forall_mem_cons]
  exact ⟨k_impl_within, fun p h => by cases h⟩

theorem k_impl_isLiteral : Entry Tryz.prog 177 c_impl_isLiteral := by
 refine entry_by (C := C_impl_isLiteral) mixed tys_ok t_impl_isLiteral (fn := Tryz.f177) (c := bd Tryz.f177) (by kernel_rfl) (by kernel_rfl) (by kernel_rfl) (by kernel_rfl) ?_
 intro args st k he
 unfold c_impl_isLiteral at he
 split at he
 rotate_left
 ·exact he.elim
 rename_i l
 have he : Ok (impl_isLiteral l) (fun r => k (.c (.bool r)) []) := he
 refine ⟨rfl, rfl, ?_⟩
 refine go_if he (fun he => ?_) fun he => ?_
 ·refine go_bind he fun r1_ he => ?_
  have he := ok_some he
  exact ⟨rfl, _, _, Leads.refl _ _, he⟩
 ·have he := ok_some he
  exact ⟨rfl, _, _, Leads.refl _ _, he⟩

noncomputable def c_impl_variableOf : Con := fun args st => match args, st with
  | [.c (.int .i64 l)], [] => .opt (Int) (impl_variableOf l) (fun r => .ret (.c (.int .i64 r)) [])
  | _, _ => .fail

noncomputable def C_impl_variableOf : Cfg := { y := tys, n := 7, h := 0, tab := [], cut := [], hand := [], good := [], deep := [], sched := [] }

theorem t_impl_variableOf : TabOk Tryz.prog C_impl_variableOf := tabOk_of (fun p h => by cases h)

theorem k_impl_variableOf : Entry Tryz.prog 170 c_impl_variableOf := by
 refine entry_by (C := C_impl_variableOf) mixed tys_ok t_impl_variableOf (fn := Tryz.f170) (c := bd Tryz.f170) (by kernel_rfl) (by kernel_rfl) (by kernel_rfl) (by kernel_rfl) ?_
 intro args st k he
 unfold c_impl_variableOf at he
 split at he
 rotate_left
 ·exact he.elim
 rename_i l
 have he : Ok (impl_variableOf l) (fun r => k (.c (.int .i64 r)) []) := he
 refine ⟨rfl, rfl, ?_⟩
 refine go_rq he fun he => ?_
 have he := ok_some he
 exact ⟨rfl, _, _, Leads.refl _ _, he⟩

noncomputable def c_impl_ConstraintValid : Con := fun args st => match args, st with
  | [.agg [.imm (.pair (.int .i64) (.int .i64)) c__0, .int .i64 c__1]], [] => .opt (Bool) (impl_ConstraintValid (c__0, c__1)) (fun r => .ret (.c (.bool r)) [])
  | _, _ => .fail

noncomputable def C_impl_ConstraintValid : Cfg := { y := tys, n := 37, h := 0, tab := [(127, c_impl_within), (170, c_impl_variableOf), (177, c_impl_isLiteral)], cut := [], hand := [], good := [], deep := [], sched := [] }

theorem t_impl_ConstraintValid : TabOk Tryz.prog C_impl_ConstraintValid := by
  refine tabOk_of ?_
  simp only [C_impl_ConstraintValid, List.forall_mem_cons]
  exact ⟨k_impl_within, k_impl_variableOf, k_impl_isLiteral, fun p h => by cases h⟩

theorem k_impl_ConstraintValid : Entry Tryz.prog 223 c_impl_ConstraintValid := by
 refine entry_by (C := C_impl_ConstraintValid) mixed tys_ok t_impl_ConstraintValid (fn := Tryz.f223) (c := bd Tryz.f223) (by kernel_rfl) (by kernel_rfl) (by kernel_rfl) (by kernel_rfl) ?_
 intro args st k he
 unfold c_impl_ConstraintValid at he
 split at he
 rotate_left
 ·exact he.elim
 rename_i c__0 c__1
 have he : Ok (impl_ConstraintValid (c__0, c__1)) (fun r => k (.c (.bool r)) []) := he
 refine ⟨rfl, rfl, ?_⟩
 refine loop_model mixed tys_ok t_impl_ConstraintValid (S := Int × Int) (I := (fun (before, i) => (envOf [(1, .c (.ptr 10000000 0)), (3, .c (.int .i64 before)), (7, .c (.imm y1_ (c__0, c__1).1)), (8, .c (.int .i64 ((c__0, c__1).1.length:Int))), (9, .c (.int .i64 i))], [(10000000, .rc [.imm y1_ (c__0, c__1).1, .int .i64 (c__0, c__1).2])]))) (f := impl_ConstraintValid_l1 (c__0, c__1)) (K := (fun r => k (.c (.bool r)) [])) he (leads_ren [(10000000, 1)] rfl rfl ⟨⟨.inl rfl, rfl, trivial⟩, trivial⟩ ⟨⟨⟨rfl, rfl⟩, rfl⟩, rfl, .inl rfl, rfl, rfl, trivial⟩) ?_
 rintro ⟨before, i⟩ J1 he
 refine go_if he (fun he => ?_) fun he => ?_
 ·refine go_rq he fun he => ?_
  refine go_bind he fun r1_ he => ?_
  refine go_if2 he (fun he => ?_) fun he => ?_
  ·refine go_bind he fun r2_ he => ?_
   refine go_if2 he (fun he => ?_) fun he => ?_
   ·refine go_bind he fun r3_ he => ?_
    refine go_if he (fun he => ?_) fun he => ?_
    ·have he := ok_some he
     exact ⟨rfl, _, _, (leads_ren [] (l := [(2, .c (.bool false))]) (st' := []) rfl rfl trivial ⟨.inr rfl, trivial⟩), he⟩
    ·refine go_bind he fun r4_ he => ?_
     refine go_rq he fun he => ?_
     have he := ok_some he
     exact ⟨(r4_, (i + (1:Int))), he, (leads_ren [] rfl rfl ⟨⟨.inl rfl, rfl, trivial⟩, trivial⟩ ⟨⟨⟨rfl, rfl⟩, rfl⟩, rfl, .inl rfl, rfl, rfl, trivial⟩)⟩
   ·have he := ok_some he
    exact ⟨rfl, _, _, (leads_ren [] (l := [(2, .c (.bool false))]) (st' := []) rfl rfl trivial ⟨.inr rfl, trivial⟩), he⟩
  ·have he := ok_some he
   exact ⟨rfl, _, _, (leads_ren [] (l := [(2, .c (.bool false))]) (st' := []) rfl rfl trivial ⟨.inr rfl, trivial⟩), he⟩
 ·refine go_bind he fun r5_ he => ?_
  have he := ok_some he
  exact ⟨rfl, _, _, (leads_ren [] (l := [(2, .c (.bool r5_))]) (st' := []) rfl rfl trivial ⟨.inl rfl, trivial⟩), he⟩

noncomputable def c_impl_allValid_1 : Con := fun args st => match args, st with
  | [.agg [.imm (.pair (.int .i64) (.int .i64)) c__0, .int .i64 c__1]], [] => .opt (Bool) (impl_allValid_1 (c__0, c__1)) (fun r => .ret (.c (.bool r)) [])
  | _, _ => .fail

noncomputable def C_impl_allValid_1 : Cfg := { y := tys, n := 6, h := 0, tab := [(223, c_impl_ConstraintValid)], cut := [], hand := [], good := [], deep := [], sched := [] }

theorem t_impl_allValid_1 : TabOk Tryz.prog C_impl_allValid_1 := by
  refine tabOk_of ?_
  simp only [C_impl_allValid_1, List.forall_mem_cons]
  exact ⟨k_impl_ConstraintValid, fun p h => by cases h⟩

theorem k_impl_allValid_1 : Entry Tryz.prog 222 c_impl_allValid_1 := by
 refine entry_by (C := C_impl_allValid_1) mixed tys_ok t_impl_allValid_1 (fn := Tryz.f222) (c := bd Tryz.f222) (by kernel_rfl) (by kernel_rfl) (by kernel_rfl) (by kernel_rfl) ?_
 intro args st k he
 unfold c_impl_allValid_1 at he
 split at he
 rotate_left
 ·exact he.elim
 rename_i c__0 c__1
 have he : Ok (impl_allValid_1 (c__0, c__1)) (fun r => k (.c (.bool r)) []) := he
 refine ⟨rfl, rfl, ?_⟩
 refine go_bind he fun r1_ he => ?_
 have he := ok_some he
 exact ⟨rfl, _, _, (leads_ren [] (l := [(2, .c (.bool (!r1_)))]) (st' := []) rfl rfl trivial ⟨.inl rfl, trivial⟩), he⟩

noncomputable def c_slices_IndexFunc_impl_Constraint__impl_allValid_1 : Con := fun args st => match args, st with
  | [.c (.imm (.pair (.sl (.pair (.int .i64) (.int .i64))) (.int .i64)) s_), .c (.fn 222 [])], [] => .opt (Int) (slices_IndexFunc_impl_Constraint__impl_allValid_1 s_) (fun r => .ret (.c (.int .i64 r)) [])
  | _, _ => .fail

noncomputable def C_slices_IndexFunc_impl_Constraint__impl_allValid_1 : Cfg := { y := tys, n := 19, h := 0, tab := [(222, c_impl_allValid_1)], cut := [], hand := [], good := [], deep := [], sched := [] }

theorem t_slices_IndexFunc_impl_Constraint__impl_allValid_1 : TabOk Tryz.prog C_slices_IndexFunc_impl_Constraint__impl_allValid_1 := by
  refine tabOk_of ?_
  simp only [C_slices_IndexFunc_impl_Constraint__impl_allValid_1, List.forall_mem_cons]
  exact ⟨k_impl_allValid_1, fun p h => by cases h⟩

theorem k_slices_IndexFunc_impl_Constraint__impl_allValid_1 : Entry Tryz.prog 225 c_slices_IndexFunc_impl_Constraint__impl_allValid_1 := by
 refine entry_by (C := C_slices_IndexFunc_impl_Constraint__impl_allValid_1) mixed tys_ok t_slices_IndexFunc_impl_Constraint__impl_allValid_1 (fn := Tryz.f225) (c := bd Tryz.f225) (by kernel_rfl) (by kernel_rfl) (by kernel_rfl) (by kernel_rfl) ?_
 intro args st k he
 unfold c_slices_IndexFunc_impl_Constraint__impl_allValid_1 at he
 split at he
 rotate_left
 ·exact he.elim
 rename_i s_
 have he : Ok (slices_IndexFunc_impl_Constraint__impl_allValid_1 s_) (fun r => k (.c (.int .i64 r)) []) := he
 refine ⟨rfl, rfl, ?_⟩
 refine loop_model mixed tys_ok t_slices_IndexFunc_impl_Constraint__impl_allValid_1 (S := Int) (I := (fun i => (envOf [(0, .c (.imm y2_ s_)), (1, .c (.fn 222 [])), (7, .c (.int .i64 (s_.length:Int))), (8, .c (.int .i64 i))], []))) (f := slices_IndexFunc_impl_Constraint__impl_allValid_1_l1 s_) (K := (fun r => k (.c (.int .i64 r)) [])) he (leads_ren [] rfl rfl trivial ⟨.inl rfl, ⟨rfl, trivial⟩, rfl, rfl, trivial⟩) ?_
 rintro i J1 he
 refine go_if he (fun he => ?_) fun he => ?_
 ·refine go_rq he fun he => ?_
  refine go_bind he fun r1_ he => ?_
  refine go_if he (fun he => ?_) fun he => ?_
  ·have he := ok_some he
   exact ⟨rfl, _, _, Leads.refl _ _, he⟩
  ·refine go_rq he fun he => ?_
   have he := ok_some he
   exact ⟨(i + (1:Int)), he, (leads_ren [] rfl rfl trivial ⟨.inl rfl, ⟨rfl, trivial⟩, rfl, rfl, trivial⟩)⟩
 ·have he := ok_some he
  exact ⟨rfl, _, _, Leads.refl _ _, he⟩

noncomputable def c_slices_ContainsFunc_impl_Constraint__impl_allValid_1 : Con := fun args st => match args, st with
  | [.c (.imm (.pair (.sl (.pair (.int .i64) (.int .i64))) (.int .i64)) s_), .c (.fn 222 [])], [] => .opt (Bool) (slices_ContainsFunc_impl_Constraint__impl_allValid_1 s_) (fun r => .ret (.c (.bool r)) [])
  | _, _ => .fail

noncomputable def C_slices_ContainsFunc_impl_Constraint__impl_allValid_1 : Cfg := { y := tys, n := 9, h := 0, tab := [(225, c_slices_IndexFunc_impl_Constraint__impl_allValid_1)], cut := [], hand := [], good := [], deep := [], sched := [] }

theorem t_slices_ContainsFunc_impl_Constraint__impl_allValid_1 : TabOk Tryz.prog C_slices_ContainsFunc_impl_Constraint__impl_allValid_1 := by
  refine tabOk_of ?_
  simp only [C_slices_ContainsFunc_impl_Constraint__impl_allValid_1, List.forall_mem_cons]
  exact ⟨k_slices_IndexFunc_impl_Constraint__impl_allValid_1, fun p h => by cases h⟩

theorem k_slices_ContainsFunc_impl_Constraint__impl_allValid_1 : Entry Tryz.prog 161 c_slices_ContainsFunc_impl_Constraint__impl_allValid_1 := by
 refine entry_by (C := C_slices_ContainsFunc_impl_Constraint__impl_allValid_1) mixed tys_ok t_slices_ContainsFunc_impl_Constraint__impl_allValid_1 (fn := Tryz.f161) (c := bd Tryz.f161) (by kernel_rfl) (by kernel_rfl) (by kernel_rfl) (by kernel_rfl) ?_
 intro args st k he
 unfold c_slices_ContainsFunc_impl_Constraint__impl_allValid_1 at he
 split at he
 rotate_left
 ·exact he.elim
 rename_i s_
 have he : Ok (slices_ContainsFunc_impl_Constraint__impl_allValid_1 s_) (fun r => k (.c (.bool r)) []) := he
 refine ⟨rfl, rfl, ?_⟩
 refine go_bind he fun r1_ he => ?_
 have he := ok_some he
 exact ⟨rfl, _, _, Leads.refl _ _, he⟩

noncomputable def c_impl_allValid : Con := fun args st => match args, st with
  | [.c (.imm (.pair (.sl (.pair (.int .i64) (.int .i64))) (.int .i64)) list_)], [] => .opt (Bool) (impl_allValid list_) (fun r => .ret (.c (.bool r)) [])
  | _, _ => .fail

noncomputable def C_impl_allValid : Cfg := { y := tys, n := 6, h := 0, tab := [(161, c_slices_ContainsFunc_impl_Constraint__impl_allValid_1)], cut := [], hand := [], good := [], deep := [], sched := [] }

theorem t_impl_allValid : TabOk Tryz.prog C_impl_allValid := by
  refine tabOk_of ?_
  simp only [C_impl_allValid, List.forall_mem_cons]
  exact ⟨k_slices_ContainsFunc_impl_Constraint__impl_allValid_1, fun p h => by cases h⟩

theorem k_impl_allValid : Entry Tryz.prog 159 c_impl_allValid := by
 refine entry_by (C := C_impl_allValid) mixed tys_ok t_impl_allValid (fn := Tryz.f159) (c := bd Tryz.f159) (by kernel_rfl) (by kernel_rfl) (by kernel_rfl) (by kernel_rfl) ?_
 intro args st k he
 unfold c_impl_allValid at he
 split at he
 rotate_left
 ·exact he.elim
 rename_i list_
 have he : Ok (impl_allValid list_) (fun r => k (.c (.bool r)) []) := he
 refine ⟨rfl, rfl, ?_⟩
 refine go_bind he fun r1_ he => ?_
 have he := ok_some he
 exact ⟨rfl, _, _, Leads.refl _ _, he⟩

noncomputable def c_impl_ProblemValid : Con := fun args st => match args, st with
  | [.c (.imm (.pair (.sl (.pair (.int .i64) (.int .i64))) (.int .i64)) list_)], [] => .opt (Bool) (impl_ProblemValid list_) (fun r => .ret (.c (.bool r)) [])
  | _, _ => .fail

noncomputable def C_impl_ProblemValid : Cfg := { y := tys, n := 10, h := 0, tab := [(159, c_impl_allValid)], cut := [], hand := [], good := [], deep := [], sched := [] }

theorem t_impl_ProblemValid : TabOk Tryz.prog C_impl_ProblemValid := by
  refine tabOk_of ?_
  simp only [C_impl_ProblemValid, List.forall_mem_cons]
  exact ⟨k_impl_allValid, fun p h => by cases h⟩

theorem k_impl_ProblemValid : Entry Tryz.prog 98 c_impl_ProblemValid := by
 refine entry_by (C := C_impl_ProblemValid) mixed tys_ok t_impl_ProblemValid (fn := Tryz.f98) (c := bd Tryz.f98) (by kernel_rfl) (by kernel_rfl) (by kernel_rfl) (by kernel_rfl) ?_
 intro args st k he
 unfold c_impl_ProblemValid at he
 split at he
 rotate_left
 ·exact he.elim
 rename_i list_
 have he : Ok (impl_ProblemValid list_) (fun r => k (.c (.bool r)) []) := he
 refine ⟨rfl, rfl, ?_⟩
 refine go_if he (fun he => ?_) fun he => ?_
 ·refine go_bind he fun r1_ he => ?_
  have he := ok_some he
  exact ⟨rfl, _, _, Leads.refl _ _, he⟩
 ·have he := ok_some he
  exact ⟨rfl, _, _, Leads.refl _ _, he⟩

noncomputable def c_slices_Clone_impl_Constraint : Con := fun args st => match args, st with
  | [.c (.imm (.pair (.sl (.pair (.int .i64) (.int .i64))) (.int .i64)) s_)], [] => .opt ((List D2_)) (slices_Clone_impl_Constraint s_) (fun r => .ret (.c (.own 900 false)) [(900, .sl 89 y2_ r .shallow)])
  | _, _ => .fail

noncomputable def C_slices_Clone_impl_Constraint : Cfg := { y := tys, n := 8, h := 0, tab := [], cut := [], hand := [], good := [], deep := [], sched := [] }

theorem t_slices_Clone_impl_Constraint : TabOk Tryz.prog C_slices_Clone_impl_Constraint := tabOk_of (fun p h => by cases h)

theorem k_slices_Clone_impl_Constraint : Entry Tryz.prog 61 c_slices_Clone_impl_Constraint := by
 refine entry_by (C := C_slices_Clone_impl_Constraint) mixed tys_ok t_slices_Clone_impl_Constraint (fn := Tryz.f61) (c := bd Tryz.f61) (by kernel_rfl) (by kernel_rfl) (by kernel_rfl) (by kernel_rfl) ?_
 intro args st k he
 unfold c_slices_Clone_impl_Constraint at he
 split at he
 rotate_left
 ·exact he.elim
 rename_i s_
 have he : Ok (slices_Clone_impl_Constraint s_) (fun r => k (.c (.own 900 false)) [(900, .sl 89 y2_ r .shallow)]) := he
 refine ⟨rfl, rfl, ?_⟩
 refine fun b1_ hb1_ => ?_
 have he := ok_nt he hb1_
 refine And.intro (fun hb => ?_) (fun hb => ?_)
 ·have he := ok_t he hb
  have he := ok_some he
  exact ⟨rfl, _, _, (leads_ren [] (l := [(2, .c (.own 900 false))]) (st' := [(900, .sl 89 y2_ ([] : List D2_) .shallow)]) rfl rfl ⟨trivial, trivial⟩ ⟨⟨rfl, trivial⟩, trivial⟩), he⟩
 ·have he := ok_f he hb
  refine go_rq he fun he => ?_
  have he := ok_some he
  exact ⟨rfl, _, _, (leads_ren [(900, 7)] (l := [(2, .c (.own 900 false))]) (st' := [(900, .sl 89 y2_ (([] : List D2_) ++ s_) .shallow)]) rfl rfl ⟨⟨rfl, rfl⟩, trivial⟩ ⟨⟨⟨rfl, rfl⟩, trivial⟩, trivial⟩), he⟩

noncomputable def c_impl_refers : Con := fun args st => match args, st with
  | [.c (.int .i64 kind)], [] => .opt (Int × Bool) (impl_refers kind) (fun r => .ret (.tup [.c (.int .i64 r.1), .c (.bool r.2)]) [])
  | _, _ => .fail

noncomputable def C_impl_refers : Cfg := { y := tys, n := 17, h := 0, tab := [], cut := [], hand := [], good := [], deep := [], sched := [] }

theorem t_impl_refers : TabOk Tryz.prog C_impl_refers := tabOk_of (fun p h => by cases h)

theorem k_impl_refers : Entry Tryz.prog 155 c_impl_refers := by
 refine entry_by (C := C_impl_refers) mixed tys_ok t_impl_refers (fn := Tryz.f155) (c := bd Tryz.f155) (by kernel_rfl) (by kernel_rfl) (by kernel_rfl) (by kernel_rfl) ?_
 intro args st k he
 unfold c_impl_refers at he
 split at he
 rotate_left
 ·exact he.elim
 rename_i kind
 have he : Ok (impl_refers kind) (fun r => k (.tup [.c (.int .i64 r.1), .c (.bool r.2)]) []) := he
 refine ⟨rfl, rfl, ?_⟩
 refine go_if he (fun he => ?_) fun he => ?_
 ·have he := ok_some he
  exact ⟨rfl, _, _, Leads.refl _ _, he⟩
 ·refine go_if he (fun he => ?_) fun he => ?_
  ·have he := ok_some he
   exact ⟨rfl, _, _, Leads.refl _ _, he⟩
  ·refine go_if he (fun he => ?_) fun he => ?_
   ·have he := ok_some he
    exact ⟨rfl, _, _, Leads.refl _ _, he⟩
   ·refine go_if he (fun he => ?_) fun he => ?_
    ·have he := ok_some he
     exact ⟨rfl, _, _, Leads.refl _ _, he⟩
    ·refine go_if he (fun he => ?_) fun he => ?_
     ·have he := ok_some he
      exact ⟨rfl, _, _, Leads.refl _ _, he⟩
     ·refine go_if he (fun he => ?_) fun he => ?_
      ·have he := ok_some he
       exact ⟨rfl, _, _, Leads.refl _ _, he⟩
      ·refine go_if he (fun he => ?_) fun he => ?_
       ·have he := ok_some he
        exact ⟨rfl, _, _, Leads.refl _ _, he⟩
       ·refine go_if he (fun he => ?_) fun he => ?_
        ·have he := ok_some he
         exact ⟨rfl, _, _, Leads.refl _ _, he⟩
        ·have he := ok_some he
         exact ⟨rfl, _, _, Leads.refl _ _, he⟩

noncomputable def c_slices_Equal_impl_Term : Con := fun args st => match args, st with
  | [.c (.imm (.pair (.int .i64) (.int .i64)) s1_), .c (.imm (.pair (.int .i64) (.int .i64)) s2_)], [] => .opt (Bool) (slices_Equal_impl_Term s1_ s2_) (fun r => .ret (.c (.bool r)) [])
  | _, _ => .fail

noncomputable def C_slices_Equal_impl_Term : Cfg := { y := tys, n := 26, h := 0, tab := [], cut := [], hand := [], good := [], deep := [], sched := [] }

theorem t_slices_Equal_impl_Term : TabOk Tryz.prog C_slices_Equal_impl_Term := tabOk_of (fun p h => by cases h)

theorem k_slices_Equal_impl_Term : Entry Tryz.prog 137 c_slices_Equal_impl_Term := by
 refine entry_by (C := C_slices_Equal_impl_Term) mixed tys_ok t_slices_Equal_impl_Term (fn := Tryz.f137) (c := bd Tryz.f137) (by kernel_rfl) (by kernel_rfl) (by kernel_rfl) (by kernel_rfl) ?_
 intro args st k he
 unfold c_slices_Equal_impl_Term at he
 split at he
 rotate_left
 ·exact he.elim
 rename_i s1_ s2_
 have he : Ok (slices_Equal_impl_Term s1_ s2_) (fun r => k (.c (.bool r)) []) := he
 refine ⟨rfl, rfl, ?_⟩
 refine go_if he (fun he => ?_) fun he => ?_
 ·have he := ok_some he
  exact ⟨rfl, _, _, Leads.refl _ _, he⟩
 ·refine loop_model mixed tys_ok t_slices_Equal_impl_Term (S := Int) (I := (fun i => (envOf [(0, .c (.imm y1_ s1_)), (1, .c (.imm y1_ s2_)), (12, .c (.int .i64 (s1_.length:Int))), (13, .c (.int .i64 i))], []))) (f := slices_Equal_impl_Term_l1 s1_ s2_) (K := (fun r => k (.c (.bool r)) [])) he (leads_ren [] rfl rfl trivial ⟨.inl rfl, .inl rfl, rfl, rfl, trivial⟩) ?_
  rintro i J1 he
  refine go_if he (fun he => ?_) fun he => ?_
  ·refine And.intro (by kernel_rfl) ?_
   refine go_rq he fun he => ?_
   refine go_rq he fun he => ?_
   refine go_if he (fun he => ?_) fun he => ?_
   ·have he := ok_some he
    exact ⟨rfl, _, _, Leads.refl _ _, he⟩
   ·refine go_rq he fun he => ?_
    have he := ok_some he
    exact ⟨(i + (1:Int)), he, (leads_ren [] rfl rfl trivial ⟨.inl rfl, .inl rfl, rfl, rfl, trivial⟩)⟩
  ·have he := ok_some he
   exact ⟨rfl, _, _, Leads.refl _ _, he⟩

noncomputable def c_impl_ConstraintSame : Con := fun args st => match args, st with
  | [.agg [.imm (.pair (.int .i64) (.int .i64)) a_0, .int .i64 a_1], .agg [.imm (.pair (.int .i64) (.int .i64)) b_0, .int .i64 b_1]], [] => .opt (Bool) (impl_ConstraintSame (a_0, a_1) (b_0, b_1)) (fun r => .ret (.c (.bool r)) [])
  | _, _ => .fail

noncomputable def C_impl_ConstraintSame : Cfg := { y := tys, n := 17, h := 0, tab := [(137, c_slices_Equal_impl_Term)], cut := [], hand := [], good := [], deep := [], sched := [] }

theorem t_impl_ConstraintSame : TabOk Tryz.prog C_impl_ConstraintSame := by
  refine tabOk_of ?_
  simp only [C_impl_ConstraintSame, List.forall_mem_cons]
  exact ⟨k_slices_Equal_impl_Term, fun p h => by cases h⟩

theorem k_impl_ConstraintSame : Entry Tryz.prog 70 c_impl_ConstraintSame := by
 refine entry_by (C := C_impl_ConstraintSame) mixed tys_ok t_impl_ConstraintSame (fn := Tryz.f70) (c := bd Tryz.f70) (by kernel_rfl) (by kernel_rfl) (by kernel_rfl) (by kernel_rfl) ?_
 intro args st k he
 unfold c_impl_ConstraintSame at he
 split at he
 rotate_left
 ·exact he.elim
 rename_i a_0 a_1 b_0 b_1
 have he : Ok (impl_ConstraintSame (a_0, a_1) (b_0, b_1)) (fun r => k (.c (.bool r)) []) := he
 refine ⟨rfl, rfl, ?_⟩
 refine go_if he (fun he => ?_) fun he => ?_
 ·refine go_bind he fun r1_ he => ?_
  have he := ok_some he
  exact ⟨rfl, _, _, (leads_ren [] (l := [(4, .c (.bool r1_))]) (st' := []) rfl rfl trivial ⟨.inl rfl, trivial⟩), he⟩
 ·have he := ok_some he
  exact ⟨rfl, _, _, (leads_ren [] (l := [(4, .c (.bool false))]) (st' := []) rfl rfl trivial ⟨.inr rfl, trivial⟩), he⟩

noncomputable def c_impl_Step_shaped : Con := fun args st => match args, st with
  | [.agg [.int .i64 s__0, .int .i64 s__1, .int .i64 s__2, .imm (.pair (.int .i64) (.int .i64)) s__3, .int .i64 s__4]], [] => .opt (Bool) (impl_Step_shaped (s__0, (s__1, (s__2, (s__3, s__4))))) (fun r => .ret (.c (.bool r)) [])
  | _, _ => .fail

noncomputable def C_impl_Step_shaped : Cfg := { y := tys, n := 50, h := 0, tab := [(70, c_impl_ConstraintSame), (155, c_impl_refers)], cut := [], hand := [], good := [], deep := [], sched := [] }

theorem t_impl_Step_shaped : TabOk Tryz.prog C_impl_Step_shaped := by
  refine tabOk_of ?_
  simp only [C_impl_Step_shaped, List.forall_mem_cons]
  exact ⟨k_impl_ConstraintSame, k_impl_refers, fun p h => by cases h⟩

theorem k_impl_Step_shaped : Entry Tryz.prog 259 c_impl_Step_shaped := by
 refine entry_by (C := C_impl_Step_shaped) mixed tys_ok t_impl_Step_shaped (fn := Tryz.f259) (c := bd Tryz.f259) (by kernel_rfl) (by kernel_rfl) (by kernel_rfl) (by kernel_rfl) ?_
 intro args st k he
 unfold c_impl_Step_shaped at he
 split at he
 rotate_left
 ·exact he.elim
 rename_i s__0 s__1 s__2 s__3 s__4
 have he : Ok (impl_Step_shaped (s__0, (s__1, (s__2, (s__3, s__4))))) (fun r => k (.c (.bool r)) []) := he
 refine ⟨rfl, rfl, ?_⟩
 refine go_bind he fun r1_ he => ?_
 refine go_if he (fun he => ?_) fun he => ?_
 ·refine go_if2 he (fun he => ?_) fun he => ?_
  ·refine go_if2 he (fun he => ?_) fun he => ?_
   ·refine go_if he (fun he => ?_) fun he => ?_
    ·refine go_if2 he (fun he => ?_) fun he => ?_
     ·refine go_if2 he (fun he => ?_) fun he => ?_
      ·refine go_if he (fun he => ?_) fun he => ?_
       ·refine go_if2 he (fun he => ?_) fun he => ?_
        ·refine go_bind he fun r2_ he => ?_
         have he := ok_some he
         exact ⟨rfl, _, _, (leads_ren [] (l := [(2, .c (.bool r2_))]) (st' := []) rfl rfl trivial ⟨.inl rfl, trivial⟩), he⟩
        ·have he := ok_some he
         exact ⟨rfl, _, _, (leads_ren [] (l := [(2, .c (.bool true))]) (st' := []) rfl rfl trivial ⟨.inr rfl, trivial⟩), he⟩
       ·have he := ok_some he
        exact ⟨rfl, _, _, (leads_ren [] (l := [(2, .c (.bool false))]) (st' := []) rfl rfl trivial ⟨.inr rfl, trivial⟩), he⟩
      ·refine go_if2 he (fun he => ?_) fun he => ?_
       ·refine go_bind he fun r3_ he => ?_
        have he := ok_some he
        exact ⟨rfl, _, _, (leads_ren [] (l := [(2, .c (.bool r3_))]) (st' := []) rfl rfl trivial ⟨.inl rfl, trivial⟩), he⟩
       ·have he := ok_some he
        exact ⟨rfl, _, _, (leads_ren [] (l := [(2, .c (.bool true))]) (st' := []) rfl rfl trivial ⟨.inr rfl, trivial⟩), he⟩
     ·refine go_if2 he (fun he => ?_) fun he => ?_
      ·refine go_bind he fun r4_ he => ?_
       have he := ok_some he
       exact ⟨rfl, _, _, (leads_ren [] (l := [(2, .c (.bool r4_))]) (st' := []) rfl rfl trivial ⟨.inl rfl, trivial⟩), he⟩
      ·have he := ok_some he
       exact ⟨rfl, _, _, (leads_ren [] (l := [(2, .c (.bool true))]) (st' := []) rfl rfl trivial ⟨.inr rfl, trivial⟩), he⟩
    ·have he := ok_some he
     exact ⟨rfl, _, _, (leads_ren [] (l := [(2, .c (.bool false))]) (st' := []) rfl rfl trivial ⟨.inr rfl, trivial⟩), he⟩
   ·refine go_if2 he (fun he => ?_) fun he => ?_
    ·refine go_if2 he (fun he => ?_) fun he => ?_
     ·refine go_if he (fun he => ?_) fun he => ?_
      ·refine go_if2 he (fun he => ?_) fun he => ?_
       ·refine go_bind he fun r5_ he => ?_
        have he := ok_some he
        exact ⟨rfl, _, _, (leads_ren [] (l := [(2, .c (.bool r5_))]) (st' := []) rfl rfl trivial ⟨.inl rfl, trivial⟩), he⟩
       ·have he := ok_some he
        exact ⟨rfl, _, _, (leads_ren [] (l := [(2, .c (.bool true))]) (st' := []) rfl rfl trivial ⟨.inr rfl, trivial⟩), he⟩
      ·have he := ok_some he
       exact ⟨rfl, _, _, (leads_ren [] (l := [(2, .c (.bool false))]) (st' := []) rfl rfl trivial ⟨.inr rfl, trivial⟩), he⟩
     ·refine go_if2 he (fun he => ?_) fun he => ?_
      ·refine go_bind he fun r6_ he => ?_
       have he := ok_some he
       exact ⟨rfl, _, _, (leads_ren [] (l := [(2, .c (.bool r6_))]) (st' := []) rfl rfl trivial ⟨.inl rfl, trivial⟩), he⟩
      ·have he := ok_some he
       exact ⟨rfl, _, _, (leads_ren [] (l := [(2, .c (.bool true))]) (st' := []) rfl rfl trivial ⟨.inr rfl, trivial⟩), he⟩
    ·refine go_if2 he (fun he => ?_) fun he => ?_
     ·refine go_bind he fun r7_ he => ?_
      have he := ok_some he
      exact ⟨rfl, _, _, (leads_ren [] (l := [(2, .c (.bool r7_))]) (st' := []) rfl rfl trivial ⟨.inl rfl, trivial⟩), he⟩
     ·have he := ok_some he
      exact ⟨rfl, _, _, (leads_ren [] (l := [(2, .c (.bool true))]) (st' := []) rfl rfl trivial ⟨.inr rfl, trivial⟩), he⟩
  ·refine go_if2 he (fun he => ?_) fun he => ?_
   ·refine go_if2 he (fun he => ?_) fun he => ?_
    ·refine go_if he (fun he => ?_) fun he => ?_
     ·refine go_if2 he (fun he => ?_) fun he => ?_
      ·refine go_bind he fun r8_ he => ?_
       have he := ok_some he
       exact ⟨rfl, _, _, (leads_ren [] (l := [(2, .c (.bool r8_))]) (st' := []) rfl rfl trivial ⟨.inl rfl, trivial⟩), he⟩
      ·have he := ok_some he
       exact ⟨rfl, _, _, (leads_ren [] (l := [(2, .c (.bool true))]) (st' := []) rfl rfl trivial ⟨.inr rfl, trivial⟩), he⟩
     ·have he := ok_some he
      exact ⟨rfl, _, _, (leads_ren [] (l := [(2, .c (.bool false))]) (st' := []) rfl rfl trivial ⟨.inr rfl, trivial⟩), he⟩
    ·refine go_if2 he (fun he => ?_) fun he => ?_
     ·refine go_bind he fun r9_ he => ?_
      have he := ok_some he
      exact ⟨rfl, _, _, (leads_ren [] (l := [(2, .c (.bool r9_))]) (st' := []) rfl rfl trivial ⟨.inl rfl, trivial⟩), he⟩
     ·have he := ok_some he
      exact ⟨rfl, _, _, (leads_ren [] (l := [(2, .c (.bool true))]) (st' := []) rfl rfl trivial ⟨.inr rfl, trivial⟩), he⟩
   ·refine go_if2 he (fun he => ?_) fun he => ?_
    ·refine go_bind he fun r10_ he => ?_
     have he := ok_some he
     exact ⟨rfl, _, _, (leads_ren [] (l := [(2, .c (.bool r10_))]) (st' := []) rfl rfl trivial ⟨.inl rfl, trivial⟩), he⟩
    ·have he := ok_some he
     exact ⟨rfl, _, _, (leads_ren [] (l := [(2, .c (.bool true))]) (st' := []) rfl rfl trivial ⟨.inr rfl, trivial⟩), he⟩
 ·have he := ok_some he
  exact ⟨rfl, _, _, (leads_ren [] (l := [(2, .c (.bool false))]) (st' := []) rfl rfl trivial ⟨.inr rfl, trivial⟩), he⟩

noncomputable def c_impl_running_has__Rss : Con := fun args st => match args, st with
  | [.c (.ptr 0 0), .c (.int .i64 i)], [(0, .rc [.own 1 false, .own 2 false]), (1, .sl 89 (.pair (.sl (.pair (.int .i64) (.int .i64))) (.int .i64)) o1 .shallow), (2, .sl 4 .bool o2 .shallow)] => .opt (Bool) (impl_running_has__Rss i o1 o2) (fun r => .ret (.c (.bool r)) [(0, .rc [.own 1 false, .own 2 false]), (1, .sl 89 y2_ o1 .shallow), (2, .sl 4 .bool o2 .shallow)])
  | _, _ => .fail

noncomputable def C_impl_running_has__Rss : Cfg := { y := tys, n := 23, h := 3, tab := [(127, c_impl_within)], cut := [], hand := [], good := [], deep := [], sched := [] }

theorem t_impl_running_has__Rss : TabOk Tryz.prog C_impl_running_has__Rss := by
  refine tabOk_of ?_
  simp only [C_impl_running_has__Rss, List.forall_mem_cons]
  exact ⟨k_impl_within, fun p h => by cases h⟩

theorem k_impl_running_has__Rss : Entry Tryz.prog 260 c_impl_running_has__Rss := by
 refine entry_by (C := C_impl_running_has__Rss) mixed tys_ok t_impl_running_has__Rss (fn := Tryz.f260) (c := bd Tryz.f260) (by kernel_rfl) (by kernel_rfl) (by kernel_rfl) (by kernel_rfl) ?_
 intro args st k he
 unfold c_impl_running_has__Rss at he
 split at he
 rotate_left
 ·exact he.elim
 rename_i i o1 o2
 have he : Ok (impl_running_has__Rss i o1 o2) (fun r => k (.c (.bool r)) [(0, .rc [.own 1 false, .own 2 false]), (1, .sl 89 y2_ o1 .shallow), (2, .sl 4 .bool o2 .shallow)]) := he
 refine ⟨rfl, rfl, ?_⟩
 refine go_rq he fun he => ?_
 refine go_bind he fun r1_ he => ?_
 refine go_if he (fun he => ?_) fun he => ?_
 ·refine go_rq he fun he => ?_
  have he := ok_some he
  exact ⟨rfl, _, _, (leads_ren [] (l := [(4, .c (.bool (!(o2.getD i.toNat false))))]) (st' := [(0, .rc [.own 1 false, .own 2 false]), (1, .sl 89 y2_ o1 .shallow), (2, .sl 4 .bool o2 .shallow)]) rfl rfl ⟨⟨⟨⟨rfl, rfl⟩, trivial⟩, ⟨⟨rfl, rfl⟩, trivial⟩, trivial⟩, ⟨rfl, rfl⟩, ⟨rfl, rfl⟩, trivial⟩ ⟨.inl rfl, trivial⟩), he⟩
 ·have he := ok_some he
  exact ⟨rfl, _, _, (leads_ren [] (l := [(4, .c (.bool false))]) (st' := [(0, .rc [.own 1 false, .own 2 false]), (1, .sl 89 y2_ o1 .shallow), (2, .sl 4 .bool o2 .shallow)]) rfl rfl ⟨⟨⟨⟨rfl, rfl⟩, trivial⟩, ⟨⟨rfl, rfl⟩, trivial⟩, trivial⟩, ⟨rfl, rfl⟩, ⟨rfl, rfl⟩, trivial⟩ ⟨.inr rfl, trivial⟩), he⟩

end Go.AE.Y
