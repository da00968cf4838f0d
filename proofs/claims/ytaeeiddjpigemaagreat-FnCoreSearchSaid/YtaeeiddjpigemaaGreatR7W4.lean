/-
  Walks: each function keeps the contract that its model gives. No conditions.
-/
import Derived.Test.YtaeeiddjpigemaaGreatR7Tab
import Derived.Test.YtaeeiddjpigemaaGreatR7W3
import Derived.Test.YtaeeiddjpigemaaGreatR7S
namespace Go.AE.Y
open Go Go.AE Go.Proofs
set_option linter.unusedVariables false
set_option maxHeartbeats 2000000
set_option maxRecDepth 100000

noncomputable def c_slices_Clone_impl_Constraint : Con := fun args st => match args, st with
  | [.c (.imm (.pair (.sl (.pair (.int .i64) (.int .i64))) (.int .i64)) s_)], [] => .opt ((List D3_)) (slices_Clone_impl_Constraint s_) (fun r => .ret (.c (.own 900 false)) [(900, .sl 89 y3_ r .shallow)])
  | _, _ => .fail

noncomputable def C_slices_Clone_impl_Constraint : Cfg := { y := tys, n := 8, h := 0, tab := [], cut := [], hand := [], good := [], deep := [], sched := [] }

theorem t_slices_Clone_impl_Constraint : TabOk Tryz.prog C_slices_Clone_impl_Constraint := tabOk_of (fun p h => by cases h)

theorem k_slices_Clone_impl_Constraint : Entry Tryz.prog 61 c_slices_Clone_impl_Constraint := by
 refine entry_by (C := C_slices_Clone_impl_Constraint) mixed tys_ok t_slices_Clone_impl_Constraint (fn := Tryz.f61) (c := bd Tryz.f61) (by kernel_rfl) (by kernel_rfl) (by kernel_rfl) (by kernel_rfl) ?_
 intro args st k he
 unfold c_slices_Clone_impl_Constraint at he
 split at he
 rotate_left
 ·exact he.elim
 rename_i s_
 have he : Ok (slices_Clone_impl_Constraint s_) (fun r => k (.c (.own 900 false)) [(900, .sl 89 y3_ r .shallow)]) := he
 refine ⟨rfl, rfl, ?_⟩
 refine fun b1_ hb1_ => ?_
 have he := ok_nt he hb1_
 refine And.intro (fun hb => ?_) (fun hb => ?_)
 ·have he := ok_t he hb
  have he := ok_some he
  exact ⟨rfl, _, _, (leads_ren [] (l := [(2, .c (.own 900 false))]) (st' := [(900, .sl 89 y3_ ([] : List D3_) .shallow)]) rfl rfl ⟨trivial, trivial⟩ ⟨⟨rfl, trivial⟩, trivial⟩), he⟩
 ·have he := ok_f he hb
  refine go_rq he fun he => ?_
  have he := ok_some he
  exact ⟨rfl, _, _, (leads_ren [(900, 7)] (l := [(2, .c (.own 900 false))]) (st' := [(900, .sl 89 y3_ (([] : List D3_) ++ s_) .shallow)]) rfl rfl ⟨⟨rfl, rfl⟩, trivial⟩ ⟨⟨⟨rfl, rfl⟩, trivial⟩, trivial⟩), he⟩

noncomputable def c_impl_under : Con := fun args st => match args, st with
  | [.c (.int .i64 l), .c (.imm (.int .i64) p)], [] => .opt (Int) (impl_under l p) (fun r => .ret (.c (.int .i64 r)) [])
  | _, _ => .fail

noncomputable def C_impl_under : Cfg := { y := tys, n := 19, h := 0, tab := [], cut := [], hand := [], good := [], deep := [], sched := [] }

theorem t_impl_under : TabOk Tryz.prog C_impl_under := tabOk_of (fun p h => by cases h)

theorem k_impl_under : Entry Tryz.prog 258 c_impl_under := by
 refine entry_by (C := C_impl_under) mixed tys_ok t_impl_under (fn := Tryz.f258) (c := bd Tryz.f258) (by kernel_rfl) (by kernel_rfl) (by kernel_rfl) (by kernel_rfl) ?_
 intro args st k he
 unfold c_impl_under at he
 split at he
 rotate_left
 ·exact he.elim
 rename_i l p
 have he : Ok (impl_under l p) (fun r => k (.c (.int .i64 r)) []) := he
 refine ⟨rfl, rfl, ?_⟩
 refine go_if he (fun he => ?_) fun he => ?_
 ·refine go_rq he fun he => ?_
  refine go_rq he fun he => ?_
  refine go_rq he fun he => ?_
  refine go_rq he fun he => ?_
  have he := ok_some he
  exact ⟨rfl, _, _, Leads.refl _ _, he⟩
 ·refine go_rq he fun he => ?_
  refine go_rq he fun he => ?_
  have he := ok_some he
  exact ⟨rfl, _, _, Leads.refl _ _, he⟩

noncomputable def c_impl_Constraint_slack : Con := fun args st => match args, st with
  | [.agg [.imm (.pair (.int .i64) (.int .i64)) c__0, .int .i64 c__1], .c (.imm (.int .i64) p)], [] => .opt (Int) (impl_Constraint_slack (c__0, c__1) p) (fun r => .ret (.c (.int .i64 r)) [])
  | _, _ => .fail

noncomputable def C_impl_Constraint_slack : Cfg := { y := tys, n := 29, h := 0, tab := [(258, c_impl_under)], cut := [], hand := [], good := [], deep := [], sched := [] }

theorem t_impl_Constraint_slack : TabOk Tryz.prog C_impl_Constraint_slack := by
  refine tabOk_of ?_
  simp only [C_impl_Constraint_slack, List.forall_mem_cons]
  exact ⟨k_impl_under, fun p h => by cases h⟩

theorem k_impl_Constraint_slack : Entry Tryz.prog 233 c_impl_Constraint_slack := by
 refine entry_by (C := C_impl_Constraint_slack) mixed tys_ok t_impl_Constraint_slack (fn := Tryz.f233) (c := bd Tryz.f233) (by kernel_rfl) (by kernel_rfl) (by kernel_rfl) (by kernel_rfl) ?_
 intro args st k he
 unfold c_impl_Constraint_slack at he
 split at he
 rotate_left
 ·exact he.elim
 rename_i c__0 c__1 p
 have he : Ok (impl_Constraint_slack (c__0, c__1) p) (fun r => k (.c (.int .i64 r)) []) := he
 refine ⟨rfl, rfl, ?_⟩
 refine go_rq he fun he => ?_
 refine loop_model mixed tys_ok t_impl_Constraint_slack (S := Int × Int) (I := (fun (out, i) => (envOf [(1, .c (.imm y0_ p)), (5, .c (.int .i64 out)), (12, .c (.imm y2_ (c__0, c__1).1)), (13, .c (.int .i64 ((c__0, c__1).1.length:Int))), (14, .c (.int .i64 i))], []))) (f := impl_Constraint_slack_l1 (c__0, c__1) p) (K := (fun r => k (.c (.int .i64 r)) [])) he (leads_ren [] rfl rfl trivial ⟨.inl rfl, rfl, .inl rfl, rfl, rfl, trivial⟩) ?_
 rintro ⟨out, i⟩ J1 he
 refine go_if he (fun he => ?_) fun he => ?_
 ·refine go_rq he fun he => ?_
  refine go_bind he fun r1_ he => ?_
  refine go_if he (fun he => ?_) fun he => ?_
  ·refine go_rq he fun he => ?_
   refine go_rq he fun he => ?_
   have he := ok_some he
   exact ⟨((out + ((c__0, c__1).1.getD i.toNat (0, 0)).1), (i + (1:Int))), he, (leads_ren [] rfl rfl trivial ⟨.inl rfl, rfl, .inl rfl, rfl, rfl, trivial⟩)⟩
  ·refine go_rq he fun he => ?_
   have he := ok_some he
   exact ⟨(out, (i + (1:Int))), he, (leads_ren [] rfl rfl trivial ⟨.inl rfl, rfl, .inl rfl, rfl, rfl, trivial⟩)⟩
 ·have he := ok_some he
  exact ⟨rfl, _, _, Leads.refl _ _, he⟩

noncomputable def c_impl_Constraint_implied : Con := fun args st => match args, st with
  | [.agg [.imm (.pair (.int .i64) (.int .i64)) c__0, .int .i64 c__1], .c (.imm (.int .i64) p)], [] => .opt ((List Int)) (impl_Constraint_implied (c__0, c__1) p) (fun r => .ret (.c (.own 900 false)) [(900, .sl 3 y0_ r .shallow)])
  | _, _ => .fail

noncomputable def C_impl_Constraint_implied : Cfg := { y := tys, n := 37, h := 0, tab := [(233, c_impl_Constraint_slack), (258, c_impl_under)], cut := [], hand := [], good := [], deep := [], sched := [] }

theorem t_impl_Constraint_implied : TabOk Tryz.prog C_impl_Constraint_implied := by
  refine tabOk_of ?_
  simp only [C_impl_Constraint_implied, List.forall_mem_cons]
  exact ⟨k_impl_Constraint_slack, k_impl_under, fun p h => by cases h⟩

theorem k_impl_Constraint_implied : Entry Tryz.prog 234 c_impl_Constraint_implied := by
 refine entry_by (C := C_impl_Constraint_implied) mixed tys_ok t_impl_Constraint_implied (fn := Tryz.f234) (c := bd Tryz.f234) (by kernel_rfl) (by kernel_rfl) (by kernel_rfl) (by kernel_rfl) ?_
 intro args st k he
 unfold c_impl_Constraint_implied at he
 split at he
 rotate_left
 ·exact he.elim
 rename_i c__0 c__1 p
 have he : Ok (impl_Constraint_implied (c__0, c__1) p) (fun r => k (.c (.own 900 false)) [(900, .sl 3 y0_ r .shallow)]) := he
 refine ⟨rfl, rfl, ?_⟩
 refine go_bind he fun r1_ he => ?_
 refine loop_model mixed tys_ok t_impl_Constraint_implied (S := Int × (List Int)) (I := (fun (i, out) => (envOf [(1, .c (.imm y0_ p)), (5, .c (.int .i64 r1_)), (6, .c (.own 10000000 false)), (13, .c (.imm y2_ (c__0, c__1).1)), (14, .c (.int .i64 ((c__0, c__1).1.length:Int))), (15, .c (.int .i64 i))], [(10000000, .sl 3 y0_ out .shallow)]))) (f := impl_Constraint_implied_l1 (c__0, c__1) p r1_) (K := (fun r => k (.c (.own 900 false)) [(900, .sl 3 y0_ r .shallow)])) he (leads_ren [] rfl rfl ⟨trivial, trivial⟩ ⟨.inl rfl, rfl, ⟨rfl, trivial⟩, .inl rfl, rfl, rfl, trivial⟩) ?_
 rintro ⟨i, out⟩ J1 he
 refine go_if he (fun he => ?_) fun he => ?_
 ·refine go_rq he fun he => ?_
  refine go_bind he fun r3_ he => ?_
  refine go_if he (fun he => ?_) fun he => ?_
  ·refine go_if he (fun he => ?_) fun he => ?_
   ·refine go_rq he fun he => ?_
    refine go_rq he fun he => ?_
    have he := ok_some he
    exact ⟨((i + (1:Int)), (out ++ [((c__0, c__1).1.getD i.toNat (0, 0)).2])), he, (leads_ren [(10000000, 34)] rfl rfl ⟨⟨rfl, rfl⟩, trivial⟩ ⟨.inl rfl, rfl, ⟨⟨rfl, rfl⟩, trivial⟩, .inl rfl, rfl, rfl, trivial⟩)⟩
   ·refine go_rq he fun he => ?_
    have he := ok_some he
    exact ⟨((i + (1:Int)), out), he, (leads_ren [] rfl rfl ⟨⟨rfl, rfl⟩, trivial⟩ ⟨.inl rfl, rfl, ⟨⟨rfl, rfl⟩, trivial⟩, .inl rfl, rfl, rfl, trivial⟩)⟩
  ·refine go_rq he fun he => ?_
   have he := ok_some he
   exact ⟨((i + (1:Int)), out), he, (leads_ren [] rfl rfl ⟨⟨rfl, rfl⟩, trivial⟩ ⟨.inl rfl, rfl, ⟨⟨rfl, rfl⟩, trivial⟩, .inl rfl, rfl, rfl, trivial⟩)⟩
 ·have he := ok_some he
  exact ⟨rfl, _, _, (leads_ren [(900, 10000000)] (l := [(4, .c (.own 900 false))]) (st' := [(900, .sl 3 y0_ out .shallow)]) rfl rfl ⟨⟨rfl, rfl⟩, trivial⟩ ⟨⟨⟨rfl, rfl⟩, trivial⟩, trivial⟩), he⟩

noncomputable def c_impl_propagate : Con := fun args st => match args, st with
  | [.c (.imm (.pair (.sl (.pair (.int .i64) (.int .i64))) (.int .i64)) list_), .c (.imm (.int .i64) p)], [] => .opt (Int × (List Int)) (impl_propagate list_ p) (fun r => .ret (.tup [.c (.own 900 false), .c (.int .i64 r.1)]) [(900, .sl 3 y0_ r.2 .shallow)])
  | _, _ => .fail

noncomputable def C_impl_propagate : Cfg := { y := tys, n := 50, h := 0, tab := [(75, c_slices_Clone_int), (233, c_impl_Constraint_slack), (234, c_impl_Constraint_implied)], cut := [], hand := [], good := [], deep := [], sched := [] }

theorem t_impl_propagate : TabOk Tryz.prog C_impl_propagate := by
  refine tabOk_of ?_
  simp only [C_impl_propagate, List.forall_mem_cons]
  exact ⟨k_slices_Clone_int, k_impl_Constraint_slack, k_impl_Constraint_implied, fun p h => by cases h⟩

theorem k_impl_propagate : Entry Tryz.prog 171 c_impl_propagate := by
 refine entry_by (C := C_impl_propagate) mixed tys_ok t_impl_propagate (fn := Tryz.f171) (c := bd Tryz.f171) (by kernel_rfl) (by kernel_rfl) (by kernel_rfl) (by kernel_rfl) ?_
 intro args st k he
 unfold c_impl_propagate at he
 split at he
 rotate_left
 ·exact he.elim
 rename_i list_ p
 have he : Ok (impl_propagate list_ p) (fun r => k (.tup [.c (.own 900 false), .c (.int .i64 r.1)]) [(900, .sl 3 y0_ r.2 .shallow)]) := he
 refine ⟨rfl, rfl, ?_⟩
 refine go_bind he fun r1_ he => ?_
 refine loop_model mixed tys_ok t_impl_propagate (S := Bool × (List Int)) (I := (fun (made, out3) => (envOf [(0, .c (.imm y3_ list_)), (6, .c (.own 10000000 false)), (7, .c (.bool made))], [(10000000, .sl 3 y0_ out3 .shallow)]))) (f := impl_propagate_l1 list_) (K := (fun r => k (.tup [.c (.own 900 false), .c (.int .i64 r.1)]) [(900, .sl 3 y0_ r.2 .shallow)])) he (leads_ren [(10000000, 14900)] rfl rfl ⟨⟨rfl, rfl⟩, trivial⟩ ⟨.inl rfl, ⟨⟨rfl, rfl⟩, trivial⟩, .inr rfl, trivial⟩) ?_
 rintro ⟨made, out3⟩ J1 he
 refine go_if he (fun he => ?_) fun he => ?_
 ·refine loop_model mixed tys_ok t_impl_propagate (S := Bool × Int × (List Int)) (I := (fun (made4, i3, out5) => (envOf [(0, .c (.imm y3_ list_)), (6, .c (.own 10004000 false)), (7, .c (.bool made4)), (15, .c (.imm y3_ list_)), (16, .c (.int .i64 (list_.length:Int))), (17, .c (.int .i64 i3))], [(10004000, .sl 3 y0_ out5 .shallow)]))) (f := impl_propagate_l2 list_) (K := (LK J1 (fun r => k (.tup [.c (.own 900 false), .c (.int .i64 r.1)]) [(900, .sl 3 y0_ r.2 .shallow)]))) he (leads_ren [(10004000, 10000000)] rfl rfl ⟨⟨rfl, rfl⟩, trivial⟩ ⟨.inl rfl, ⟨⟨rfl, rfl⟩, trivial⟩, .inr rfl, .inl rfl, rfl, rfl, trivial⟩) ?_
  rintro ⟨made4, i3, out5⟩ J2 he
  refine go_if he (fun he => ?_) fun he => ?_
  ·refine go_rq he fun he => ?_
   refine go_bind he fun r8_ he => ?_
   refine go_if he (fun he => ?_) fun he => ?_
   ·have he := ok_some he
    exact ⟨rfl, _, _, (leads_ren [(900, 10004000)] (l := [(4, .c (.own 900 false)), (5, .c (.int .i64 i3))]) (st' := [(900, .sl 3 y0_ out5 .shallow)]) rfl rfl ⟨⟨rfl, rfl⟩, trivial⟩ ⟨⟨⟨rfl, rfl⟩, trivial⟩, rfl, trivial⟩), he⟩
   ·refine go_bind he fun r9_ he => ?_
    refine loop_model mixed tys_ok t_impl_propagate (S := Bool × Int × (List Int)) (I := (fun (made6, i5, out6) => (envOf [(0, .c (.imm y3_ list_)), (6, .c (.own 10006000 false)), (7, .c (.bool made6)), (15, .c (.imm y3_ list_)), (16, .c (.int .i64 (list_.length:Int))), (17, .c (.int .i64 i3)), (30, .c (.own 10006001 false)), (31, .c (.int .i64 (r9_.length:Int))), (32, .c (.int .i64 i5))], [(10006000, .sl 3 y0_ out6 .shallow), (10006001, .sl 3 y0_ r9_ .shallow)]))) (f := impl_propagate_l3 i3 r9_) (K := (LK J2 (LK J1 (fun r => k (.tup [.c (.own 900 false), .c (.int .i64 r.1)]) [(900, .sl 3 y0_ r.2 .shallow)])))) he (leads_ren [(10006000, 10004000), (10006001, 31900)] rfl rfl ⟨⟨rfl, rfl⟩, ⟨rfl, rfl⟩, trivial⟩ ⟨.inl rfl, ⟨⟨rfl, rfl⟩, trivial⟩, .inl rfl, .inl rfl, rfl, rfl, ⟨⟨rfl, rfl⟩, trivial⟩, rfl, rfl, trivial⟩) ?_
    rintro ⟨made6, i5, out6⟩ J3 he
    refine go_if he (fun he => ?_) fun he => ?_
    ·refine go_rq he fun he => ?_
     refine go_if he (fun he => ?_) fun he => ?_
     ·refine go_rq he fun he => ?_
      refine go_rq he fun he => ?_
      refine go_rq he fun he => ?_
      have he := ok_some he
      exact ⟨(true, (i5 + (1:Int)), (out6.set ((r9_.getD i5.toNat 0) - (1:Int)).toNat (1:Int))), he, (leads_ren [] rfl rfl ⟨⟨rfl, rfl⟩, ⟨rfl, rfl⟩, trivial⟩ ⟨.inl rfl, ⟨⟨rfl, rfl⟩, trivial⟩, .inr rfl, .inl rfl, rfl, rfl, ⟨⟨rfl, rfl⟩, trivial⟩, rfl, rfl, trivial⟩)⟩
     ·refine go_rq he fun he => ?_
      refine go_rq he fun he => ?_
      refine go_rq he fun he => ?_
      refine go_rq he fun he => ?_
      have he := ok_some he
      exact ⟨(true, (i5 + (1:Int)), (out6.set ((0 - (r9_.getD i5.toNat 0)) - (1:Int)).toNat (-1:Int))), he, (leads_ren [] rfl rfl ⟨⟨rfl, rfl⟩, ⟨rfl, rfl⟩, trivial⟩ ⟨.inl rfl, ⟨⟨rfl, rfl⟩, trivial⟩, .inr rfl, .inl rfl, rfl, rfl, ⟨⟨rfl, rfl⟩, trivial⟩, rfl, rfl, trivial⟩)⟩
    ·refine go_rq he fun he => ?_
     have he := ok_some he
     exact ⟨(made6, (i3 + (1:Int)), out6), he, (leads_ren [(10004000, 10006000)] rfl rfl ⟨⟨rfl, rfl⟩, trivial⟩ ⟨.inl rfl, ⟨⟨rfl, rfl⟩, trivial⟩, .inl rfl, .inl rfl, rfl, rfl, trivial⟩)⟩
  ·have he := ok_some he
   exact ⟨(made4, out5), he, (leads_ren [(10000000, 10004000)] rfl rfl ⟨⟨rfl, rfl⟩, trivial⟩ ⟨.inl rfl, ⟨⟨rfl, rfl⟩, trivial⟩, .inl rfl, trivial⟩)⟩
 ·have he := ok_some he
  exact ⟨rfl, _, _, (leads_ren [(900, 10000000)] (l := [(4, .c (.own 900 false)), (5, .c (.int .i64 (-1:Int)))]) (st' := [(900, .sl 3 y0_ out3 .shallow)]) rfl rfl ⟨⟨rfl, rfl⟩, trivial⟩ ⟨⟨⟨rfl, rfl⟩, trivial⟩, rfl, trivial⟩), he⟩

noncomputable def c_impl_valuesOf : Con := fun args st => match args, st with
  | [.c (.imm (.int .i64) p)], [] => .opt (Int × Bool × (List Bool)) (impl_valuesOf p) (fun r => .ret (.tup [.c (.own 900 false), .c (.int .i64 r.1), .c (.bool r.2.1)]) [(900, .sl 4 .bool r.2.2 .shallow)])
  | _, _ => .fail

noncomputable def C_impl_valuesOf : Cfg := { y := tys, n := 26, h := 0, tab := [], cut := [9], hand := [], good := [], deep := [], sched := [] }

theorem t_impl_valuesOf : TabOk Tryz.prog C_impl_valuesOf := tabOk_of (fun p h => by cases h)

theorem k_impl_valuesOf : Entry Tryz.prog 172 c_impl_valuesOf := by
 refine entry_by (C := C_impl_valuesOf) mixed tys_ok t_impl_valuesOf (fn := Tryz.f172) (c := bd Tryz.f172) (by kernel_rfl) (by kernel_rfl) (by kernel_rfl) (by kernel_rfl) ?_
 intro args st k he
 unfold c_impl_valuesOf at he
 split at he
 rotate_left
 ·exact he.elim
 rename_i p
 have he : Ok (impl_valuesOf p) (fun r => k (.tup [.c (.own 900 false), .c (.int .i64 r.1), .c (.bool r.2.1)]) [(900, .sl 4 .bool r.2.2 .shallow)]) := he
 refine ⟨rfl, rfl, ?_⟩
 refine seq_model mixed tys_ok t_impl_valuesOf (S := (List Bool)) (I := (fun out1 => (envOf [(5, .c (.own 10001000 false))], [(10001000, .sl 4 .bool out1 .shallow)]))) (B := fun s => Ok (impl_valuesOf_j1 s) (fun r => k (.tup [.c (.own 900 false), .c (.int .i64 r.1), .c (.bool r.2.1)]) [(900, .sl 4 .bool r.2.2 .shallow)])) ?_ ?_
 ·rintro out1 he
  have he := ok_some he
  exact ⟨rfl, _, _, (leads_ren [(900, 10001000)] (l := [(2, .c (.own 900 false)), (3, .c (.int .i64 (0:Int))), (4, .c (.bool true))]) (st' := [(900, .sl 4 .bool out1 .shallow)]) rfl rfl ⟨⟨rfl, rfl⟩, trivial⟩ ⟨⟨⟨rfl, rfl⟩, trivial⟩, rfl, .inr rfl, trivial⟩), he⟩
 ·skip
  refine loop_model mixed tys_ok t_impl_valuesOf (S := Int × (List Bool)) (I := (fun (i, out) => (envOf [(5, .c (.own 10000000 false)), (8, .c (.imm y0_ p)), (9, .c (.int .i64 (p.length:Int))), (10, .c (.int .i64 i))], [(10000000, .sl 4 .bool out .shallow)]))) (f := impl_valuesOf_l1 p) (K := (fun r => k (.tup [.c (.own 900 false), .c (.int .i64 r.1), .c (.bool r.2.1)]) [(900, .sl 4 .bool r.2.2 .shallow)])) he (leads_ren [] rfl rfl ⟨trivial, trivial⟩ ⟨⟨rfl, trivial⟩, .inl rfl, rfl, rfl, trivial⟩) ?_
  rintro ⟨i, out⟩ J1 he
  refine go_if he (fun he => ?_) fun he => ?_
  ·refine go_rq he fun he => ?_
   refine go_if he (fun he => ?_) fun he => ?_
   ·refine go_rq he fun he => ?_
    have he := ok_some he
    exact ⟨rfl, _, _, (leads_ren [] (l := [(2, .c (.own 900 false)), (3, .c (.int .i64 (i + (1:Int)))), (4, .c (.bool false))]) (st' := [(900, .sl 4 .bool ([] : List Bool) .shallow)]) rfl rfl ⟨trivial, trivial⟩ ⟨⟨rfl, trivial⟩, rfl, .inr rfl, trivial⟩), he⟩
   ·refine go_rq he fun he => ?_
    refine go_rq he fun he => ?_
    have he := ok_some he
    exact ⟨((i + (1:Int)), (out ++ [(decide ((0:Int) < (p.getD i.toNat 0)))])), he, (leads_ren [(10000000, 23)] rfl rfl ⟨⟨rfl, rfl⟩, trivial⟩ ⟨⟨⟨rfl, rfl⟩, trivial⟩, .inl rfl, rfl, rfl, trivial⟩)⟩
  ·exact ⟨out, ok_up he, (leads_ren [(10001000, 10000000)] rfl rfl ⟨⟨rfl, rfl⟩, trivial⟩ ⟨⟨⟨rfl, rfl⟩, trivial⟩, trivial⟩)⟩

noncomputable def c_slices_Index_int : Con := fun args st => match args, st with
  | [.c (.imm (.int .i64) s_), .c (.int .i64 v)], [] => .opt (Int) (slices_Index_int s_ v) (fun r => .ret (.c (.int .i64 r)) [])
  | _, _ => .fail

noncomputable def C_slices_Index_int : Cfg := { y := tys, n := 19, h := 0, tab := [], cut := [], hand := [], good := [], deep := [], sched := [] }

theorem t_slices_Index_int : TabOk Tryz.prog C_slices_Index_int := tabOk_of (fun p h => by cases h)

theorem k_slices_Index_int : Entry Tryz.prog 237 c_slices_Index_int := by
 refine entry_by (C := C_slices_Index_int) mixed tys_ok t_slices_Index_int (fn := Tryz.f237) (c := bd Tryz.f237) (by kernel_rfl) (by kernel_rfl) (by kernel_rfl) (by kernel_rfl) ?_
 intro args st k he
 unfold c_slices_Index_int at he
 split at he
 rotate_left
 ·exact he.elim
 rename_i s_ v
 have he : Ok (slices_Index_int s_ v) (fun r => k (.c (.int .i64 r)) []) := he
 refine ⟨rfl, rfl, ?_⟩
 refine loop_model mixed tys_ok t_slices_Index_int (S := Int) (I := (fun i => (envOf [(0, .c (.imm y0_ s_)), (1, .c (.int .i64 v)), (7, .c (.int .i64 (s_.length:Int))), (8, .c (.int .i64 i))], []))) (f := slices_Index_int_l1 s_ v) (K := (fun r => k (.c (.int .i64 r)) [])) he (leads_ren [] rfl rfl trivial ⟨.inl rfl, rfl, rfl, rfl, trivial⟩) ?_
 rintro i J1 he
 refine go_if he (fun he => ?_) fun he => ?_
 ·refine go_rq he fun he => ?_
  refine go_if he (fun he => ?_) fun he => ?_
  ·have he := ok_some he
   exact ⟨rfl, _, _, Leads.refl _ _, he⟩
  ·refine go_rq he fun he => ?_
   have he := ok_some he
   exact ⟨(i + (1:Int)), he, (leads_ren [] rfl rfl trivial ⟨.inl rfl, rfl, rfl, rfl, trivial⟩)⟩
 ·have he := ok_some he
  exact ⟨rfl, _, _, Leads.refl _ _, he⟩

noncomputable def c_slices_Contains_int : Con := fun args st => match args, st with
  | [.c (.imm (.int .i64) s_), .c (.int .i64 v)], [] => .opt (Bool) (slices_Contains_int s_ v) (fun r => .ret (.c (.bool r)) [])
  | _, _ => .fail

noncomputable def C_slices_Contains_int : Cfg := { y := tys, n := 9, h := 0, tab := [(237, c_slices_Index_int)], cut := [], hand := [], good := [], deep := [], sched := [] }

theorem t_slices_Contains_int : TabOk Tryz.prog C_slices_Contains_int := by
  refine tabOk_of ?_
  simp only [C_slices_Contains_int, List.forall_mem_cons]
  exact ⟨k_slices_Index_int, fun p h => by cases h⟩

theorem k_slices_Contains_int : Entry Tryz.prog 178 c_slices_Contains_int := by
 refine entry_by (C := C_slices_Contains_int) mixed tys_ok t_slices_Contains_int (fn := Tryz.f178) (c := bd Tryz.f178) (by kernel_rfl) (by kernel_rfl) (by kernel_rfl) (by kernel_rfl) ?_
 intro args st k he
 unfold c_slices_Contains_int at he
 split at he
 rotate_left
 ·exact he.elim
 rename_i s_ v
 have he : Ok (slices_Contains_int s_ v) (fun r => k (.c (.bool r)) []) := he
 refine ⟨rfl, rfl, ?_⟩
 refine go_bind he fun r1_ he => ?_
 have he := ok_some he
 exact ⟨rfl, _, _, Leads.refl _ _, he⟩

noncomputable def c_impl_ClauseOf_1 : Con := fun args st => match args, st with
  | [.c (.int .i64 a), .c (.int .i64 b)], [] => .opt (Int) (impl_ClauseOf_1 a b) (fun r => .ret (.c (.int .i64 r)) [])
  | _, _ => .fail

noncomputable def C_impl_ClauseOf_1 : Cfg := { y := tys, n := 10, h := 0, tab := [(170, c_impl_variableOf)], cut := [], hand := [], good := [], deep := [], sched := [] }

theorem t_impl_ClauseOf_1 : TabOk Tryz.prog C_impl_ClauseOf_1 := by
  refine tabOk_of ?_
  simp only [C_impl_ClauseOf_1, List.forall_mem_cons]
  exact ⟨k_impl_variableOf, fun p h => by cases h⟩

theorem k_impl_ClauseOf_1 : Entry Tryz.prog 180 c_impl_ClauseOf_1 := by
 refine entry_by (C := C_impl_ClauseOf_1) mixed tys_ok t_impl_ClauseOf_1 (fn := Tryz.f180) (c := bd Tryz.f180) (by kernel_rfl) (by kernel_rfl) (by kernel_rfl) (by kernel_rfl) ?_
 intro args st k he
 unfold c_impl_ClauseOf_1 at he
 split at he
 rotate_left
 ·exact he.elim
 rename_i a b
 have he : Ok (impl_ClauseOf_1 a b) (fun r => k (.c (.int .i64 r)) []) := he
 refine ⟨rfl, rfl, ?_⟩
 refine go_bind he fun r1_ he => ?_
 refine go_bind he fun r2_ he => ?_
 refine go_rq he fun he => ?_
 have he := ok_some he
 exact ⟨rfl, _, _, Leads.refl _ _, he⟩

noncomputable def c_slices_SortFunc_int__impl_ClauseOf_1 : Con := sortC0 180 impl_ClauseOf_1

theorem k_slices_SortFunc_int__impl_ClauseOf_1 : Entry Tryz.prog 179 c_slices_SortFunc_int__impl_ClauseOf_1 := sort_entry0 lays179 k_impl_ClauseOf_1 (fun x y => rfl)

noncomputable def c_slices_Compact_int : Con := fun args st => match args, st with
  | [.c (.own 0 false)], [(0, .sl 3 (.int .i64) s_ .shallow)] => .opt ((List Int)) (slices_Compact_int s_) (fun r => .ret (.c (.own 900 false)) [(0, .dead), (900, .sl 3 y0_ r .shallow)])
  | _, _ => .fail

noncomputable def C_slices_Compact_int : Cfg := { y := tys, n := 61, h := 1, tab := [], cut := [14], hand := [], good := [], deep := [], sched := [] }

theorem t_slices_Compact_int : TabOk Tryz.prog C_slices_Compact_int := tabOk_of (fun p h => by cases h)

theorem k_slices_Compact_int : Entry Tryz.prog 181 c_slices_Compact_int := by
 refine entry_by (C := C_slices_Compact_int) mixed tys_ok t_slices_Compact_int (fn := Tryz.f181) (c := bd Tryz.f181) (by kernel_rfl) (by kernel_rfl) (by kernel_rfl) (by kernel_rfl) ?_
 intro args st k he
 unfold c_slices_Compact_int at he
 split at he
 rotate_left
 ·exact he.elim
 rename_i s_
 have he : Ok (slices_Compact_int s_) (fun r => k (.c (.own 900 false)) [(0, .dead), (900, .sl 3 y0_ r .shallow)]) := he
 refine ⟨rfl, rfl, ?_⟩
 refine go_if he (fun he => ?_) fun he => ?_
 ·have he := ok_some he
  exact ⟨rfl, _, _, (leads_ren [(900, 0)] (l := [(2, .c (.own 900 false))]) (st' := [(0, .dead), (900, .sl 3 y0_ s_ .shallow)]) rfl rfl ⟨trivial, ⟨rfl, rfl⟩, trivial⟩ ⟨⟨⟨rfl, rfl⟩, trivial⟩, trivial⟩), he⟩
 ·refine loop_model mixed tys_ok t_slices_Compact_int (S := Int) (I := (fun k_ => (envOf [(0, .c (.own 0 false)), (3, .c (.int .i64 k_))], [(0, .sl 3 y0_ s_ .shallow)]))) (f := slices_Compact_int_l1 s_) (K := (fun r => k (.c (.own 900 false)) [(0, .dead), (900, .sl 3 y0_ r .shallow)])) he (leads_ren [] rfl rfl ⟨⟨rfl, rfl⟩, trivial⟩ ⟨⟨⟨rfl, rfl⟩, trivial⟩, rfl, trivial⟩) ?_
  rintro k_ J1 he
  refine go_if he (fun he => ?_) fun he => ?_
  ·refine And.intro (by kernel_rfl) ?_
   refine go_rq he fun he => ?_
   refine go_rq he fun he => ?_
   refine go_rq he fun he => ?_
   refine go_if he (fun he => ?_) fun he => ?_
   ·refine go_rq he fun he => ?_
    refine seq_model mixed tys_ok t_slices_Compact_int (S := Int × (List Int)) (I := (fun (k_2, s_2) => (envOf [(0, .c (.own 0 false)), (3, .c (.int .i64 k_2))], [(0, .sl 3 y0_ s_2 .shallow)]))) (B := fun s => Ok (slices_Compact_int_j1 s) (LK J1 (fun r => k (.c (.own 900 false)) [(0, .dead), (900, .sl 3 y0_ r .shallow)]))) ?_ ?_
    ·rintro ⟨k_2, s_2⟩ he
     refine go_rq he fun he => ?_
     refine go_rq he fun he => ?_
     have he := ok_some he
     exact ⟨rfl, _, _, (leads_ren [(900, 59)] (l := [(2, .c (.own 900 false))]) (st' := [(0, .dead), (900, .sl 3 y0_ ((s_2.take k_2.toNat ++ List.replicate (s_2.length - k_2.toNat) (0:Int)).take k_2.toNat) .shallow)]) rfl rfl ⟨trivial, ⟨rfl, rfl⟩, trivial⟩ ⟨⟨⟨rfl, rfl⟩, trivial⟩, trivial⟩), he⟩
    ·skip
     refine loop_model mixed tys_ok t_slices_Compact_int (S := Int × Int × (List Int)) (I := (fun (k_1, k2_, s_1) => (envOf [(0, .c (.own 0 false)), (3, .c (.int .i64 k_1)), (4, .c (.view 0 k_)), (5, .c (.int .i64 k2_))], [(0, .sl 3 y0_ s_1 .shallow)]))) (f := slices_Compact_int_l2 k_) (K := (LK J1 (fun r => k (.c (.own 900 false)) [(0, .dead), (900, .sl 3 y0_ r .shallow)]))) he (leads_ren [] rfl rfl ⟨⟨rfl, rfl⟩, trivial⟩ ⟨⟨⟨rfl, rfl⟩, trivial⟩, rfl, ⟨⟨rfl, rfl⟩, rfl⟩, rfl, trivial⟩) ?_
     rintro ⟨k_1, k2_, s_1⟩ J2 he
     refine go_if he (fun he => ?_) fun he => ?_
     ·refine And.intro (by kernel_rfl) ?_
      refine go_rq he fun he => ?_
      refine go_rq he fun he => ?_
      refine go_rq he fun he => ?_
      refine go_if he (fun he => ?_) fun he => ?_
      ·refine go_rq he fun he => ?_
       refine go_rq he fun he => ?_
       refine go_rq he fun he => ?_
       refine go_rq he fun he => ?_
       have he := ok_some he
       exact ⟨((k_1 + (1:Int)), (k2_ + (1:Int)), (s_1.set k_1.toNat (s_1.getD (k_ + k2_).toNat 0))), he, (leads_ren [] rfl rfl ⟨⟨rfl, rfl⟩, trivial⟩ ⟨⟨⟨rfl, rfl⟩, trivial⟩, rfl, ⟨⟨rfl, rfl⟩, rfl⟩, rfl, trivial⟩)⟩
      ·refine go_rq he fun he => ?_
       have he := ok_some he
       exact ⟨(k_1, (k2_ + (1:Int)), s_1), he, (leads_ren [] rfl rfl ⟨⟨rfl, rfl⟩, trivial⟩ ⟨⟨⟨rfl, rfl⟩, trivial⟩, rfl, ⟨⟨rfl, rfl⟩, rfl⟩, rfl, trivial⟩)⟩
     ·exact ⟨(k_1, s_1), ok_up he, (leads_ren [] rfl rfl ⟨⟨rfl, rfl⟩, trivial⟩ ⟨⟨⟨rfl, rfl⟩, trivial⟩, rfl, trivial⟩)⟩
   ·refine go_rq he fun he => ?_
    have he := ok_some he
    exact ⟨(k_ + (1:Int)), he, (leads_ren [] rfl rfl ⟨⟨rfl, rfl⟩, trivial⟩ ⟨⟨⟨rfl, rfl⟩, trivial⟩, rfl, trivial⟩)⟩
  ·have he := ok_some he
   exact ⟨rfl, _, _, (leads_ren [(900, 0)] (l := [(2, .c (.own 900 false))]) (st' := [(0, .dead), (900, .sl 3 y0_ s_ .shallow)]) rfl rfl ⟨trivial, ⟨rfl, rfl⟩, trivial⟩ ⟨⟨⟨rfl, rfl⟩, trivial⟩, trivial⟩), he⟩

noncomputable def c_impl_ClauseOf : Con := fun args st => match args, st with
  | [.c (.imm (.int .i64) lits)], [] => .opt (Bool × Int × (List D2_)) (impl_ClauseOf lits) (fun r => .ret (.tup [.agg [.own 901 false, .int .i64 r.2.1], .c (.bool r.1)]) [(900, .rc [.own 901 false, .int .i64 r.2.1]), (901, .sl 155 y2_ r.2.2 .shallow)])
  | _, _ => .fail

noncomputable def C_impl_ClauseOf : Cfg := { y := tys, n := 52, h := 0, tab := [(75, c_slices_Clone_int), (177, c_impl_isLiteral), (178, c_slices_Contains_int), (179, c_slices_SortFunc_int__impl_ClauseOf_1), (181, c_slices_Compact_int)], cut := [], hand := [(179, [0]), (181, [0])], good := [], deep := [], sched := [] }

theorem t_impl_ClauseOf : TabOk Tryz.prog C_impl_ClauseOf := by
  refine tabOk_of ?_
  simp only [C_impl_ClauseOf, List.forall_mem_cons]
  exact ⟨k_slices_Clone_int, k_impl_isLiteral, k_slices_Contains_int, k_slices_SortFunc_int__impl_ClauseOf_1, k_slices_Compact_int, fun p h => by cases h⟩

theorem k_impl_ClauseOf : Entry Tryz.prog 119 c_impl_ClauseOf := by
 refine entry_by (C := C_impl_ClauseOf) mixed tys_ok t_impl_ClauseOf (fn := Tryz.f119) (c := bd Tryz.f119) (by kernel_rfl) (by kernel_rfl) (by kernel_rfl) (by kernel_rfl) ?_
 intro args st k he
 unfold c_impl_ClauseOf at he
 split at he
 rotate_left
 ·exact he.elim
 rename_i lits
 have he : Ok (impl_ClauseOf lits) (fun r => k (.tup [.agg [.own 901 false, .int .i64 r.2.1], .c (.bool r.1)]) [(900, .rc [.own 901 false, .int .i64 r.2.1]), (901, .sl 155 y2_ r.2.2 .shallow)]) := he
 refine ⟨rfl, rfl, ?_⟩
 refine go_if he (fun he => ?_) fun he => ?_
 ·have he := ok_some he
  exact ⟨rfl, _, _, (leads_ren [(900, 2)] (l := [(2, .c (.ptr 900 0)), (3, .c (.bool false))]) (st' := [(900, .rc [.own 901 false, .int .i64 (0:Int)]), (901, .sl 155 y2_ ([] : List D2_) .shallow)]) rfl rfl ⟨⟨⟨rfl, trivial⟩, rfl, trivial⟩, trivial, trivial⟩ ⟨⟨⟨rfl, rfl⟩, rfl⟩, .inr rfl, trivial⟩), he⟩
 ·refine loop_model mixed tys_ok t_impl_ClauseOf (S := Int) (I := (fun i => (envOf [(0, .c (.imm y0_ lits)), (2, .c (.ptr 10000000 0)), (14, .c (.imm y0_ lits)), (15, .c (.int .i64 (lits.length:Int))), (16, .c (.int .i64 i))], [(10000000, .rc [.nil, .int .i64 (0:Int)])]))) (f := impl_ClauseOf_l1 lits) (K := (fun r => k (.tup [.agg [.own 901 false, .int .i64 r.2.1], .c (.bool r.1)]) [(900, .rc [.own 901 false, .int .i64 r.2.1]), (901, .sl 155 y2_ r.2.2 .shallow)])) he (leads_ren [(10000000, 2)] rfl rfl ⟨⟨rfl, rfl, trivial⟩, trivial⟩ ⟨.inl rfl, ⟨⟨rfl, rfl⟩, rfl⟩, .inl rfl, rfl, rfl, trivial⟩) ?_
  rintro i J1 he
  refine go_if he (fun he => ?_) fun he => ?_
  ·refine go_rq he fun he => ?_
   refine go_bind he fun r1_ he => ?_
   refine go_if2 he (fun he => ?_) fun he => ?_
   ·refine go_rq he fun he => ?_
    refine go_bind he fun r2_ he => ?_
    refine go_if he (fun he => ?_) fun he => ?_
    ·have he := ok_some he
     exact ⟨rfl, _, _, (leads_ren [(900, 10000000)] (l := [(2, .c (.ptr 900 0)), (3, .c (.bool false))]) (st' := [(900, .rc [.own 901 false, .int .i64 (0:Int)]), (901, .sl 155 y2_ ([] : List D2_) .shallow)]) rfl rfl ⟨⟨⟨rfl, trivial⟩, rfl, trivial⟩, trivial, trivial⟩ ⟨⟨⟨rfl, rfl⟩, rfl⟩, .inr rfl, trivial⟩), he⟩
    ·refine go_rq he fun he => ?_
     have he := ok_some he
     exact ⟨(i + (1:Int)), he, (leads_ren [] rfl rfl ⟨⟨rfl, rfl, trivial⟩, trivial⟩ ⟨.inl rfl, ⟨⟨rfl, rfl⟩, rfl⟩, .inl rfl, rfl, rfl, trivial⟩)⟩
   ·have he := ok_some he
    exact ⟨rfl, _, _, (leads_ren [(900, 10000000)] (l := [(2, .c (.ptr 900 0)), (3, .c (.bool false))]) (st' := [(900, .rc [.own 901 false, .int .i64 (0:Int)]), (901, .sl 155 y2_ ([] : List D2_) .shallow)]) rfl rfl ⟨⟨⟨rfl, trivial⟩, rfl, trivial⟩, trivial, trivial⟩ ⟨⟨⟨rfl, rfl⟩, rfl⟩, .inr rfl, trivial⟩), he⟩
  ·refine go_bind he fun r3_ he => ?_
   refine go_bind he fun r4_ he => ?_
   refine go_bind he fun r5_ he => ?_
   refine loop_model mixed tys_ok t_impl_ClauseOf (S := Int × (List D2_)) (I := (fun (i1, c_0) => (envOf [(2, .c (.ptr 10001000 0)), (7, .c (.ptr 10001001 0)), (37, .c (.own 10001002 false)), (38, .c (.int .i64 (r5_.length:Int))), (39, .c (.int .i64 i1))], [(10001000, .rc [.nil, .int .i64 (0:Int)]), (10001001, .rc [.own 10001003 false, .int .i64 (1:Int)]), (10001002, .sl 3 y0_ r5_ .shallow), (10001003, .sl 155 y2_ c_0 .shallow)]))) (f := impl_ClauseOf_l2 r5_) (K := (LK J1 (fun r => k (.tup [.agg [.own 901 false, .int .i64 r.2.1], .c (.bool r.1)]) [(900, .rc [.own 901 false, .int .i64 r.2.1]), (901, .sl 155 y2_ r.2.2 .shallow)]))) he (leads_ren [(10001000, 10000000), (10001001, 7), (10001002, 38900)] rfl rfl ⟨⟨rfl, rfl, trivial⟩, ⟨⟨rfl, trivial⟩, rfl, trivial⟩, ⟨rfl, rfl⟩, trivial, trivial⟩ ⟨⟨⟨rfl, rfl⟩, rfl⟩, ⟨⟨rfl, rfl⟩, rfl⟩, ⟨⟨rfl, rfl⟩, trivial⟩, rfl, rfl, trivial⟩) ?_
   rintro ⟨i1, c_0⟩ J2 he
   refine go_if he (fun he => ?_) fun he => ?_
   ·refine go_rq he fun he => ?_
    refine go_rq he fun he => ?_
    refine go_rq he fun he => ?_
    have he := ok_some he
    exact ⟨((i1 + (1:Int)), (c_0 ++ [((1:Int), (r5_.getD i1.toNat 0))])), he, (leads_ren [(10001003, 48)] rfl rfl ⟨⟨rfl, rfl, trivial⟩, ⟨⟨⟨rfl, rfl⟩, trivial⟩, rfl, trivial⟩, ⟨rfl, rfl⟩, ⟨rfl, rfl⟩, trivial⟩ ⟨⟨⟨rfl, rfl⟩, rfl⟩, ⟨⟨rfl, rfl⟩, rfl⟩, ⟨⟨rfl, rfl⟩, trivial⟩, rfl, rfl, trivial⟩)⟩
   ·have he := ok_some he
    exact ⟨rfl, _, _, (leads_ren [(900, 10001000), (901, 10001003)] (l := [(2, .c (.ptr 900 0)), (3, .c (.bool true))]) (st' := [(900, .rc [.own 901 false, .int .i64 (1:Int)]), (901, .sl 155 y2_ c_0 .shallow)]) rfl rfl ⟨⟨⟨⟨rfl, rfl⟩, trivial⟩, rfl, trivial⟩, ⟨rfl, rfl⟩, trivial⟩ ⟨⟨⟨rfl, rfl⟩, rfl⟩, .inr rfl, trivial⟩), he⟩

noncomputable def c_impl_searching_fail__Rsd : Con := fun args st => match args, st with
  | [.c (.ptr 0 0), .c (.imm (.int .i64) decisions)], [(0, .rc [.own 1 false, .int .i64 s_1, .own 2 false, .bool s_3]), (1, .sl 89 (.pair (.sl (.pair (.int .i64) (.int .i64))) (.int .i64)) o1 .shallow), (2, .sl 96 (.pair (.int .i64) (.pair (.int .i64) (.pair (.int .i64) (.pair (.sl (.pair (.int .i64) (.int .i64))) (.int .i64))))) o2 (.deep true .no))] => .opt ((List D3_) × (List D6_)) (impl_searching_fail__Rsd decisions s_1 s_3 o1 o2) (fun r => .ret (.tup []) [(0, .rc [.own 900 false, .int .i64 s_1, .own 901 false, .bool s_3]), (1, .dead), (2, .dead), (900, .sl 89 y3_ r.1 .shallow), (901, .sl 96 y6_ r.2 (.deep true .no))])
  | _, _ => .fail

noncomputable def C_impl_searching_fail__Rsd : Cfg := { y := tys, n := 48, h := 3, tab := [(119, c_impl_ClauseOf), (160, c_impl_Constraint_own)], cut := [6, 8], hand := [], good := [], deep := [44], sched := [(7, (.first 0 (.first 1 (.first 2 (.first 3 (.alt 4 (.alt 5 (.alt 6 (.alt 7 (.first 8 (.first 9 (.alt 10 .done .stop))) .stop) .stop) .stop) (.alt 5 (.alt 4 (.alt 6 (.alt 7 (.first 8 (.first 9 (.alt 10 .done .stop))) .stop) .stop) (.alt 6 (.alt 4 (.alt 7 (.first 8 (.first 9 (.alt 10 .done .stop))) .stop) .stop) .stop)) .stop))))))), (8, (.first 0 (.first 1 (.first 2 (.first 3 (.alt 4 (.alt 5 (.alt 6 (.alt 7 (.alt 8 (.alt 9 (.first 10 (.first 11 (.alt 12 .done .stop))) .stop) .stop) .stop) .stop) .stop) (.alt 5 (.alt 4 (.alt 6 (.alt 7 (.alt 8 (.alt 9 (.first 10 (.first 11 (.alt 12 .done .stop))) .stop) .stop) .stop) .stop) (.alt 6 (.alt 4 (.alt 7 (.alt 8 (.alt 9 (.first 10 (.first 11 (.alt 12 .done .stop))) .stop) .stop) .stop) (.alt 7 (.alt 4 (.alt 8 (.alt 9 (.first 10 (.first 11 (.alt 12 .done .stop))) .stop) .stop) (.alt 8 (.alt 4 (.alt 9 (.first 10 (.first 11 (.alt 12 .done .stop))) .stop) .stop) .stop)) .stop)) .stop)) .stop)))))))] }

theorem t_impl_searching_fail__Rsd : TabOk Tryz.prog C_impl_searching_fail__Rsd := by
  refine tabOk_of ?_
  simp only [C_impl_searching_fail__Rsd, List.forall_mem_cons]
  exact ⟨k_impl_ClauseOf, k_impl_Constraint_own, fun p h => by cases h⟩

theorem k_impl_searching_fail__Rsd : Entry Tryz.prog 173 c_impl_searching_fail__Rsd := by
 refine entry_by (C := C_impl_searching_fail__Rsd) mixed tys_ok t_impl_searching_fail__Rsd (fn := Tryz.f173) (c := bd Tryz.f173) (by kernel_rfl) (by kernel_rfl) (by kernel_rfl) (by kernel_rfl) ?_
 intro args st k he
 unfold c_impl_searching_fail__Rsd at he
 split at he
 rotate_left
 ·exact he.elim
 rename_i decisions s_1 s_3 o1 o2
 have he : Ok (impl_searching_fail__Rsd decisions s_1 s_3 o1 o2) (fun r => k (.tup []) [(0, .rc [.own 900 false, .int .i64 s_1, .own 901 false, .bool s_3]), (1, .dead), (2, .dead), (900, .sl 89 y3_ r.1 .shallow), (901, .sl 96 y6_ r.2 (.deep true .no))]) := he
 refine ⟨rfl, rfl, ?_⟩
 refine seq_model mixed tys_ok t_impl_searching_fail__Rsd (S := (List Int)) (I := (fun lits1 => (envOf [(0, .c (.ptr 0 0)), (4, .c (.own 10001000 false))], [(0, .rc [.own 1 false, .int .i64 s_1, .own 2 false, .bool s_3]), (1, .sl 89 y3_ o1 .shallow), (2, .sl 96 y6_ o2 (.deep true .no)), (10001000, .sl 3 y0_ lits1 .shallow)]))) (B := fun s => Ok (impl_searching_fail__Rsd_j1 o1 o2 s) (fun r => k (.tup []) [(0, .rc [.own 900 false, .int .i64 s_1, .own 901 false, .bool s_3]), (1, .dead), (2, .dead), (900, .sl 89 y3_ r.1 .shallow), (901, .sl 96 y6_ r.2 (.deep true .no))])) ?_ ?_
 ·rintro lits1 he
  refine go_bind he fun r1_ he => ?_
  refine seq_model mixed tys_ok t_impl_searching_fail__Rsd (S := Unit) (I := (fun _ => (envOf [(0, .c (.ptr 0 0)), (7, .c (.ptr 10002000 0))], [(0, .rc [.own 10002001 false, .int .i64 s_1, .own 2 false, .bool s_3]), (1, .dead), (2, .sl 96 y6_ o2 (.deep true .no)), (10002000, .rc [.imm y2_ r1_.2.2, .int .i64 r1_.2.1]), (10002001, .sl 89 y3_ (o1 ++ [(r1_.2.2, r1_.2.1)]) .shallow)]))) (B := fun s => Ok (impl_searching_fail__Rsd_j2 o1 o2 r1_ s) (fun r => k (.tup []) [(0, .rc [.own 900 false, .int .i64 s_1, .own 901 false, .bool s_3]), (1, .dead), (2, .dead), (900, .sl 89 y3_ r.1 .shallow), (901, .sl 96 y6_ r.2 (.deep true .no))])) ?_ ?_
  ·rintro ⟨⟩ he
   refine And.intro (by kernel_rfl) ?_
   obtain ⟨r3_, hq1, he⟩ := ok_bind he
   have he := ok_rq he
   have hq2 := he.1
   have he := he.2
   refine And.intro ?_ (And.intro ?_ (trivial))
   ·skip
    refine And.intro ?_ trivial
    refine And.intro ?_ trivial
    refine ⟨r3_, hq1, ?_⟩
    refine And.intro ?_ trivial
    refine And.intro ?_ trivial
    refine And.intro ?_ trivial
    refine And.intro hq2 ?_
    refine And.intro ?_ trivial
    have he := ok_some he
    exact ⟨rfl, _, _, (leads_ren [(900, 10002001), (901, 45)] (l := []) (st' := [(0, .rc [.own 900 false, .int .i64 s_1, .own 901 false, .bool s_3]), (1, .dead), (2, .dead), (900, .sl 89 y3_ (o1 ++ [(r1_.2.2, r1_.2.1)]) .shallow), (901, .sl 96 y6_ (o2 ++ [((7:Int), ((0:Int), ((0:Int), (r3_.2, r3_.1))))]) (.deep true .no))]) rfl rfl ⟨⟨⟨⟨rfl, rfl⟩, trivial⟩, rfl, ⟨⟨rfl, rfl⟩, trivial⟩, .inl rfl, trivial⟩, trivial, trivial, ⟨rfl, rfl⟩, ⟨rfl, rfl⟩, trivial⟩ trivial), he⟩
   ·skip
    refine And.intro ?_ (And.intro ?_ (trivial))
    ·skip
     refine And.intro ?_ trivial
     refine ⟨r3_, hq1, ?_⟩
     refine And.intro ?_ trivial
     refine And.intro ?_ trivial
     refine And.intro ?_ trivial
     refine And.intro hq2 ?_
     refine And.intro ?_ trivial
     have he := ok_some he
     exact ⟨rfl, _, _, (leads_ren [(900, 10002001), (901, 45)] (l := []) (st' := [(0, .rc [.own 900 false, .int .i64 s_1, .own 901 false, .bool s_3]), (1, .dead), (2, .dead), (900, .sl 89 y3_ (o1 ++ [(r1_.2.2, r1_.2.1)]) .shallow), (901, .sl 96 y6_ (o2 ++ [((7:Int), ((0:Int), ((0:Int), (r3_.2, r3_.1))))]) (.deep true .no))]) rfl rfl ⟨⟨⟨⟨rfl, rfl⟩, trivial⟩, rfl, ⟨⟨rfl, rfl⟩, trivial⟩, .inl rfl, trivial⟩, trivial, trivial, ⟨rfl, rfl⟩, ⟨rfl, rfl⟩, trivial⟩ trivial), he⟩
    ·skip
     refine ⟨r3_, hq1, ?_⟩
     refine And.intro ?_ (And.intro ?_ (trivial))
     ·skip
      refine And.intro ?_ trivial
      refine And.intro ?_ trivial
      refine And.intro ?_ trivial
      refine And.intro hq2 ?_
      refine And.intro ?_ trivial
      have he := ok_some he
      exact ⟨rfl, _, _, (leads_ren [(900, 10002001), (901, 45)] (l := []) (st' := [(0, .rc [.own 900 false, .int .i64 s_1, .own 901 false, .bool s_3]), (1, .dead), (2, .dead), (900, .sl 89 y3_ (o1 ++ [(r1_.2.2, r1_.2.1)]) .shallow), (901, .sl 96 y6_ (o2 ++ [((7:Int), ((0:Int), ((0:Int), (r3_.2, r3_.1))))]) (.deep true .no))]) rfl rfl ⟨⟨⟨⟨rfl, rfl⟩, trivial⟩, rfl, ⟨⟨rfl, rfl⟩, trivial⟩, .inl rfl, trivial⟩, trivial, trivial, ⟨rfl, rfl⟩, ⟨rfl, rfl⟩, trivial⟩ trivial), he⟩
     ·skip
      refine And.intro ?_ (And.intro ?_ (trivial))
      ·skip
       refine And.intro ?_ trivial
       refine And.intro ?_ trivial
       refine And.intro hq2 ?_
       refine And.intro ?_ trivial
       have he := ok_some he
       exact ⟨rfl, _, _, (leads_ren [(900, 10002001), (901, 45)] (l := []) (st' := [(0, .rc [.own 900 false, .int .i64 s_1, .own 901 false, .bool s_3]), (1, .dead), (2, .dead), (900, .sl 89 y3_ (o1 ++ [(r1_.2.2, r1_.2.1)]) .shallow), (901, .sl 96 y6_ (o2 ++ [((7:Int), ((0:Int), ((0:Int), (r3_.2, r3_.1))))]) (.deep true .no))]) rfl rfl ⟨⟨⟨⟨rfl, rfl⟩, trivial⟩, rfl, ⟨⟨rfl, rfl⟩, trivial⟩, .inl rfl, trivial⟩, trivial, trivial, ⟨rfl, rfl⟩, ⟨rfl, rfl⟩, trivial⟩ trivial), he⟩
      ·skip
       refine And.intro ?_ trivial
       refine And.intro ?_ trivial
       refine And.intro hq2 ?_
       refine And.intro ?_ trivial
       have he := ok_some he
       exact ⟨rfl, _, _, (leads_ren [(900, 10002001), (901, 45)] (l := []) (st' := [(0, .rc [.own 900 false, .int .i64 s_1, .own 901 false, .bool s_3]), (1, .dead), (2, .dead), (900, .sl 89 y3_ (o1 ++ [(r1_.2.2, r1_.2.1)]) .shallow), (901, .sl 96 y6_ (o2 ++ [((7:Int), ((0:Int), ((0:Int), (r3_.2, r3_.1))))]) (.deep true .no))]) rfl rfl ⟨⟨⟨⟨rfl, rfl⟩, trivial⟩, rfl, ⟨⟨rfl, rfl⟩, trivial⟩, .inl rfl, trivial⟩, trivial, trivial, ⟨rfl, rfl⟩, ⟨rfl, rfl⟩, trivial⟩ trivial), he⟩
  ·skip
   refine And.intro (by kernel_rfl) ?_
   have he := ok_rq he
   have hq1 := he.1
   have he := he.2
   refine And.intro ?_ (And.intro ?_ (trivial))
   ·skip
    refine And.intro ?_ trivial
    refine And.intro ?_ trivial
    refine And.intro ?_ trivial
    refine And.intro hq1 ?_
    refine And.intro ?_ trivial
    exact ⟨(), he, (leads_ren [(10002000, 7), (10002001, 33)] rfl rfl ⟨⟨⟨⟨rfl, rfl⟩, trivial⟩, rfl, ⟨⟨rfl, rfl⟩, trivial⟩, .inl rfl, trivial⟩, trivial, ⟨rfl, rfl⟩, ⟨.inr (.inr ⟨_, _, _, rfl, rfl⟩), rfl, trivial⟩, ⟨rfl, rfl⟩, trivial⟩ ⟨⟨⟨rfl, rfl⟩, rfl⟩, ⟨⟨rfl, rfl⟩, rfl⟩, trivial⟩)⟩
   ·skip
    refine And.intro ?_ (And.intro ?_ (trivial))
    ·skip
     refine And.intro ?_ trivial
     refine And.intro ?_ trivial
     refine And.intro hq1 ?_
     refine And.intro ?_ trivial
     exact ⟨(), he, (leads_ren [(10002000, 7), (10002001, 33)] rfl rfl ⟨⟨⟨⟨rfl, rfl⟩, trivial⟩, rfl, ⟨⟨rfl, rfl⟩, trivial⟩, .inl rfl, trivial⟩, trivial, ⟨rfl, rfl⟩, ⟨.inr (.inr ⟨_, _, _, rfl, rfl⟩), rfl, trivial⟩, ⟨rfl, rfl⟩, trivial⟩ ⟨⟨⟨rfl, rfl⟩, rfl⟩, ⟨⟨rfl, rfl⟩, rfl⟩, trivial⟩)⟩
    ·skip
     refine And.intro ?_ trivial
     refine And.intro ?_ trivial
     refine And.intro hq1 ?_
     refine And.intro ?_ trivial
     exact ⟨(), he, (leads_ren [(10002000, 7), (10002001, 33)] rfl rfl ⟨⟨⟨⟨rfl, rfl⟩, trivial⟩, rfl, ⟨⟨rfl, rfl⟩, trivial⟩, .inl rfl, trivial⟩, trivial, ⟨rfl, rfl⟩, ⟨.inr (.inr ⟨_, _, _, rfl, rfl⟩), rfl, trivial⟩, ⟨rfl, rfl⟩, trivial⟩ ⟨⟨⟨rfl, rfl⟩, rfl⟩, ⟨⟨rfl, rfl⟩, rfl⟩, trivial⟩)⟩
 ·skip
  refine loop_model mixed tys_ok t_impl_searching_fail__Rsd (S := Int × (List Int)) (I := (fun (i, lits) => (envOf [(0, .c (.ptr 0 0)), (4, .c (.own 10000000 false)), (9, .c (.imm y0_ decisions)), (10, .c (.int .i64 (decisions.length:Int))), (11, .c (.int .i64 i))], [(0, .rc [.own 1 false, .int .i64 s_1, .own 2 false, .bool s_3]), (1, .sl 89 y3_ o1 .shallow), (2, .sl 96 y6_ o2 (.deep true .no)), (10000000, .sl 3 y0_ lits .shallow)]))) (f := impl_searching_fail__Rsd_l1 decisions o1 o2) (K := (fun r => k (.tup []) [(0, .rc [.own 900 false, .int .i64 s_1, .own 901 false, .bool s_3]), (1, .dead), (2, .dead), (900, .sl 89 y3_ r.1 .shallow), (901, .sl 96 y6_ r.2 (.deep true .no))])) he (leads_ren [] rfl rfl ⟨⟨⟨⟨rfl, rfl⟩, trivial⟩, rfl, ⟨⟨rfl, rfl⟩, trivial⟩, .inl rfl, trivial⟩, ⟨rfl, rfl⟩, ⟨rfl, rfl⟩, trivial, trivial⟩ ⟨⟨⟨rfl, rfl⟩, rfl⟩, ⟨rfl, trivial⟩, .inl rfl, rfl, rfl, trivial⟩) ?_
  rintro ⟨i, lits⟩ J1 he
  refine go_if he (fun he => ?_) fun he => ?_
  ·refine go_rq he fun he => ?_
   refine go_rq he fun he => ?_
   refine go_rq he fun he => ?_
   refine go_rq he fun he => ?_
   have he := ok_some he
   exact ⟨((i + (1:Int)), (lits ++ [(0 - (decisions.getD i.toNat 0))])), he, (leads_ren [(10000000, 19)] rfl rfl ⟨⟨⟨⟨rfl, rfl⟩, trivial⟩, rfl, ⟨⟨rfl, rfl⟩, trivial⟩, .inl rfl, trivial⟩, ⟨rfl, rfl⟩, ⟨rfl, rfl⟩, ⟨rfl, rfl⟩, trivial⟩ ⟨⟨⟨rfl, rfl⟩, rfl⟩, ⟨⟨rfl, rfl⟩, trivial⟩, .inl rfl, rfl, rfl, trivial⟩)⟩
  ·exact ⟨lits, ok_up he, (leads_ren [(10001000, 10000000)] rfl rfl ⟨⟨⟨⟨rfl, rfl⟩, trivial⟩, rfl, ⟨⟨rfl, rfl⟩, trivial⟩, .inl rfl, trivial⟩, ⟨rfl, rfl⟩, ⟨rfl, rfl⟩, ⟨rfl, rfl⟩, trivial⟩ ⟨⟨⟨rfl, rfl⟩, rfl⟩, ⟨⟨rfl, rfl⟩, trivial⟩, trivial⟩)⟩

noncomputable def c_impl_searching_visit__Rsd (n_ : Nat) : Con := fun args st => match args, st with
  | [.c (.ptr 0 0), .c (.imm (.int .i64) a1)], [(0, .rc [.own 1 false, .int .i64 o0_1, .own 2 false, .bool o0_3]), (1, .sl 89 (.pair (.sl (.pair (.int .i64) (.int .i64))) (.int .i64)) o1 .shallow), (2, .sl 96 (.pair (.int .i64) (.pair (.int .i64) (.pair (.int .i64) (.pair (.sl (.pair (.int .i64) (.int .i64))) (.int .i64))))) o2 (.deep true .no))] => .opt (Bool × Int × Bool × (List Bool) × (List D3_) × (List D6_)) (impl_searching_visit__Rsd n_ a1 o0_1 o0_3 o1 o2) (fun r => .ret (.tup [.c (.own 900 false), .c (.bool r.1)]) [(0, .rc [.own 901 false, .int .i64 r.2.1, .own 902 false, .bool r.2.2.1]), (1, .dead), (2, .dead), (900, .sl 4 .bool r.2.2.2.1 .shallow), (901, .sl 89 y3_ r.2.2.2.2.1 .shallow), (902, .sl 96 y6_ r.2.2.2.2.2 (.deep true .no))])
  | _, _ => .fail

noncomputable def C_impl_searching_visit__Rsd (n_ : Nat) : Cfg := { y := tys, n := 120, h := 3, tab := [(75, c_slices_Clone_int), (114, c_impl_searching_visit__Rsd n_), (170, c_impl_variableOf), (171, c_impl_propagate), (172, c_impl_valuesOf), (173, c_impl_searching_fail__Rsd)], cut := [13, 25, 28], hand := [], good := [], deep := [], sched := [] }

theorem t_impl_searching_visit__Rsd (n_ : Nat) (ih : Entry Tryz.prog 114 (c_impl_searching_visit__Rsd n_)) : TabOk Tryz.prog (C_impl_searching_visit__Rsd n_) := by
  refine tabOk_of ?_
  simp only [C_impl_searching_visit__Rsd, List.forall_mem_cons]
  exact ⟨k_slices_Clone_int, ih, k_impl_variableOf, k_impl_propagate, k_impl_valuesOf, k_impl_searching_fail__Rsd, fun p h => by cases h⟩

theorem k_impl_searching_visit__Rsd_step (n_ : Nat) (ih : Entry Tryz.prog 114 (c_impl_searching_visit__Rsd n_)) : Entry Tryz.prog 114 (c_impl_searching_visit__Rsd (n_ + 1)) := by
 refine entry_by (C := (C_impl_searching_visit__Rsd n_)) mixed tys_ok (t_impl_searching_visit__Rsd n_ ih) (fn := Tryz.f114) (c := bd Tryz.f114) (by kernel_rfl) (by kernel_rfl) (by kernel_rfl) (by kernel_rfl) ?_
 intro args st k he
 unfold c_impl_searching_visit__Rsd at he
 split at he
 rotate_left
 ·exact he.elim
 rename_i a1 o0_1 o0_3 o1 o2
 have he : Ok (impl_searching_visit__Rsd_rec (impl_searching_visit__Rsd n_) a1 o0_1 o0_3 o1 o2) (fun r => k (.tup [.c (.own 900 false), .c (.bool r.1)]) [(0, .rc [.own 901 false, .int .i64 r.2.1, .own 902 false, .bool r.2.2.1]), (1, .dead), (2, .dead), (900, .sl 4 .bool r.2.2.2.1 .shallow), (901, .sl 89 y3_ r.2.2.2.2.1 .shallow), (902, .sl 96 y6_ r.2.2.2.2.2 (.deep true .no))]) := he
 refine ⟨rfl, rfl, ?_⟩
 refine go_if2 he (fun he => ?_) fun he => ?_
 ·refine go_if he (fun he => ?_) fun he => ?_
  ·have he := ok_some he
   exact ⟨rfl, _, _, (leads_ren [(901, 1), (902, 2)] (l := [(4, .c (.own 900 false)), (5, .c (.bool false))]) (st' := [(0, .rc [.own 901 false, .int .i64 o0_1, .own 902 false, .bool true]), (1, .dead), (2, .dead), (900, .sl 4 .bool ([] : List Bool) .shallow), (901, .sl 89 y3_ o1 .shallow), (902, .sl 96 y6_ o2 (.deep true .no))]) rfl rfl ⟨⟨⟨⟨rfl, rfl⟩, trivial⟩, rfl, ⟨⟨rfl, rfl⟩, trivial⟩, .inr rfl, trivial⟩, trivial, trivial, trivial, ⟨rfl, rfl⟩, ⟨rfl, rfl⟩, trivial⟩ ⟨⟨rfl, trivial⟩, .inr rfl, trivial⟩), he⟩
  ·refine go_rq he fun he => ?_
   refine go_rq he fun he => ?_
   refine seq_model mixed tys_ok (t_impl_searching_visit__Rsd n_ ih) (S := (List Int)) (I := (fun i2 => (envOf [(0, .c (.ptr 0 0)), (1, .c (.imm y0_ a1)), (6, .c (.own 10001000 false))], [(0, .rc [.own 1 false, .int .i64 (o0_1 - (1:Int)), .own 2 false, .bool o0_3]), (1, .sl 89 y3_ o1 .shallow), (2, .sl 96 y6_ o2 (.deep true .no)), (10001000, .sl 3 y0_ i2 .shallow)]))) (B := fun s => Ok (impl_searching_visit__Rsd_j1 a1 o0_1 o0_3 o1 o2 (impl_searching_visit__Rsd n_) s) (fun r => k (.tup [.c (.own 900 false), .c (.bool r.1)]) [(0, .rc [.own 901 false, .int .i64 r.2.1, .own 902 false, .bool r.2.2.1]), (1, .dead), (2, .dead), (900, .sl 4 .bool r.2.2.2.1 .shallow), (901, .sl 89 y3_ r.2.2.2.2.1 .shallow), (902, .sl 96 y6_ r.2.2.2.2.2 (.deep true .no))])) ?_ ?_
   ·rintro i2 he
    refine go_bind he fun r3_ he => ?_
    refine seq_model mixed tys_ok (t_impl_searching_visit__Rsd n_ ih) (S := Int × Bool × (List D3_) × (List D6_)) (I := (fun (i_12, i_32, i_02, i_22) => (envOf [(0, .c (.ptr 0 0)), (1, .c (.imm y0_ a1))], [(0, .rc [.own 10004000 false, .int .i64 i_12, .own 10004001 false, .bool i_32]), (1, .dead), (2, .dead), (10004000, .sl 89 y3_ i_02 .shallow), (10004001, .sl 96 y6_ i_22 (.deep true .no))]))) (B := fun s => Ok (impl_searching_visit__Rsd_j2 a1 s) (fun r => k (.tup [.c (.own 900 false), .c (.bool r.1)]) [(0, .rc [.own 901 false, .int .i64 r.2.1, .own 902 false, .bool r.2.2.1]), (1, .dead), (2, .dead), (900, .sl 4 .bool r.2.2.2.1 .shallow), (901, .sl 89 y3_ r.2.2.2.2.1 .shallow), (902, .sl 96 y6_ r.2.2.2.2.2 (.deep true .no))])) ?_ ?_
    ·rintro ⟨i_12, i_32, i_02, i_22⟩ he
     refine go_bind he fun r9_ he => ?_
     have he := ok_some he
     exact ⟨rfl, _, _, (leads_ren [(901, 120900), (902, 120901)] (l := [(4, .c (.own 900 false)), (5, .c (.bool false))]) (st' := [(0, .rc [.own 901 false, .int .i64 i_12, .own 902 false, .bool i_32]), (1, .dead), (2, .dead), (900, .sl 4 .bool ([] : List Bool) .shallow), (901, .sl 89 y3_ r9_.1 .shallow), (902, .sl 96 y6_ r9_.2 (.deep true .no))]) rfl rfl ⟨⟨⟨⟨rfl, rfl⟩, trivial⟩, rfl, ⟨⟨rfl, rfl⟩, trivial⟩, .inl rfl, trivial⟩, trivial, trivial, trivial, ⟨rfl, rfl⟩, ⟨rfl, rfl⟩, trivial⟩ ⟨⟨rfl, trivial⟩, .inr rfl, trivial⟩), he⟩
    ·skip
     refine go_if he (fun he => ?_) fun he => ?_
     ·refine go_bind he fun r4_ he => ?_
      refine go_if he (fun he => ?_) fun he => ?_
      ·have he := ok_some he
       exact ⟨rfl, _, _, (leads_ren [(900, 74900), (901, 1), (902, 2)] (l := [(4, .c (.own 900 false)), (5, .c (.bool true))]) (st' := [(0, .rc [.own 901 false, .int .i64 (o0_1 - (1:Int)), .own 902 false, .bool o0_3]), (1, .dead), (2, .dead), (900, .sl 4 .bool r4_.2.2 .shallow), (901, .sl 89 y3_ o1 .shallow), (902, .sl 96 y6_ o2 (.deep true .no))]) rfl rfl ⟨⟨⟨⟨rfl, rfl⟩, trivial⟩, rfl, ⟨⟨rfl, rfl⟩, trivial⟩, .inl rfl, trivial⟩, trivial, trivial, ⟨rfl, rfl⟩, ⟨rfl, rfl⟩, ⟨rfl, rfl⟩, trivial⟩ ⟨⟨⟨rfl, rfl⟩, trivial⟩, .inr rfl, trivial⟩), he⟩
      ·refine seq_model mixed tys_ok (t_impl_searching_visit__Rsd n_ ih) (S := Int × Bool × (List D3_) × (List D6_)) (I := (fun (i_11, i_31, i_01, i_21) => (envOf [(0, .c (.ptr 0 0)), (1, .c (.imm y0_ a1))], [(0, .rc [.own 10003000 false, .int .i64 i_11, .own 10003001 false, .bool i_31]), (1, .dead), (2, .dead), (10003000, .sl 89 y3_ i_01 .shallow), (10003001, .sl 96 y6_ i_21 (.deep true .no))]))) (B := fun s => Ok (impl_searching_visit__Rsd_j3 a1 s) (fun r => k (.tup [.c (.own 900 false), .c (.bool r.1)]) [(0, .rc [.own 901 false, .int .i64 r.2.1, .own 902 false, .bool r.2.2.1]), (1, .dead), (2, .dead), (900, .sl 4 .bool r.2.2.2.1 .shallow), (901, .sl 89 y3_ r.2.2.2.2.1 .shallow), (902, .sl 96 y6_ r.2.2.2.2.2 (.deep true .no))])) ?_ ?_
       ·rintro ⟨i_11, i_31, i_01, i_21⟩ he
        refine go_if he (fun he => ?_) fun he => ?_
        ·have he := ok_some he
         exact ⟨rfl, _, _, (leads_ren [(901, 10003000), (902, 10003001)] (l := [(4, .c (.own 900 false)), (5, .c (.bool false))]) (st' := [(0, .rc [.own 901 false, .int .i64 i_11, .own 902 false, .bool true]), (1, .dead), (2, .dead), (900, .sl 4 .bool ([] : List Bool) .shallow), (901, .sl 89 y3_ i_01 .shallow), (902, .sl 96 y6_ i_21 (.deep true .no))]) rfl rfl ⟨⟨⟨⟨rfl, rfl⟩, trivial⟩, rfl, ⟨⟨rfl, rfl⟩, trivial⟩, .inr rfl, trivial⟩, trivial, trivial, trivial, ⟨rfl, rfl⟩, ⟨rfl, rfl⟩, trivial⟩ ⟨⟨rfl, trivial⟩, .inr rfl, trivial⟩), he⟩
        ·exact ⟨(i_11, i_31, i_01, i_21), he, (leads_ren [(10004000, 10003000), (10004001, 10003001)] rfl rfl ⟨⟨⟨⟨rfl, rfl⟩, trivial⟩, rfl, ⟨⟨rfl, rfl⟩, trivial⟩, .inl rfl, trivial⟩, trivial, trivial, ⟨rfl, rfl⟩, ⟨rfl, rfl⟩, trivial⟩ ⟨⟨⟨rfl, rfl⟩, rfl⟩, .inl rfl, trivial⟩)⟩
       ·skip
        refine go_rq he fun he => ?_
        refine loop_model mixed tys_ok (t_impl_searching_visit__Rsd n_ ih) (S := Int × Int × Bool × (List D3_) × (List D6_)) (I := (fun (i3, i_1, i_3, i_0, i_2) => (envOf [(0, .c (.ptr 0 0)), (1, .c (.imm y0_ a1)), (82, .c (.own 10002000 false)), (83, .c (.int .i64 ([r4_.1, (0 - r4_.1)].length:Int))), (84, .c (.int .i64 i3))], [(0, .rc [.own 10002001 false, .int .i64 i_1, .own 10002002 false, .bool i_3]), (1, .dead), (2, .dead), (10002000, .sl 3 y0_ [r4_.1, (0 - r4_.1)] .shallow), (10002001, .sl 89 y3_ i_0 .shallow), (10002002, .sl 96 y6_ i_2 (.deep true .no))]))) (f := impl_searching_visit__Rsd_l1 a1 r4_ (impl_searching_visit__Rsd n_)) (K := (fun r => k (.tup [.c (.own 900 false), .c (.bool r.1)]) [(0, .rc [.own 901 false, .int .i64 r.2.1, .own 902 false, .bool r.2.2.1]), (1, .dead), (2, .dead), (900, .sl 4 .bool r.2.2.2.1 .shallow), (901, .sl 89 y3_ r.2.2.2.2.1 .shallow), (902, .sl 96 y6_ r.2.2.2.2.2 (.deep true .no))])) he (leads_ren [(10002000, 82), (10002001, 1), (10002002, 2)] rfl rfl ⟨⟨⟨⟨rfl, rfl⟩, trivial⟩, rfl, ⟨⟨rfl, rfl⟩, trivial⟩, .inl rfl, trivial⟩, trivial, trivial, ⟨rfl, rfl⟩, ⟨rfl, rfl⟩, ⟨rfl, rfl⟩, trivial⟩ ⟨⟨⟨rfl, rfl⟩, rfl⟩, .inl rfl, ⟨⟨rfl, rfl⟩, trivial⟩, rfl, rfl, trivial⟩) ?_
        rintro ⟨i3, i_1, i_3, i_0, i_2⟩ J1 he
        refine go_if he (fun he => ?_) fun he => ?_
        ·refine go_rq he fun he => ?_
         refine go_bind he fun r7_ he => ?_
         refine go_rq he fun he => ?_
         refine go_bind he fun r8_ he => ?_
         refine go_if2 he (fun he => ?_) fun he => ?_
         ·refine go_if he (fun he => ?_) fun he => ?_
          ·have he := ok_some he
           exact ⟨rfl, _, _, (leads_ren [(900, 96900), (901, 96901), (902, 96902)] (l := [(4, .c (.own 900 false)), (5, .c (.bool r8_.1))]) (st' := [(0, .rc [.own 901 false, .int .i64 r8_.2.1, .own 902 false, .bool r8_.2.2.1]), (1, .dead), (2, .dead), (900, .sl 4 .bool r8_.2.2.2.1 .shallow), (901, .sl 89 y3_ r8_.2.2.2.2.1 .shallow), (902, .sl 96 y6_ r8_.2.2.2.2.2 (.deep true .no))]) rfl rfl ⟨⟨⟨⟨rfl, rfl⟩, trivial⟩, rfl, ⟨⟨rfl, rfl⟩, trivial⟩, .inl rfl, trivial⟩, trivial, trivial, ⟨rfl, rfl⟩, ⟨rfl, rfl⟩, ⟨rfl, rfl⟩, trivial⟩ ⟨⟨⟨rfl, rfl⟩, trivial⟩, .inl rfl, trivial⟩), he⟩
          ·refine go_rq he fun he => ?_
           have he := ok_some he
           exact ⟨((i3 + (1:Int)), r8_.2.1, r8_.2.2.1, r8_.2.2.2.2.1, r8_.2.2.2.2.2), he, (leads_ren [(10002001, 96901), (10002002, 96902)] rfl rfl ⟨⟨⟨⟨rfl, rfl⟩, trivial⟩, rfl, ⟨⟨rfl, rfl⟩, trivial⟩, .inl rfl, trivial⟩, trivial, trivial, ⟨rfl, rfl⟩, ⟨rfl, rfl⟩, ⟨rfl, rfl⟩, trivial⟩ ⟨⟨⟨rfl, rfl⟩, rfl⟩, .inl rfl, ⟨⟨rfl, rfl⟩, trivial⟩, rfl, rfl, trivial⟩)⟩
         ·have he := ok_some he
          exact ⟨rfl, _, _, (leads_ren [(900, 96900), (901, 96901), (902, 96902)] (l := [(4, .c (.own 900 false)), (5, .c (.bool r8_.1))]) (st' := [(0, .rc [.own 901 false, .int .i64 r8_.2.1, .own 902 false, .bool r8_.2.2.1]), (1, .dead), (2, .dead), (900, .sl 4 .bool r8_.2.2.2.1 .shallow), (901, .sl 89 y3_ r8_.2.2.2.2.1 .shallow), (902, .sl 96 y6_ r8_.2.2.2.2.2 (.deep true .no))]) rfl rfl ⟨⟨⟨⟨rfl, rfl⟩, trivial⟩, rfl, ⟨⟨rfl, rfl⟩, trivial⟩, .inl rfl, trivial⟩, trivial, trivial, ⟨rfl, rfl⟩, ⟨rfl, rfl⟩, ⟨rfl, rfl⟩, trivial⟩ ⟨⟨⟨rfl, rfl⟩, trivial⟩, .inl rfl, trivial⟩), he⟩
        ·exact ⟨(i_1, i_3, i_0, i_2), ok_up he, (leads_ren [(10003000, 10002001), (10003001, 10002002)] rfl rfl ⟨⟨⟨⟨rfl, rfl⟩, trivial⟩, rfl, ⟨⟨rfl, rfl⟩, trivial⟩, .inl rfl, trivial⟩, trivial, trivial, ⟨rfl, rfl⟩, ⟨rfl, rfl⟩, trivial⟩ ⟨⟨⟨rfl, rfl⟩, rfl⟩, .inl rfl, trivial⟩)⟩
     ·exact ⟨((o0_1 - (1:Int)), o0_3, o1, o2), he, (leads_ren [(10004000, 1), (10004001, 2)] rfl rfl ⟨⟨⟨⟨rfl, rfl⟩, trivial⟩, rfl, ⟨⟨rfl, rfl⟩, trivial⟩, .inl rfl, trivial⟩, trivial, trivial, ⟨rfl, rfl⟩, ⟨rfl, rfl⟩, trivial⟩ ⟨⟨⟨rfl, rfl⟩, rfl⟩, .inl rfl, trivial⟩)⟩
   ·skip
    refine loop_model mixed tys_ok (t_impl_searching_visit__Rsd n_ ih) (S := Int × (List Int)) (I := (fun (i, i1) => (envOf [(0, .c (.ptr 0 0)), (1, .c (.imm y0_ a1)), (6, .c (.own 10000000 false)), (41, .c (.imm y0_ a1)), (42, .c (.int .i64 (a1.length:Int))), (43, .c (.int .i64 i))], [(0, .rc [.own 1 false, .int .i64 (o0_1 - (1:Int)), .own 2 false, .bool o0_3]), (1, .sl 89 y3_ o1 .shallow), (2, .sl 96 y6_ o2 (.deep true .no)), (10000000, .sl 3 y0_ i1 .shallow)]))) (f := impl_searching_visit__Rsd_l2 a1 o0_1 o0_3 o1 o2 (impl_searching_visit__Rsd n_)) (K := (fun r => k (.tup [.c (.own 900 false), .c (.bool r.1)]) [(0, .rc [.own 901 false, .int .i64 r.2.1, .own 902 false, .bool r.2.2.1]), (1, .dead), (2, .dead), (900, .sl 4 .bool r.2.2.2.1 .shallow), (901, .sl 89 y3_ r.2.2.2.2.1 .shallow), (902, .sl 96 y6_ r.2.2.2.2.2 (.deep true .no))])) he (leads_ren [(10000000, 40)] rfl rfl ⟨⟨⟨⟨rfl, rfl⟩, trivial⟩, rfl, ⟨⟨rfl, rfl⟩, trivial⟩, .inl rfl, trivial⟩, ⟨rfl, rfl⟩, ⟨rfl, rfl⟩, ⟨rfl, rfl⟩, trivial⟩ ⟨⟨⟨rfl, rfl⟩, rfl⟩, .inl rfl, ⟨⟨rfl, rfl⟩, trivial⟩, .inl rfl, rfl, rfl, trivial⟩) ?_
    rintro ⟨i, i1⟩ J1 he
    refine go_if he (fun he => ?_) fun he => ?_
    ·refine go_rq he fun he => ?_
     refine go_bind he fun r2_ he => ?_
     refine go_rq he fun he => ?_
     refine go_rq he fun he => ?_
     refine go_if he (fun he => ?_) fun he => ?_
     ·refine go_rq he fun he => ?_
      refine go_rq he fun he => ?_
      refine go_rq he fun he => ?_
      refine go_rq he fun he => ?_
      have he := ok_some he
      exact ⟨((i + (1:Int)), ((i1.set (r2_ - (1:Int)).toNat (1:Int)).set ((0 - (a1.getD i.toNat 0)) - (1:Int)).toNat (-1:Int))), he, (leads_ren [] rfl rfl ⟨⟨⟨⟨rfl, rfl⟩, trivial⟩, rfl, ⟨⟨rfl, rfl⟩, trivial⟩, .inl rfl, trivial⟩, ⟨rfl, rfl⟩, ⟨rfl, rfl⟩, ⟨rfl, rfl⟩, trivial⟩ ⟨⟨⟨rfl, rfl⟩, rfl⟩, .inl rfl, ⟨⟨rfl, rfl⟩, trivial⟩, .inl rfl, rfl, rfl, trivial⟩)⟩
     ·refine go_rq he fun he => ?_
      have he := ok_some he
      exact ⟨((i + (1:Int)), (i1.set (r2_ - (1:Int)).toNat (1:Int))), he, (leads_ren [] rfl rfl ⟨⟨⟨⟨rfl, rfl⟩, trivial⟩, rfl, ⟨⟨rfl, rfl⟩, trivial⟩, .inl rfl, trivial⟩, ⟨rfl, rfl⟩, ⟨rfl, rfl⟩, ⟨rfl, rfl⟩, trivial⟩ ⟨⟨⟨rfl, rfl⟩, rfl⟩, .inl rfl, ⟨⟨rfl, rfl⟩, trivial⟩, .inl rfl, rfl, rfl, trivial⟩)⟩
    ·exact ⟨i1, ok_up he, (leads_ren [(10001000, 10000000)] rfl rfl ⟨⟨⟨⟨rfl, rfl⟩, trivial⟩, rfl, ⟨⟨rfl, rfl⟩, trivial⟩, .inl rfl, trivial⟩, ⟨rfl, rfl⟩, ⟨rfl, rfl⟩, ⟨rfl, rfl⟩, trivial⟩ ⟨⟨⟨rfl, rfl⟩, rfl⟩, .inl rfl, ⟨⟨rfl, rfl⟩, trivial⟩, trivial⟩)⟩
 ·have he := ok_some he
  exact ⟨rfl, _, _, (leads_ren [(901, 1), (902, 2)] (l := [(4, .c (.own 900 false)), (5, .c (.bool false))]) (st' := [(0, .rc [.own 901 false, .int .i64 o0_1, .own 902 false, .bool true]), (1, .dead), (2, .dead), (900, .sl 4 .bool ([] : List Bool) .shallow), (901, .sl 89 y3_ o1 .shallow), (902, .sl 96 y6_ o2 (.deep true .no))]) rfl rfl ⟨⟨⟨⟨rfl, rfl⟩, trivial⟩, rfl, ⟨⟨rfl, rfl⟩, trivial⟩, .inr rfl, trivial⟩, trivial, trivial, trivial, ⟨rfl, rfl⟩, ⟨rfl, rfl⟩, trivial⟩ ⟨⟨rfl, trivial⟩, .inr rfl, trivial⟩), he⟩

theorem k_impl_searching_visit__Rsd : ∀ n_, Entry Tryz.prog 114 (c_impl_searching_visit__Rsd n_)
  | 0 => by
    refine entry_by (C := { y := tys, n := 120, h := 3, tab := [], cut := [], hand := [], good := [], deep := [], sched := [] }) mixed tys_ok (tabOk_of (fun p h => by cases h)) (fn := Tryz.f114) (c := bd Tryz.f114) (by kernel_rfl) (by kernel_rfl) (by kernel_rfl) (by kernel_rfl) ?_
    intro args st k he
    unfold c_impl_searching_visit__Rsd at he
    split at he
    · obtain ⟨x, hx, _⟩ := he
      cases hx
    · exact he.elim
  | n_ + 1 => k_impl_searching_visit__Rsd_step n_ (k_impl_searching_visit__Rsd n_)

noncomputable def c_impl_searching_visit__R0s (n_ : Nat) : Con := fun args st => match args, st with
  | [.c (.ptr 0 0), .c (.imm (.int .i64) a1)], [(0, .rc [.own 1 false, .int .i64 o0_1, .nil, .bool o0_3]), (1, .sl 89 (.pair (.sl (.pair (.int .i64) (.int .i64))) (.int .i64)) o1 .shallow)] => .opt (Bool × Int × Bool × (List Bool) × (List D3_) × (List D6_)) (impl_searching_visit__R0s n_ a1 o0_1 o0_3 o1) (fun r => .ret (.tup [.c (.own 900 false), .c (.bool r.1)]) [(0, .rc [.own 901 false, .int .i64 r.2.1, .own 902 false, .bool r.2.2.1]), (1, .dead), (900, .sl 4 .bool r.2.2.2.1 .shallow), (901, .sl 89 y3_ r.2.2.2.2.1 .shallow), (902, .sl 96 y6_ r.2.2.2.2.2 (.deep true .no))])
  | _, _ => .fail

noncomputable def C_impl_searching_visit__R0s (n_ : Nat) : Cfg := { y := tys, n := 120, h := 2, tab := [(75, c_slices_Clone_int), (114, (c_impl_searching_visit__Rsd 64)), (170, c_impl_variableOf), (171, c_impl_propagate), (172, c_impl_valuesOf), (173, c_impl_searching_fail__Rsd)], cut := [13, 25, 28], hand := [], good := [], deep := [], sched := [] }

theorem t_impl_searching_visit__R0s (n_ : Nat) (ih : Entry Tryz.prog 114 (c_impl_searching_visit__R0s n_)) : TabOk Tryz.prog (C_impl_searching_visit__R0s n_) := by
  refine tabOk_of ?_
  simp only [C_impl_searching_visit__R0s, List.forall_mem_cons]
  exact ⟨k_slices_Clone_int, (k_impl_searching_visit__Rsd 64), k_impl_variableOf, k_impl_propagate, k_impl_valuesOf, k_impl_searching_fail__Rsd, fun p h => by cases h⟩

theorem k_impl_searching_visit__R0s_step (n_ : Nat) (ih : Entry Tryz.prog 114 (c_impl_searching_visit__R0s n_)) : Entry Tryz.prog 114 (c_impl_searching_visit__R0s (n_ + 1)) := by
 refine entry_by (C := (C_impl_searching_visit__R0s n_)) mixed tys_ok (t_impl_searching_visit__R0s n_ ih) (fn := Tryz.f114) (c := bd Tryz.f114) (by kernel_rfl) (by kernel_rfl) (by kernel_rfl) (by kernel_rfl) ?_
 intro args st k he
 unfold c_impl_searching_visit__R0s at he
 split at he
 rotate_left
 ·exact he.elim
 rename_i a1 o0_1 o0_3 o1
 have he : Ok (impl_searching_visit__R0s_rec (impl_searching_visit__R0s n_) a1 o0_1 o0_3 o1) (fun r => k (.tup [.c (.own 900 false), .c (.bool r.1)]) [(0, .rc [.own 901 false, .int .i64 r.2.1, .own 902 false, .bool r.2.2.1]), (1, .dead), (900, .sl 4 .bool r.2.2.2.1 .shallow), (901, .sl 89 y3_ r.2.2.2.2.1 .shallow), (902, .sl 96 y6_ r.2.2.2.2.2 (.deep true .no))]) := he
 refine ⟨rfl, rfl, ?_⟩
 refine go_if2 he (fun he => ?_) fun he => ?_
 ·refine go_if he (fun he => ?_) fun he => ?_
  ·have he := ok_some he
   exact ⟨rfl, _, _, (leads_ren [(901, 1)] (l := [(4, .c (.own 900 false)), (5, .c (.bool false))]) (st' := [(0, .rc [.own 901 false, .int .i64 o0_1, .own 902 false, .bool true]), (1, .dead), (900, .sl 4 .bool ([] : List Bool) .shallow), (901, .sl 89 y3_ o1 .shallow), (902, .sl 96 y6_ ([] : List D6_) (.deep true .no))]) rfl rfl ⟨⟨⟨⟨rfl, rfl⟩, trivial⟩, rfl, ⟨rfl, trivial⟩, .inr rfl, trivial⟩, trivial, trivial, ⟨rfl, rfl⟩, trivial, trivial⟩ ⟨⟨rfl, trivial⟩, .inr rfl, trivial⟩), he⟩
  ·refine go_rq he fun he => ?_
   refine go_rq he fun he => ?_
   refine seq_model mixed tys_ok (t_impl_searching_visit__R0s n_ ih) (S := (List Int)) (I := (fun i2 => (envOf [(0, .c (.ptr 0 0)), (1, .c (.imm y0_ a1)), (6, .c (.own 10001000 false))], [(0, .rc [.own 1 false, .int .i64 (o0_1 - (1:Int)), .nil, .bool o0_3]), (1, .sl 89 y3_ o1 .shallow), (10001000, .sl 3 y0_ i2 .shallow)]))) (B := fun s => Ok (impl_searching_visit__R0s_j1 a1 o0_1 o0_3 o1 s) (fun r => k (.tup [.c (.own 900 false), .c (.bool r.1)]) [(0, .rc [.own 901 false, .int .i64 r.2.1, .own 902 false, .bool r.2.2.1]), (1, .dead), (900, .sl 4 .bool r.2.2.2.1 .shallow), (901, .sl 89 y3_ r.2.2.2.2.1 .shallow), (902, .sl 96 y6_ r.2.2.2.2.2 (.deep true .no))])) ?_ ?_
   ·rintro i2 he
    refine go_bind he fun r3_ he => ?_
    refine seq_model mixed tys_ok (t_impl_searching_visit__R0s n_ ih) (S := Int × Bool × (List D3_) × (List D6_)) (I := (fun (i_12, i_32, i_02, i_22) => (envOf [(0, .c (.ptr 0 0)), (1, .c (.imm y0_ a1))], [(0, .rc [.own 10004000 false, .int .i64 i_12, .own 10004001 false, .bool i_32]), (1, .dead), (10004000, .sl 89 y3_ i_02 .shallow), (10004001, .sl 96 y6_ i_22 (.deep true .no))]))) (B := fun s => Ok (impl_searching_visit__R0s_j2 a1 s) (fun r => k (.tup [.c (.own 900 false), .c (.bool r.1)]) [(0, .rc [.own 901 false, .int .i64 r.2.1, .own 902 false, .bool r.2.2.1]), (1, .dead), (900, .sl 4 .bool r.2.2.2.1 .shallow), (901, .sl 89 y3_ r.2.2.2.2.1 .shallow), (902, .sl 96 y6_ r.2.2.2.2.2 (.deep true .no))])) ?_ ?_
    ·rintro ⟨i_12, i_32, i_02, i_22⟩ he
     refine go_bind he fun r9_ he => ?_
     have he := ok_some he
     exact ⟨rfl, _, _, (leads_ren [(901, 120900), (902, 120901)] (l := [(4, .c (.own 900 false)), (5, .c (.bool false))]) (st' := [(0, .rc [.own 901 false, .int .i64 i_12, .own 902 false, .bool i_32]), (1, .dead), (900, .sl 4 .bool ([] : List Bool) .shallow), (901, .sl 89 y3_ r9_.1 .shallow), (902, .sl 96 y6_ r9_.2 (.deep true .no))]) rfl rfl ⟨⟨⟨⟨rfl, rfl⟩, trivial⟩, rfl, ⟨⟨rfl, rfl⟩, trivial⟩, .inl rfl, trivial⟩, trivial, trivial, ⟨rfl, rfl⟩, ⟨rfl, rfl⟩, trivial⟩ ⟨⟨rfl, trivial⟩, .inr rfl, trivial⟩), he⟩
    ·skip
     refine go_if he (fun he => ?_) fun he => ?_
     ·refine go_bind he fun r4_ he => ?_
      refine go_if he (fun he => ?_) fun he => ?_
      ·have he := ok_some he
       exact ⟨rfl, _, _, (leads_ren [(900, 74900), (901, 1)] (l := [(4, .c (.own 900 false)), (5, .c (.bool true))]) (st' := [(0, .rc [.own 901 false, .int .i64 (o0_1 - (1:Int)), .own 902 false, .bool o0_3]), (1, .dead), (900, .sl 4 .bool r4_.2.2 .shallow), (901, .sl 89 y3_ o1 .shallow), (902, .sl 96 y6_ ([] : List D6_) (.deep true .no))]) rfl rfl ⟨⟨⟨⟨rfl, rfl⟩, trivial⟩, rfl, ⟨rfl, trivial⟩, .inl rfl, trivial⟩, trivial, ⟨rfl, rfl⟩, ⟨rfl, rfl⟩, trivial, trivial⟩ ⟨⟨⟨rfl, rfl⟩, trivial⟩, .inr rfl, trivial⟩), he⟩
      ·refine seq_model mixed tys_ok (t_impl_searching_visit__R0s n_ ih) (S := Int × Bool × (List D3_) × (List D6_)) (I := (fun (i_11, i_31, i_01, i_21) => (envOf [(0, .c (.ptr 0 0)), (1, .c (.imm y0_ a1))], [(0, .rc [.own 10003000 false, .int .i64 i_11, .own 10003001 false, .bool i_31]), (1, .dead), (10003000, .sl 89 y3_ i_01 .shallow), (10003001, .sl 96 y6_ i_21 (.deep true .no))]))) (B := fun s => Ok (impl_searching_visit__R0s_j3 a1 s) (fun r => k (.tup [.c (.own 900 false), .c (.bool r.1)]) [(0, .rc [.own 901 false, .int .i64 r.2.1, .own 902 false, .bool r.2.2.1]), (1, .dead), (900, .sl 4 .bool r.2.2.2.1 .shallow), (901, .sl 89 y3_ r.2.2.2.2.1 .shallow), (902, .sl 96 y6_ r.2.2.2.2.2 (.deep true .no))])) ?_ ?_
       ·rintro ⟨i_11, i_31, i_01, i_21⟩ he
        refine go_if he (fun he => ?_) fun he => ?_
        ·have he := ok_some he
         exact ⟨rfl, _, _, (leads_ren [(901, 10003000), (902, 10003001)] (l := [(4, .c (.own 900 false)), (5, .c (.bool false))]) (st' := [(0, .rc [.own 901 false, .int .i64 i_11, .own 902 false, .bool true]), (1, .dead), (900, .sl 4 .bool ([] : List Bool) .shallow), (901, .sl 89 y3_ i_01 .shallow), (902, .sl 96 y6_ i_21 (.deep true .no))]) rfl rfl ⟨⟨⟨⟨rfl, rfl⟩, trivial⟩, rfl, ⟨⟨rfl, rfl⟩, trivial⟩, .inr rfl, trivial⟩, trivial, trivial, ⟨rfl, rfl⟩, ⟨rfl, rfl⟩, trivial⟩ ⟨⟨rfl, trivial⟩, .inr rfl, trivial⟩), he⟩
        ·exact ⟨(i_11, i_31, i_01, i_21), he, (leads_ren [(10004000, 10003000), (10004001, 10003001)] rfl rfl ⟨⟨⟨⟨rfl, rfl⟩, trivial⟩, rfl, ⟨⟨rfl, rfl⟩, trivial⟩, .inl rfl, trivial⟩, trivial, ⟨rfl, rfl⟩, ⟨rfl, rfl⟩, trivial⟩ ⟨⟨⟨rfl, rfl⟩, rfl⟩, .inl rfl, trivial⟩)⟩
       ·skip
        refine go_rq he fun he => ?_
        refine loop_model mixed tys_ok (t_impl_searching_visit__R0s n_ ih) (S := Int × Int × Bool × (List D3_) × (List D6_)) (I := (fun (i3, i_1, i_3, i_0, i_2) => (envOf [(0, .c (.ptr 0 0)), (1, .c (.imm y0_ a1)), (82, .c (.own 10002000 false)), (83, .c (.int .i64 ([r4_.1, (0 - r4_.1)].length:Int))), (84, .c (.int .i64 i3))], [(0, .rc [.own 10002001 false, .int .i64 i_1, .own 10002002 false, .bool i_3]), (1, .dead), (10002000, .sl 3 y0_ [r4_.1, (0 - r4_.1)] .shallow), (10002001, .sl 89 y3_ i_0 .shallow), (10002002, .sl 96 y6_ i_2 (.deep true .no))]))) (f := impl_searching_visit__R0s_l1 a1 r4_) (K := (fun r => k (.tup [.c (.own 900 false), .c (.bool r.1)]) [(0, .rc [.own 901 false, .int .i64 r.2.1, .own 902 false, .bool r.2.2.1]), (1, .dead), (900, .sl 4 .bool r.2.2.2.1 .shallow), (901, .sl 89 y3_ r.2.2.2.2.1 .shallow), (902, .sl 96 y6_ r.2.2.2.2.2 (.deep true .no))])) he (leads_ren [(10002000, 82), (10002001, 1)] rfl rfl ⟨⟨⟨⟨rfl, rfl⟩, trivial⟩, rfl, ⟨rfl, trivial⟩, .inl rfl, trivial⟩, trivial, ⟨rfl, rfl⟩, ⟨rfl, rfl⟩, trivial, trivial⟩ ⟨⟨⟨rfl, rfl⟩, rfl⟩, .inl rfl, ⟨⟨rfl, rfl⟩, trivial⟩, rfl, rfl, trivial⟩) ?_
        rintro ⟨i3, i_1, i_3, i_0, i_2⟩ J1 he
        refine go_if he (fun he => ?_) fun he => ?_
        ·refine go_rq he fun he => ?_
         refine go_bind he fun r7_ he => ?_
         refine go_rq he fun he => ?_
         refine go_bind he fun r8_ he => ?_
         refine go_if2 he (fun he => ?_) fun he => ?_
         ·refine go_if he (fun he => ?_) fun he => ?_
          ·have he := ok_some he
           exact ⟨rfl, _, _, (leads_ren [(900, 96900), (901, 96901), (902, 96902)] (l := [(4, .c (.own 900 false)), (5, .c (.bool r8_.1))]) (st' := [(0, .rc [.own 901 false, .int .i64 r8_.2.1, .own 902 false, .bool r8_.2.2.1]), (1, .dead), (900, .sl 4 .bool r8_.2.2.2.1 .shallow), (901, .sl 89 y3_ r8_.2.2.2.2.1 .shallow), (902, .sl 96 y6_ r8_.2.2.2.2.2 (.deep true .no))]) rfl rfl ⟨⟨⟨⟨rfl, rfl⟩, trivial⟩, rfl, ⟨⟨rfl, rfl⟩, trivial⟩, .inl rfl, trivial⟩, trivial, ⟨rfl, rfl⟩, ⟨rfl, rfl⟩, ⟨rfl, rfl⟩, trivial⟩ ⟨⟨⟨rfl, rfl⟩, trivial⟩, .inl rfl, trivial⟩), he⟩
          ·refine go_rq he fun he => ?_
           have he := ok_some he
           exact ⟨((i3 + (1:Int)), r8_.2.1, r8_.2.2.1, r8_.2.2.2.2.1, r8_.2.2.2.2.2), he, (leads_ren [(10002001, 96901), (10002002, 96902)] rfl rfl ⟨⟨⟨⟨rfl, rfl⟩, trivial⟩, rfl, ⟨⟨rfl, rfl⟩, trivial⟩, .inl rfl, trivial⟩, trivial, ⟨rfl, rfl⟩, ⟨rfl, rfl⟩, ⟨rfl, rfl⟩, trivial⟩ ⟨⟨⟨rfl, rfl⟩, rfl⟩, .inl rfl, ⟨⟨rfl, rfl⟩, trivial⟩, rfl, rfl, trivial⟩)⟩
         ·have he := ok_some he
          exact ⟨rfl, _, _, (leads_ren [(900, 96900), (901, 96901), (902, 96902)] (l := [(4, .c (.own 900 false)), (5, .c (.bool r8_.1))]) (st' := [(0, .rc [.own 901 false, .int .i64 r8_.2.1, .own 902 false, .bool r8_.2.2.1]), (1, .dead), (900, .sl 4 .bool r8_.2.2.2.1 .shallow), (901, .sl 89 y3_ r8_.2.2.2.2.1 .shallow), (902, .sl 96 y6_ r8_.2.2.2.2.2 (.deep true .no))]) rfl rfl ⟨⟨⟨⟨rfl, rfl⟩, trivial⟩, rfl, ⟨⟨rfl, rfl⟩, trivial⟩, .inl rfl, trivial⟩, trivial, ⟨rfl, rfl⟩, ⟨rfl, rfl⟩, ⟨rfl, rfl⟩, trivial⟩ ⟨⟨⟨rfl, rfl⟩, trivial⟩, .inl rfl, trivial⟩), he⟩
        ·exact ⟨(i_1, i_3, i_0, i_2), ok_up he, (leads_ren [(10003000, 10002001), (10003001, 10002002)] rfl rfl ⟨⟨⟨⟨rfl, rfl⟩, trivial⟩, rfl, ⟨⟨rfl, rfl⟩, trivial⟩, .inl rfl, trivial⟩, trivial, ⟨rfl, rfl⟩, ⟨rfl, rfl⟩, trivial⟩ ⟨⟨⟨rfl, rfl⟩, rfl⟩, .inl rfl, trivial⟩)⟩
     ·exact ⟨((o0_1 - (1:Int)), o0_3, o1, ([] : List D6_)), he, (leads_ren [(10004000, 1)] rfl rfl ⟨⟨⟨⟨rfl, rfl⟩, trivial⟩, rfl, ⟨rfl, trivial⟩, .inl rfl, trivial⟩, trivial, ⟨rfl, rfl⟩, trivial, trivial⟩ ⟨⟨⟨rfl, rfl⟩, rfl⟩, .inl rfl, trivial⟩)⟩
   ·skip
    refine loop_model mixed tys_ok (t_impl_searching_visit__R0s n_ ih) (S := Int × (List Int)) (I := (fun (i, i1) => (envOf [(0, .c (.ptr 0 0)), (1, .c (.imm y0_ a1)), (6, .c (.own 10000000 false)), (41, .c (.imm y0_ a1)), (42, .c (.int .i64 (a1.length:Int))), (43, .c (.int .i64 i))], [(0, .rc [.own 1 false, .int .i64 (o0_1 - (1:Int)), .nil, .bool o0_3]), (1, .sl 89 y3_ o1 .shallow), (10000000, .sl 3 y0_ i1 .shallow)]))) (f := impl_searching_visit__R0s_l2 a1 o0_1 o0_3 o1) (K := (fun r => k (.tup [.c (.own 900 false), .c (.bool r.1)]) [(0, .rc [.own 901 false, .int .i64 r.2.1, .own 902 false, .bool r.2.2.1]), (1, .dead), (900, .sl 4 .bool r.2.2.2.1 .shallow), (901, .sl 89 y3_ r.2.2.2.2.1 .shallow), (902, .sl 96 y6_ r.2.2.2.2.2 (.deep true .no))])) he (leads_ren [(10000000, 40)] rfl rfl ⟨⟨⟨⟨rfl, rfl⟩, trivial⟩, rfl, rfl, .inl rfl, trivial⟩, ⟨rfl, rfl⟩, ⟨rfl, rfl⟩, trivial⟩ ⟨⟨⟨rfl, rfl⟩, rfl⟩, .inl rfl, ⟨⟨rfl, rfl⟩, trivial⟩, .inl rfl, rfl, rfl, trivial⟩) ?_
    rintro ⟨i, i1⟩ J1 he
    refine go_if he (fun he => ?_) fun he => ?_
    ·refine go_rq he fun he => ?_
     refine go_bind he fun r2_ he => ?_
     refine go_rq he fun he => ?_
     refine go_rq he fun he => ?_
     refine go_if he (fun he => ?_) fun he => ?_
     ·refine go_rq he fun he => ?_
      refine go_rq he fun he => ?_
      refine go_rq he fun he => ?_
      refine go_rq he fun he => ?_
      have he := ok_some he
      exact ⟨((i + (1:Int)), ((i1.set (r2_ - (1:Int)).toNat (1:Int)).set ((0 - (a1.getD i.toNat 0)) - (1:Int)).toNat (-1:Int))), he, (leads_ren [] rfl rfl ⟨⟨⟨⟨rfl, rfl⟩, trivial⟩, rfl, rfl, .inl rfl, trivial⟩, ⟨rfl, rfl⟩, ⟨rfl, rfl⟩, trivial⟩ ⟨⟨⟨rfl, rfl⟩, rfl⟩, .inl rfl, ⟨⟨rfl, rfl⟩, trivial⟩, .inl rfl, rfl, rfl, trivial⟩)⟩
     ·refine go_rq he fun he => ?_
      have he := ok_some he
      exact ⟨((i + (1:Int)), (i1.set (r2_ - (1:Int)).toNat (1:Int))), he, (leads_ren [] rfl rfl ⟨⟨⟨⟨rfl, rfl⟩, trivial⟩, rfl, rfl, .inl rfl, trivial⟩, ⟨rfl, rfl⟩, ⟨rfl, rfl⟩, trivial⟩ ⟨⟨⟨rfl, rfl⟩, rfl⟩, .inl rfl, ⟨⟨rfl, rfl⟩, trivial⟩, .inl rfl, rfl, rfl, trivial⟩)⟩
    ·exact ⟨i1, ok_up he, (leads_ren [(10001000, 10000000)] rfl rfl ⟨⟨⟨⟨rfl, rfl⟩, trivial⟩, rfl, rfl, .inl rfl, trivial⟩, ⟨rfl, rfl⟩, ⟨rfl, rfl⟩, trivial⟩ ⟨⟨⟨rfl, rfl⟩, rfl⟩, .inl rfl, ⟨⟨rfl, rfl⟩, trivial⟩, trivial⟩)⟩
 ·have he := ok_some he
  exact ⟨rfl, _, _, (leads_ren [(901, 1)] (l := [(4, .c (.own 900 false)), (5, .c (.bool false))]) (st' := [(0, .rc [.own 901 false, .int .i64 o0_1, .own 902 false, .bool true]), (1, .dead), (900, .sl 4 .bool ([] : List Bool) .shallow), (901, .sl 89 y3_ o1 .shallow), (902, .sl 96 y6_ ([] : List D6_) (.deep true .no))]) rfl rfl ⟨⟨⟨⟨rfl, rfl⟩, trivial⟩, rfl, ⟨rfl, trivial⟩, .inr rfl, trivial⟩, trivial, trivial, ⟨rfl, rfl⟩, trivial, trivial⟩ ⟨⟨rfl, trivial⟩, .inr rfl, trivial⟩), he⟩

theorem k_impl_searching_visit__R0s : ∀ n_, Entry Tryz.prog 114 (c_impl_searching_visit__R0s n_)
  | 0 => by
    refine entry_by (C := { y := tys, n := 120, h := 2, tab := [], cut := [], hand := [], good := [], deep := [], sched := [] }) mixed tys_ok (tabOk_of (fun p h => by cases h)) (fn := Tryz.f114) (c := bd Tryz.f114) (by kernel_rfl) (by kernel_rfl) (by kernel_rfl) (by kernel_rfl) ?_
    intro args st k he
    unfold c_impl_searching_visit__R0s at he
    split at he
    · obtain ⟨x, hx, _⟩ := he
      cases hx
    · exact he.elim
  | n_ + 1 => k_impl_searching_visit__R0s_step n_ (k_impl_searching_visit__R0s n_)

noncomputable def c_impl_SolveProblem : Con := fun args st => match args, st with
  | [.c (.imm (.pair (.sl (.pair (.int .i64) (.int .i64))) (.int .i64)) list_), .c (.int .i64 fuel)], [] => .opt (Int × (List Bool) × (List D6_)) (impl_SolveProblem list_ fuel) (fun r => .ret (.tup [.c (.int .i64 r.1), .c (.own 900 false), .c (.own 901 false)]) [(900, .sl 4 .bool r.2.1 .shallow), (901, .sl 96 y6_ r.2.2 (.deep true .no))])
  | _, _ => .fail

noncomputable def C_impl_SolveProblem : Cfg := { y := tys, n := 40, h := 0, tab := [(57, c_impl_isFuel), (61, c_slices_Clone_impl_Constraint), (98, c_impl_ProblemValid), (114, (c_impl_searching_visit__R0s 64))], cut := [], hand := [], good := [], deep := [], sched := [] }

theorem t_impl_SolveProblem : TabOk Tryz.prog C_impl_SolveProblem := by
  refine tabOk_of ?_
  simp only [C_impl_SolveProblem, List.forall_mem_cons]
  exact ⟨k_impl_isFuel, k_slices_Clone_impl_Constraint, k_impl_ProblemValid, (k_impl_searching_visit__R0s 64), fun p h => by cases h⟩

theorem k_impl_SolveProblem : Entry Tryz.prog 44 c_impl_SolveProblem := by
 refine entry_by (C := C_impl_SolveProblem) mixed tys_ok t_impl_SolveProblem (fn := Tryz.f44) (c := bd Tryz.f44) (by kernel_rfl) (by kernel_rfl) (by kernel_rfl) (by kernel_rfl) ?_
 intro args st k he
 unfold c_impl_SolveProblem at he
 split at he
 rotate_left
 ·exact he.elim
 rename_i list_ fuel
 have he : Ok (impl_SolveProblem list_ fuel) (fun r => k (.tup [.c (.int .i64 r.1), .c (.own 900 false), .c (.own 901 false)]) [(900, .sl 4 .bool r.2.1 .shallow), (901, .sl 96 y6_ r.2.2 (.deep true .no))]) := he
 refine ⟨rfl, rfl, ?_⟩
 refine go_bind he fun r1_ he => ?_
 refine go_if2 he (fun he => ?_) fun he => ?_
 ·refine go_bind he fun r2_ he => ?_
  refine go_if he (fun he => ?_) fun he => ?_
  ·have he := ok_some he
   exact ⟨rfl, _, _, (leads_ren [] (l := [(4, .c (.int .i64 (3:Int))), (5, .c (.own 900 false)), (6, .c (.own 901 false))]) (st' := [(900, .sl 4 .bool ([] : List Bool) .shallow), (901, .sl 96 y6_ ([] : List D6_) (.deep true .no))]) rfl rfl ⟨trivial, trivial, trivial⟩ ⟨rfl, ⟨rfl, trivial⟩, ⟨rfl, trivial⟩, trivial⟩), he⟩
  ·refine go_bind he fun r3_ he => ?_
   refine go_bind he fun r4_ he => ?_
   refine go_if he (fun he => ?_) fun he => ?_
   ·have he := ok_some he
    exact ⟨rfl, _, _, (leads_ren [(900, 26900)] (l := [(4, .c (.int .i64 (1:Int))), (5, .c (.own 900 false)), (6, .c (.own 901 false))]) (st' := [(900, .sl 4 .bool r4_.2.2.2.1 .shallow), (901, .sl 96 y6_ ([] : List D6_) (.deep true .no))]) rfl rfl ⟨⟨rfl, rfl⟩, trivial, trivial⟩ ⟨rfl, ⟨⟨rfl, rfl⟩, trivial⟩, ⟨rfl, trivial⟩, trivial⟩), he⟩
   ·refine go_if he (fun he => ?_) fun he => ?_
    ·have he := ok_some he
     exact ⟨rfl, _, _, (leads_ren [] (l := [(4, .c (.int .i64 (0:Int))), (5, .c (.own 900 false)), (6, .c (.own 901 false))]) (st' := [(900, .sl 4 .bool ([] : List Bool) .shallow), (901, .sl 96 y6_ ([] : List D6_) (.deep true .no))]) rfl rfl ⟨trivial, trivial, trivial⟩ ⟨rfl, ⟨rfl, trivial⟩, ⟨rfl, trivial⟩, trivial⟩), he⟩
    ·refine And.intro (by kernel_rfl) ?_
     have he := ok_some he
     exact ⟨rfl, _, _, (leads_ren [(901, 26902)] (l := [(4, .c (.int .i64 (2:Int))), (5, .c (.own 900 false)), (6, .c (.own 901 false))]) (st' := [(900, .sl 4 .bool ([] : List Bool) .shallow), (901, .sl 96 y6_ r4_.2.2.2.2.2 (.deep true .no))]) rfl rfl ⟨trivial, ⟨rfl, rfl⟩, trivial⟩ ⟨rfl, ⟨rfl, trivial⟩, ⟨⟨rfl, rfl⟩, trivial⟩, trivial⟩), he⟩
 ·have he := ok_some he
  exact ⟨rfl, _, _, (leads_ren [] (l := [(4, .c (.int .i64 (3:Int))), (5, .c (.own 900 false)), (6, .c (.own 901 false))]) (st' := [(900, .sl 4 .bool ([] : List Bool) .shallow), (901, .sl 96 y6_ ([] : List D6_) (.deep true .no))]) rfl rfl ⟨trivial, trivial, trivial⟩ ⟨rfl, ⟨rfl, trivial⟩, ⟨rfl, trivial⟩, trivial⟩), he⟩

noncomputable def c_impl_refers : Con := fun args st => match args, st with
  | [.c (.int .i64 kind)], [] => .opt (Int × Bool) (impl_refers kind) (fun r => .ret (.tup [.c (.int .i64 r.1), .c (.bool r.2)]) [])
  | _, _ => .fail

noncomputable def C_impl_refers : Cfg := { y := tys, n := 17, h := 0, tab := [], cut := [], hand := [], good := [], deep := [], sched := [] }

theorem t_impl_refers : TabOk Tryz.prog C_impl_refers := tabOk_of (fun p h => by cases h)

theorem k_impl_refers : Entry Tryz.prog 155 c_impl_refers := by
 refine entry_by (C := C_impl_refers) mixed tys_ok t_impl_refers (fn := Tryz.f155) (c := bd Tryz.f155) (by kernel_rfl) (by kernel_rfl) (by kernel_rfl) (by kernel_rfl) ?_
 intro args st k he
 unfold c_impl_refers at he
 split at he
 rotate_left
 ·exact he.elim
 rename_i kind
 have he : Ok (impl_refers kind) (fun r => k (.tup [.c (.int .i64 r.1), .c (.bool r.2)]) []) := he
 refine ⟨rfl, rfl, ?_⟩
 refine go_if he (fun he => ?_) fun he => ?_
 ·have he := ok_some he
  exact ⟨rfl, _, _, Leads.refl _ _, he⟩
 ·refine go_if he (fun he => ?_) fun he => ?_
  ·have he := ok_some he
   exact ⟨rfl, _, _, Leads.refl _ _, he⟩
  ·refine go_if he (fun he => ?_) fun he => ?_
   ·have he := ok_some he
    exact ⟨rfl, _, _, Leads.refl _ _, he⟩
   ·refine go_if he (fun he => ?_) fun he => ?_
    ·have he := ok_some he
     exact ⟨rfl, _, _, Leads.refl _ _, he⟩
    ·refine go_if he (fun he => ?_) fun he => ?_
     ·have he := ok_some he
      exact ⟨rfl, _, _, Leads.refl _ _, he⟩
     ·refine go_if he (fun he => ?_) fun he => ?_
      ·have he := ok_some he
       exact ⟨rfl, _, _, Leads.refl _ _, he⟩
      ·refine go_if he (fun he => ?_) fun he => ?_
       ·have he := ok_some he
        exact ⟨rfl, _, _, Leads.refl _ _, he⟩
       ·refine go_if he (fun he => ?_) fun he => ?_
        ·have he := ok_some he
         exact ⟨rfl, _, _, Leads.refl _ _, he⟩
        ·have he := ok_some he
         exact ⟨rfl, _, _, Leads.refl _ _, he⟩

noncomputable def c_slices_Equal_impl_Term : Con := fun args st => match args, st with
  | [.c (.imm (.pair (.int .i64) (.int .i64)) s1_), .c (.imm (.pair (.int .i64) (.int .i64)) s2_)], [] => .opt (Bool) (slices_Equal_impl_Term s1_ s2_) (fun r => .ret (.c (.bool r)) [])
  | _, _ => .fail

noncomputable def C_slices_Equal_impl_Term : Cfg := { y := tys, n := 26, h := 0, tab := [], cut := [], hand := [], good := [], deep := [], sched := [] }

theorem t_slices_Equal_impl_Term : TabOk Tryz.prog C_slices_Equal_impl_Term := tabOk_of (fun p h => by cases h)

theorem k_slices_Equal_impl_Term : Entry Tryz.prog 137 c_slices_Equal_impl_Term := by
 refine entry_by (C := C_slices_Equal_impl_Term) mixed tys_ok t_slices_Equal_impl_Term (fn := Tryz.f137) (c := bd Tryz.f137) (by kernel_rfl) (by kernel_rfl) (by kernel_rfl) (by kernel_rfl) ?_
 intro args st k he
 unfold c_slices_Equal_impl_Term at he
 split at he
 rotate_left
 ·exact he.elim
 rename_i s1_ s2_
 have he : Ok (slices_Equal_impl_Term s1_ s2_) (fun r => k (.c (.bool r)) []) := he
 refine ⟨rfl, rfl, ?_⟩
 refine go_if he (fun he => ?_) fun he => ?_
 ·have he := ok_some he
  exact ⟨rfl, _, _, Leads.refl _ _, he⟩
 ·refine loop_model mixed tys_ok t_slices_Equal_impl_Term (S := Int) (I := (fun i => (envOf [(0, .c (.imm y2_ s1_)), (1, .c (.imm y2_ s2_)), (12, .c (.int .i64 (s1_.length:Int))), (13, .c (.int .i64 i))], []))) (f := slices_Equal_impl_Term_l1 s1_ s2_) (K := (fun r => k (.c (.bool r)) [])) he (leads_ren [] rfl rfl trivial ⟨.inl rfl, .inl rfl, rfl, rfl, trivial⟩) ?_
  rintro i J1 he
  refine go_if he (fun he => ?_) fun he => ?_
  ·refine And.intro (by kernel_rfl) ?_
   refine go_rq he fun he => ?_
   refine go_rq he fun he => ?_
   refine go_if he (fun he => ?_) fun he => ?_
   ·have he := ok_some he
    exact ⟨rfl, _, _, Leads.refl _ _, he⟩
   ·refine go_rq he fun he => ?_
    have he := ok_some he
    exact ⟨(i + (1:Int)), he, (leads_ren [] rfl rfl trivial ⟨.inl rfl, .inl rfl, rfl, rfl, trivial⟩)⟩
  ·have he := ok_some he
   exact ⟨rfl, _, _, Leads.refl _ _, he⟩

noncomputable def c_impl_ConstraintSame : Con := fun args st => match args, st with
  | [.agg [.imm (.pair (.int .i64) (.int .i64)) a_0, .int .i64 a_1], .agg [.imm (.pair (.int .i64) (.int .i64)) b_0, .int .i64 b_1]], [] => .opt (Bool) (impl_ConstraintSame (a_0, a_1) (b_0, b_1)) (fun r => .ret (.c (.bool r)) [])
  | _, _ => .fail

noncomputable def C_impl_ConstraintSame : Cfg := { y := tys, n := 17, h := 0, tab := [(137, c_slices_Equal_impl_Term)], cut := [], hand := [], good := [], deep := [], sched := [] }

theorem t_impl_ConstraintSame : TabOk Tryz.prog C_impl_ConstraintSame := by
  refine tabOk_of ?_
  simp only [C_impl_ConstraintSame, List.forall_mem_cons]
  exact ⟨k_slices_Equal_impl_Term, fun p h => by cases h⟩

theorem k_impl_ConstraintSame : Entry Tryz.prog 70 c_impl_ConstraintSame := by
 refine entry_by (C := C_impl_ConstraintSame) mixed tys_ok t_impl_ConstraintSame (fn := Tryz.f70) (c := bd Tryz.f70) (by kernel_rfl) (by kernel_rfl) (by kernel_rfl) (by kernel_rfl) ?_
 intro args st k he
 unfold c_impl_ConstraintSame at he
 split at he
 rotate_left
 ·exact he.elim
 rename_i a_0 a_1 b_0 b_1
 have he : Ok (impl_ConstraintSame (a_0, a_1) (b_0, b_1)) (fun r => k (.c (.bool r)) []) := he
 refine ⟨rfl, rfl, ?_⟩
 refine go_if he (fun he => ?_) fun he => ?_
 ·refine go_bind he fun r1_ he => ?_
  have he := ok_some he
  exact ⟨rfl, _, _, (leads_ren [] (l := [(4, .c (.bool r1_))]) (st' := []) rfl rfl trivial ⟨.inl rfl, trivial⟩), he⟩
 ·have he := ok_some he
  exact ⟨rfl, _, _, (leads_ren [] (l := [(4, .c (.bool false))]) (st' := []) rfl rfl trivial ⟨.inr rfl, trivial⟩), he⟩

noncomputable def c_impl_Step_shaped : Con := fun args st => match args, st with
  | [.agg [.int .i64 s__0, .int .i64 s__1, .int .i64 s__2, .imm (.pair (.int .i64) (.int .i64)) s__3, .int .i64 s__4]], [] => .opt (Bool) (impl_Step_shaped (s__0, (s__1, (s__2, (s__3, s__4))))) (fun r => .ret (.c (.bool r)) [])
  | _, _ => .fail

noncomputable def C_impl_Step_shaped : Cfg := { y := tys, n := 50, h := 0, tab := [(70, c_impl_ConstraintSame), (155, c_impl_refers)], cut := [], hand := [], good := [], deep := [], sched := [] }

theorem t_impl_Step_shaped : TabOk Tryz.prog C_impl_Step_shaped := by
  refine tabOk_of ?_
  simp only [C_impl_Step_shaped, List.forall_mem_cons]
  exact ⟨k_impl_ConstraintSame, k_impl_refers, fun p h => by cases h⟩

theorem k_impl_Step_shaped : Entry Tryz.prog 259 c_impl_Step_shaped := by
 refine entry_by (C := C_impl_Step_shaped) mixed tys_ok t_impl_Step_shaped (fn := Tryz.f259) (c := bd Tryz.f259) (by kernel_rfl) (by kernel_rfl) (by kernel_rfl) (by kernel_rfl) ?_
 intro args st k he
 unfold c_impl_Step_shaped at he
 split at he
 rotate_left
 ·exact he.elim
 rename_i s__0 s__1 s__2 s__3 s__4
 have he : Ok (impl_Step_shaped (s__0, (s__1, (s__2, (s__3, s__4))))) (fun r => k (.c (.bool r)) []) := he
 refine ⟨rfl, rfl, ?_⟩
 refine go_bind he fun r1_ he => ?_
 refine go_if he (fun he => ?_) fun he => ?_
 ·refine go_if2 he (fun he => ?_) fun he => ?_
  ·refine go_if2 he (fun he => ?_) fun he => ?_
   ·refine go_if he (fun he => ?_) fun he => ?_
    ·refine go_if2 he (fun he => ?_) fun he => ?_
     ·refine go_if2 he (fun he => ?_) fun he => ?_
      ·refine go_if he (fun he => ?_) fun he => ?_
       ·refine go_if2 he (fun he => ?_) fun he => ?_
        ·refine go_bind he fun r2_ he => ?_
         have he := ok_some he
         exact ⟨rfl, _, _, (leads_ren [] (l := [(2, .c (.bool r2_))]) (st' := []) rfl rfl trivial ⟨.inl rfl, trivial⟩), he⟩
        ·have he := ok_some he
         exact ⟨rfl, _, _, (leads_ren [] (l := [(2, .c (.bool true))]) (st' := []) rfl rfl trivial ⟨.inr rfl, trivial⟩), he⟩
       ·have he := ok_some he
        exact ⟨rfl, _, _, (leads_ren [] (l := [(2, .c (.bool false))]) (st' := []) rfl rfl trivial ⟨.inr rfl, trivial⟩), he⟩
      ·refine go_if2 he (fun he => ?_) fun he => ?_
       ·refine go_bind he fun r3_ he => ?_
        have he := ok_some he
        exact ⟨rfl, _, _, (leads_ren [] (l := [(2, .c (.bool r3_))]) (st' := []) rfl rfl trivial ⟨.inl rfl, trivial⟩), he⟩
       ·have he := ok_some he
        exact ⟨rfl, _, _, (leads_ren [] (l := [(2, .c (.bool true))]) (st' := []) rfl rfl trivial ⟨.inr rfl, trivial⟩), he⟩
     ·refine go_if2 he (fun he => ?_) fun he => ?_
      ·refine go_bind he fun r4_ he => ?_
       have he := ok_some he
       exact ⟨rfl, _, _, (leads_ren [] (l := [(2, .c (.bool r4_))]) (st' := []) rfl rfl trivial ⟨.inl rfl, trivial⟩), he⟩
      ·have he := ok_some he
       exact ⟨rfl, _, _, (leads_ren [] (l := [(2, .c (.bool true))]) (st' := []) rfl rfl trivial ⟨.inr rfl, trivial⟩), he⟩
    ·have he := ok_some he
     exact ⟨rfl, _, _, (leads_ren [] (l := [(2, .c (.bool false))]) (st' := []) rfl rfl trivial ⟨.inr rfl, trivial⟩), he⟩
   ·refine go_if2 he (fun he => ?_) fun he => ?_
    ·refine go_if2 he (fun he => ?_) fun he => ?_
     ·refine go_if he (fun he => ?_) fun he => ?_
      ·refine go_if2 he (fun he => ?_) fun he => ?_
       ·refine go_bind he fun r5_ he => ?_
        have he := ok_some he
        exact ⟨rfl, _, _, (leads_ren [] (l := [(2, .c (.bool r5_))]) (st' := []) rfl rfl trivial ⟨.inl rfl, trivial⟩), he⟩
       ·have he := ok_some he
        exact ⟨rfl, _, _, (leads_ren [] (l := [(2, .c (.bool true))]) (st' := []) rfl rfl trivial ⟨.inr rfl, trivial⟩), he⟩
      ·have he := ok_some he
       exact ⟨rfl, _, _, (leads_ren [] (l := [(2, .c (.bool false))]) (st' := []) rfl rfl trivial ⟨.inr rfl, trivial⟩), he⟩
     ·refine go_if2 he (fun he => ?_) fun he => ?_
      ·refine go_bind he fun r6_ he => ?_
       have he := ok_some he
       exact ⟨rfl, _, _, (leads_ren [] (l := [(2, .c (.bool r6_))]) (st' := []) rfl rfl trivial ⟨.inl rfl, trivial⟩), he⟩
      ·have he := ok_some he
       exact ⟨rfl, _, _, (leads_ren [] (l := [(2, .c (.bool true))]) (st' := []) rfl rfl trivial ⟨.inr rfl, trivial⟩), he⟩
    ·refine go_if2 he (fun he => ?_) fun he => ?_
     ·refine go_bind he fun r7_ he => ?_
      have he := ok_some he
      exact ⟨rfl, _, _, (leads_ren [] (l := [(2, .c (.bool r7_))]) (st' := []) rfl rfl trivial ⟨.inl rfl, trivial⟩), he⟩
     ·have he := ok_some he
      exact ⟨rfl, _, _, (leads_ren [] (l := [(2, .c (.bool true))]) (st' := []) rfl rfl trivial ⟨.inr rfl, trivial⟩), he⟩
  ·refine go_if2 he (fun he => ?_) fun he => ?_
   ·refine go_if2 he (fun he => ?_) fun he => ?_
    ·refine go_if he (fun he => ?_) fun he => ?_
     ·refine go_if2 he (fun he => ?_) fun he => ?_
      ·refine go_bind he fun r8_ he => ?_
       have he := ok_some he
       exact ⟨rfl, _, _, (leads_ren [] (l := [(2, .c (.bool r8_))]) (st' := []) rfl rfl trivial ⟨.inl rfl, trivial⟩), he⟩
      ·have he := ok_some he
       exact ⟨rfl, _, _, (leads_ren [] (l := [(2, .c (.bool true))]) (st' := []) rfl rfl trivial ⟨.inr rfl, trivial⟩), he⟩
     ·have he := ok_some he
      exact ⟨rfl, _, _, (leads_ren [] (l := [(2, .c (.bool false))]) (st' := []) rfl rfl trivial ⟨.inr rfl, trivial⟩), he⟩
    ·refine go_if2 he (fun he => ?_) fun he => ?_
     ·refine go_bind he fun r9_ he => ?_
      have he := ok_some he
      exact ⟨rfl, _, _, (leads_ren [] (l := [(2, .c (.bool r9_))]) (st' := []) rfl rfl trivial ⟨.inl rfl, trivial⟩), he⟩
     ·have he := ok_some he
      exact ⟨rfl, _, _, (leads_ren [] (l := [(2, .c (.bool true))]) (st' := []) rfl rfl trivial ⟨.inr rfl, trivial⟩), he⟩
   ·refine go_if2 he (fun he => ?_) fun he => ?_
    ·refine go_bind he fun r10_ he => ?_
     have he := ok_some he
     exact ⟨rfl, _, _, (leads_ren [] (l := [(2, .c (.bool r10_))]) (st' := []) rfl rfl trivial ⟨.inl rfl, trivial⟩), he⟩
    ·have he := ok_some he
     exact ⟨rfl, _, _, (leads_ren [] (l := [(2, .c (.bool true))]) (st' := []) rfl rfl trivial ⟨.inr rfl, trivial⟩), he⟩
 ·have he := ok_some he
  exact ⟨rfl, _, _, (leads_ren [] (l := [(2, .c (.bool false))]) (st' := []) rfl rfl trivial ⟨.inr rfl, trivial⟩), he⟩

end Go.AE.Y
