/-
  Walks: each function keeps the contract that its model gives. No conditions.
-/
import Derived.Test.YtaeeiddjpigemaaGreatR7Tab
import Derived.Test.YtaeeiddjpigemaaGreatR7W1
namespace Go.AE.Y
open Go Go.AE Go.Proofs
set_option linter.unusedVariables false
set_option maxHeartbeats 2000000
set_option maxRecDepth 100000

noncomputable def c_spec_l4Kept : Con := fun args st => match args, st with
  | [.agg [.imm (.pair (.sl (.pair (.int .i64) (.int .i64))) (.int .i64)) d_0, .imm .bool d_1]], [] => .opt ((List D2_)) (spec_l4Kept (d_0, d_1)) (fun r => .ret (.c (.own 900 false)) [(900, .sl 89 y2_ r .shallow)])
  | _, _ => .fail

noncomputable def C_spec_l4Kept : Cfg := { y := tys, n := 28, h := 0, tab := [], cut := [], hand := [], good := [], deep := [], sched := [] }

theorem t_spec_l4Kept : TabOk Tryz.prog C_spec_l4Kept := tabOk_of (fun p h => by cases h)

theorem k_spec_l4Kept : Entry Tryz.prog 210 c_spec_l4Kept := by
 refine entry_by (C := C_spec_l4Kept) mixed tys_ok t_spec_l4Kept (fn := Tryz.f210) (c := bd Tryz.f210) (by kernel_rfl) (by kernel_rfl) (by kernel_rfl) (by kernel_rfl) ?_
 intro args st k he
 unfold c_spec_l4Kept at he
 split at he
 rotate_left
 ·exact he.elim
 rename_i d_0 d_1
 have he : Ok (spec_l4Kept (d_0, d_1)) (fun r => k (.c (.own 900 false)) [(900, .sl 89 y2_ r .shallow)]) := he
 refine ⟨rfl, rfl, ?_⟩
 refine loop_model mixed tys_ok t_spec_l4Kept (S := Int × (List D2_)) (I := (fun (i, out) => (envOf [(1, .c (.ptr 10000000 0)), (3, .c (.own 10000001 false)), (4, .c (.int .i64 i))], [(10000000, .rc [.imm y2_ (d_0, d_1).1, .imm .bool (d_0, d_1).2]), (10000001, .sl 89 y2_ out .shallow)]))) (f := spec_l4Kept_l1 (d_0, d_1)) (K := (fun r => k (.c (.own 900 false)) [(900, .sl 89 y2_ r .shallow)])) he (leads_ren [(10000000, 1), (10000001, 5)] rfl rfl ⟨⟨.inl rfl, .inl rfl, trivial⟩, ⟨rfl, rfl⟩, trivial⟩ ⟨⟨⟨rfl, rfl⟩, rfl⟩, ⟨⟨rfl, rfl⟩, trivial⟩, rfl, trivial⟩) ?_
 rintro ⟨i, out⟩ J1 he
 refine go_if he (fun he => ?_) fun he => ?_
 ·refine go_rq he fun he => ?_
  refine go_if he (fun he => ?_) fun he => ?_
  ·refine go_rq he fun he => ?_
   refine go_rq he fun he => ?_
   refine go_rq he fun he => ?_
   have he := ok_some he
   exact ⟨((i + (1:Int)), (out ++ [((d_0, d_1).1.getD i.toNat ([], 0))])), he, (leads_ren [(10000001, 26)] rfl rfl ⟨⟨.inl rfl, .inl rfl, trivial⟩, ⟨rfl, rfl⟩, trivial⟩ ⟨⟨⟨rfl, rfl⟩, rfl⟩, ⟨⟨rfl, rfl⟩, trivial⟩, rfl, trivial⟩)⟩
  ·refine go_rq he fun he => ?_
   have he := ok_some he
   exact ⟨((i + (1:Int)), out), he, (leads_ren [] rfl rfl ⟨⟨.inl rfl, .inl rfl, trivial⟩, ⟨rfl, rfl⟩, trivial⟩ ⟨⟨⟨rfl, rfl⟩, rfl⟩, ⟨⟨rfl, rfl⟩, trivial⟩, rfl, trivial⟩)⟩
 ·have he := ok_some he
  exact ⟨rfl, _, _, (leads_ren [(900, 10000001)] (l := [(2, .c (.own 900 false))]) (st' := [(900, .sl 89 y2_ out .shallow)]) rfl rfl ⟨⟨rfl, rfl⟩, trivial⟩ ⟨⟨⟨rfl, rfl⟩, trivial⟩, trivial⟩), he⟩

noncomputable def c_spec_l1Total : Con := fun args st => match args, st with
  | [.agg [.imm (.pair (.int .i64) (.int .i64)) c__0, .int .i64 c__1]], [] => .opt (Int) (spec_l1Total (c__0, c__1)) (fun r => .ret (.c (.int .i64 r)) [])
  | _, _ => .fail

noncomputable def C_spec_l1Total : Cfg := { y := tys, n := 21, h := 0, tab := [], cut := [], hand := [], good := [], deep := [], sched := [] }

theorem t_spec_l1Total : TabOk Tryz.prog C_spec_l1Total := tabOk_of (fun p h => by cases h)

theorem k_spec_l1Total : Entry Tryz.prog 216 c_spec_l1Total := by
 refine entry_by (C := C_spec_l1Total) mixed tys_ok t_spec_l1Total (fn := Tryz.f216) (c := bd Tryz.f216) (by kernel_rfl) (by kernel_rfl) (by kernel_rfl) (by kernel_rfl) ?_
 intro args st k he
 unfold c_spec_l1Total at he
 split at he
 rotate_left
 ·exact he.elim
 rename_i c__0 c__1
 have he : Ok (spec_l1Total (c__0, c__1)) (fun r => k (.c (.int .i64 r)) []) := he
 refine ⟨rfl, rfl, ?_⟩
 refine loop_model mixed tys_ok t_spec_l1Total (S := Int × Int) (I := (fun (n, i) => (envOf [(1, .c (.ptr 10000000 0)), (3, .c (.int .i64 n)), (4, .c (.int .i64 i))], [(10000000, .rc [.imm y1_ (c__0, c__1).1, .int .i64 (c__0, c__1).2])]))) (f := spec_l1Total_l1 (c__0, c__1)) (K := (fun r => k (.c (.int .i64 r)) [])) he (leads_ren [(10000000, 1)] rfl rfl ⟨⟨.inl rfl, rfl, trivial⟩, trivial⟩ ⟨⟨⟨rfl, rfl⟩, rfl⟩, rfl, rfl, trivial⟩) ?_
 rintro ⟨n, i⟩ J1 he
 refine go_if he (fun he => ?_) fun he => ?_
 ·refine go_rq he fun he => ?_
  refine go_rq he fun he => ?_
  refine go_rq he fun he => ?_
  have he := ok_some he
  exact ⟨((n + ((c__0, c__1).1.getD i.toNat (0, 0)).1), (i + (1:Int))), he, (leads_ren [] rfl rfl ⟨⟨.inl rfl, rfl, trivial⟩, trivial⟩ ⟨⟨⟨rfl, rfl⟩, rfl⟩, rfl, rfl, trivial⟩)⟩
 ·have he := ok_some he
  exact ⟨rfl, _, _, (leads_ren [] (l := [(2, .c (.int .i64 n))]) (st' := []) rfl rfl trivial ⟨rfl, trivial⟩), he⟩

noncomputable def c_spec_NegateConstraint : Con := fun args st => match args, st with
  | [.agg [.imm (.pair (.int .i64) (.int .i64)) c__0, .int .i64 c__1]], [] => .opt (Bool × Int × (List D1_)) (spec_NegateConstraint (c__0, c__1)) (fun r => .ret (.tup [.agg [.own 901 false, .int .i64 r.2.1], .c (.bool r.1)]) [(900, .rc [.own 901 false, .int .i64 r.2.1]), (901, .sl 155 y1_ r.2.2 .shallow)])
  | _, _ => .fail

noncomputable def C_spec_NegateConstraint : Cfg := { y := tys, n := 48, h := 0, tab := [(168, c_spec_ConstraintValid), (216, c_spec_l1Total)], cut := [1, 4, 8], hand := [], good := [], deep := [], sched := [(3, (.first 0 (.first 2 (.first 3 (.alt 1 (.first 4 (.first 5 (.alt 6 (.alt 7 (.alt 8 .done .stop) .stop) (.alt 7 (.alt 6 (.alt 8 .done .stop) .stop) .stop)))) (.alt 7 (.alt 1 (.first 4 (.first 5 (.alt 6 (.alt 8 .done .stop) .stop))) .stop) .stop)))))), (7, (.first 0 (.first 2 (.first 3 (.first 4 (.first 5 (.first 6 (.first 7 (.first 8 (.first 9 (.first 10 (.first 11 (.first 12 (.first 13 (.first 14 (.alt 1 (.alt 15 (.alt 16 (.alt 17 (.first 18 (.alt 19 .done .stop)) .stop) .stop) .stop) (.alt 15 (.alt 1 (.alt 16 (.alt 17 (.first 18 (.alt 19 .done .stop)) .stop) .stop) (.alt 16 (.alt 1 (.alt 17 (.first 18 (.alt 19 .done .stop)) .stop) .stop) .stop)) .stop)))))))))))))))))] }

theorem t_spec_NegateConstraint : TabOk Tryz.prog C_spec_NegateConstraint := by
  refine tabOk_of ?_
  simp only [C_spec_NegateConstraint, List.forall_mem_cons]
  exact ⟨k_spec_ConstraintValid, k_spec_l1Total, fun p h => by cases h⟩

theorem k_spec_NegateConstraint : Entry Tryz.prog 252 c_spec_NegateConstraint := by
 refine entry_by (C := C_spec_NegateConstraint) mixed tys_ok t_spec_NegateConstraint (fn := Tryz.f252) (c := bd Tryz.f252) (by kernel_rfl) (by kernel_rfl) (by kernel_rfl) (by kernel_rfl) ?_
 intro args st k he
 unfold c_spec_NegateConstraint at he
 split at he
 rotate_left
 ·exact he.elim
 rename_i c__0 c__1
 have he : Ok (spec_NegateConstraint (c__0, c__1)) (fun r => k (.tup [.agg [.own 901 false, .int .i64 r.2.1], .c (.bool r.1)]) [(900, .rc [.own 901 false, .int .i64 r.2.1]), (901, .sl 155 y1_ r.2.2 .shallow)]) := he
 refine ⟨rfl, rfl, ?_⟩
 refine seq_model mixed tys_ok t_spec_NegateConstraint (S := Unit) (I := (fun _ => (envOf [(1, .c (.iptr y2_ (c__0, c__1) 0)), (2, .c (.ptr 10000000 0))], [(10000000, .rc [.nil, .int .i64 (0:Int)])]))) (B := fun s => Ok (spec_NegateConstraint_j1 (c__0, c__1) s) (fun r => k (.tup [.agg [.own 901 false, .int .i64 r.2.1], .c (.bool r.1)]) [(900, .rc [.own 901 false, .int .i64 r.2.1]), (901, .sl 155 y1_ r.2.2 .shallow)])) ?_ ?_
 ·rintro ⟨⟩ he
  refine go_bind he fun r1_ he => ?_
  refine go_if he (fun he => ?_) fun he => ?_
  ·have he := ok_some he
   exact ⟨rfl, _, _, (leads_ren [(900, 10000000)] (l := [(2, .c (.ptr 900 0)), (3, .c (.bool false))]) (st' := [(900, .rc [.own 901 false, .int .i64 (0:Int)]), (901, .sl 155 y1_ ([] : List D1_) .shallow)]) rfl rfl ⟨⟨⟨rfl, trivial⟩, rfl, trivial⟩, trivial, trivial⟩ ⟨⟨⟨rfl, rfl⟩, rfl⟩, .inr rfl, trivial⟩), he⟩
  ·refine seq_model mixed tys_ok t_spec_NegateConstraint (S := Int) (I := (fun out_1 => (envOf [(1, .c (.iptr y2_ (c__0, c__1) 0)), (2, .c (.ptr 10001000 0)), (4, .c (.ptr 10001001 0))], [(10001000, .rc [.nil, .int .i64 (0:Int)]), (10001001, .rc [.nil, .int .i64 out_1])]))) (B := fun s => Ok (spec_NegateConstraint_j2 (c__0, c__1) s) (fun r => k (.tup [.agg [.own 901 false, .int .i64 r.2.1], .c (.bool r.1)]) [(900, .rc [.own 901 false, .int .i64 r.2.1]), (901, .sl 155 y1_ r.2.2 .shallow)])) ?_ ?_
   ·rintro out_1 he
    refine seq_model mixed tys_ok t_spec_NegateConstraint (S := (List D1_)) (I := (fun out_01 => (envOf [(2, .c (.ptr 10003000 0)), (4, .c (.ptr 10003001 0))], [(10003000, .rc [.nil, .int .i64 (0:Int)]), (10003001, .rc [.own 10003002 false, .int .i64 out_1]), (10003002, .sl 155 y1_ out_01 .shallow)]))) (B := fun s => Ok (spec_NegateConstraint_j3 out_1 s) (fun r => k (.tup [.agg [.own 901 false, .int .i64 r.2.1], .c (.bool r.1)]) [(900, .rc [.own 901 false, .int .i64 r.2.1]), (901, .sl 155 y1_ r.2.2 .shallow)])) ?_ ?_
    ·rintro out_01 he
     refine go_if he (fun he => ?_) fun he => ?_
     ·have he := ok_some he
      exact ⟨rfl, _, _, (leads_ren [(900, 10003000), (901, 10003002)] (l := [(2, .c (.ptr 900 0)), (3, .c (.bool true))]) (st' := [(900, .rc [.own 901 false, .int .i64 (0:Int)]), (901, .sl 155 y1_ out_01 .shallow)]) rfl rfl ⟨⟨⟨⟨rfl, rfl⟩, trivial⟩, rfl, trivial⟩, ⟨rfl, rfl⟩, trivial⟩ ⟨⟨⟨rfl, rfl⟩, rfl⟩, .inr rfl, trivial⟩), he⟩
     ·have he := ok_some he
      exact ⟨rfl, _, _, (leads_ren [(900, 10003000), (901, 10003002)] (l := [(2, .c (.ptr 900 0)), (3, .c (.bool true))]) (st' := [(900, .rc [.own 901 false, .int .i64 out_1]), (901, .sl 155 y1_ out_01 .shallow)]) rfl rfl ⟨⟨⟨⟨rfl, rfl⟩, trivial⟩, rfl, trivial⟩, ⟨rfl, rfl⟩, trivial⟩ ⟨⟨⟨rfl, rfl⟩, rfl⟩, .inr rfl, trivial⟩), he⟩
    ·skip
     refine loop_model mixed tys_ok t_spec_NegateConstraint (S := Int × (List D1_)) (I := (fun (i, out_0) => (envOf [(1, .c (.iptr y2_ (c__0, c__1) 0)), (2, .c (.ptr 10002000 0)), (4, .c (.ptr 10002001 0)), (5, .c (.int .i64 i))], [(10002000, .rc [.nil, .int .i64 (0:Int)]), (10002001, .rc [.own 10002002 false, .int .i64 out_1]), (10002002, .sl 155 y1_ out_0 .shallow)]))) (f := spec_NegateConstraint_l1 (c__0, c__1) out_1) (K := (fun r => k (.tup [.agg [.own 901 false, .int .i64 r.2.1], .c (.bool r.1)]) [(900, .rc [.own 901 false, .int .i64 r.2.1]), (901, .sl 155 y1_ r.2.2 .shallow)])) he (leads_ren [(10002000, 10001000), (10002001, 10001001)] rfl rfl ⟨⟨rfl, rfl, trivial⟩, ⟨⟨rfl, trivial⟩, rfl, trivial⟩, trivial, trivial⟩ ⟨.inl rfl, ⟨⟨rfl, rfl⟩, rfl⟩, ⟨⟨rfl, rfl⟩, rfl⟩, rfl, trivial⟩) ?_
     rintro ⟨i, out_0⟩ J1 he
     refine go_if he (fun he => ?_) fun he => ?_
     ·refine And.intro (by kernel_rfl) ?_
      refine go_rq he fun he => ?_
      refine go_rq he fun he => ?_
      refine go_rq he fun he => ?_
      have he := ok_rq he
      have hq1 := he.1
      have he := he.2
      refine And.intro ?_ (And.intro ?_ (trivial))
      ·skip
       refine And.intro ?_ trivial
       refine And.intro ?_ trivial
       refine And.intro ?_ trivial
       refine And.intro hq1 ?_
       refine And.intro ?_ trivial
       refine go_rq he fun he => ?_
       have he := ok_some he
       exact ⟨((i + (1:Int)), (out_0 ++ [(((c__0, c__1).1.getD i.toNat (0, 0)).1, (0 - ((c__0, c__1).1.getD i.toNat (0, 0)).2))])), he, (leads_ren [(10002002, 41)] rfl rfl ⟨⟨rfl, rfl, trivial⟩, ⟨⟨⟨rfl, rfl⟩, trivial⟩, rfl, trivial⟩, ⟨rfl, rfl⟩, trivial⟩ ⟨.inl rfl, ⟨⟨rfl, rfl⟩, rfl⟩, ⟨⟨rfl, rfl⟩, rfl⟩, rfl, trivial⟩)⟩
      ·skip
       refine And.intro ?_ (And.intro ?_ (trivial))
       ·skip
        refine And.intro ?_ trivial
        refine And.intro ?_ trivial
        refine And.intro hq1 ?_
        refine And.intro ?_ trivial
        refine go_rq he fun he => ?_
        have he := ok_some he
        exact ⟨((i + (1:Int)), (out_0 ++ [(((c__0, c__1).1.getD i.toNat (0, 0)).1, (0 - ((c__0, c__1).1.getD i.toNat (0, 0)).2))])), he, (leads_ren [(10002002, 41)] rfl rfl ⟨⟨rfl, rfl, trivial⟩, ⟨⟨⟨rfl, rfl⟩, trivial⟩, rfl, trivial⟩, ⟨rfl, rfl⟩, trivial⟩ ⟨.inl rfl, ⟨⟨rfl, rfl⟩, rfl⟩, ⟨⟨rfl, rfl⟩, rfl⟩, rfl, trivial⟩)⟩
       ·skip
        refine And.intro ?_ trivial
        refine And.intro ?_ trivial
        refine And.intro hq1 ?_
        refine And.intro ?_ trivial
        refine go_rq he fun he => ?_
        have he := ok_some he
        exact ⟨((i + (1:Int)), (out_0 ++ [(((c__0, c__1).1.getD i.toNat (0, 0)).1, (0 - ((c__0, c__1).1.getD i.toNat (0, 0)).2))])), he, (leads_ren [(10002002, 41)] rfl rfl ⟨⟨rfl, rfl, trivial⟩, ⟨⟨⟨rfl, rfl⟩, trivial⟩, rfl, trivial⟩, ⟨rfl, rfl⟩, trivial⟩ ⟨.inl rfl, ⟨⟨rfl, rfl⟩, rfl⟩, ⟨⟨rfl, rfl⟩, rfl⟩, rfl, trivial⟩)⟩
     ·exact ⟨out_0, ok_up he, (leads_ren [(10003000, 10002000), (10003001, 10002001), (10003002, 10002002)] rfl rfl ⟨⟨rfl, rfl, trivial⟩, ⟨⟨⟨rfl, rfl⟩, trivial⟩, rfl, trivial⟩, ⟨rfl, rfl⟩, trivial⟩ ⟨⟨⟨rfl, rfl⟩, rfl⟩, ⟨⟨rfl, rfl⟩, rfl⟩, trivial⟩)⟩
   ·skip
    refine And.intro (by kernel_rfl) ?_
    obtain ⟨r3_, hq1, he⟩ := ok_bind he
    have he := ok_rq he
    have hq2 := he.1
    have he := he.2
    have he := ok_rq he
    have hq3 := he.1
    have he := he.2
    refine And.intro ?_ (And.intro ?_ (trivial))
    ·skip
     refine ⟨r3_, hq1, ?_⟩
     refine And.intro hq2 ?_
     refine And.intro hq3 ?_
     refine And.intro ?_ (And.intro ?_ (trivial))
     ·skip
      refine And.intro ?_ trivial
      refine And.intro ?_ trivial
      exact ⟨((r3_ - (c__0, c__1).2) + (1:Int)), he, (leads_ren [(10001000, 10000000), (10001001, 4)] rfl rfl ⟨⟨rfl, rfl, trivial⟩, ⟨rfl, rfl, trivial⟩, trivial⟩ ⟨.inl rfl, ⟨⟨rfl, rfl⟩, rfl⟩, ⟨⟨rfl, rfl⟩, rfl⟩, trivial⟩)⟩
     ·skip
      refine And.intro ?_ trivial
      refine And.intro ?_ trivial
      exact ⟨((r3_ - (c__0, c__1).2) + (1:Int)), he, (leads_ren [(10001000, 10000000), (10001001, 4)] rfl rfl ⟨⟨rfl, rfl, trivial⟩, ⟨rfl, rfl, trivial⟩, trivial⟩ ⟨.inl rfl, ⟨⟨rfl, rfl⟩, rfl⟩, ⟨⟨rfl, rfl⟩, rfl⟩, trivial⟩)⟩
    ·skip
     refine And.intro ?_ trivial
     refine ⟨r3_, hq1, ?_⟩
     refine And.intro hq2 ?_
     refine And.intro hq3 ?_
     refine And.intro ?_ trivial
     refine And.intro ?_ trivial
     exact ⟨((r3_ - (c__0, c__1).2) + (1:Int)), he, (leads_ren [(10001000, 10000000), (10001001, 4)] rfl rfl ⟨⟨rfl, rfl, trivial⟩, ⟨rfl, rfl, trivial⟩, trivial⟩ ⟨.inl rfl, ⟨⟨rfl, rfl⟩, rfl⟩, ⟨⟨rfl, rfl⟩, rfl⟩, trivial⟩)⟩
 ·skip
  exact ⟨(), he, (leads_ren [(10000000, 2)] rfl rfl ⟨⟨rfl, rfl, trivial⟩, trivial⟩ ⟨.inr ⟨1, rfl, ⟨rfl, by repeat (first | exact trivial | refine And.intro trivial ?_)⟩, rfl⟩, ⟨⟨rfl, rfl⟩, rfl⟩, trivial⟩)⟩

noncomputable def c_spec_l3State : Con := fun args st => match args, st with
  | [.c (.imm (.int .i64) p), .c (.int .i64 lit)], [] => .opt (Int) (spec_l3State p lit) (fun r => .ret (.c (.int .i64 r)) [])
  | _, _ => .fail

noncomputable def C_spec_l3State : Cfg := { y := tys, n := 19, h := 0, tab := [], cut := [], hand := [], good := [], deep := [], sched := [] }

theorem t_spec_l3State : TabOk Tryz.prog C_spec_l3State := tabOk_of (fun p h => by cases h)

theorem k_spec_l3State : Entry Tryz.prog 288 c_spec_l3State := by
 refine entry_by (C := C_spec_l3State) mixed tys_ok t_spec_l3State (fn := Tryz.f288) (c := bd Tryz.f288) (by kernel_rfl) (by kernel_rfl) (by kernel_rfl) (by kernel_rfl) ?_
 intro args st k he
 unfold c_spec_l3State at he
 split at he
 rotate_left
 ·exact he.elim
 rename_i p lit
 have he : Ok (spec_l3State p lit) (fun r => k (.c (.int .i64 r)) []) := he
 refine ⟨rfl, rfl, ?_⟩
 refine go_if he (fun he => ?_) fun he => ?_
 ·refine go_rq he fun he => ?_
  refine go_rq he fun he => ?_
  have he := ok_some he
  exact ⟨rfl, _, _, Leads.refl _ _, he⟩
 ·refine go_rq he fun he => ?_
  refine go_rq he fun he => ?_
  refine go_rq he fun he => ?_
  refine go_rq he fun he => ?_
  have he := ok_some he
  exact ⟨rfl, _, _, Leads.refl _ _, he⟩

noncomputable def c_spec_l3Slack : Con := fun args st => match args, st with
  | [.agg [.imm (.pair (.int .i64) (.int .i64)) c__0, .int .i64 c__1], .c (.imm (.int .i64) p)], [] => .opt (Int) (spec_l3Slack (c__0, c__1) p) (fun r => .ret (.c (.int .i64 r)) [])
  | _, _ => .fail

noncomputable def C_spec_l3Slack : Cfg := { y := tys, n := 35, h := 0, tab := [(288, c_spec_l3State)], cut := [], hand := [], good := [], deep := [], sched := [] }

theorem t_spec_l3Slack : TabOk Tryz.prog C_spec_l3Slack := by
  refine tabOk_of ?_
  simp only [C_spec_l3Slack, List.forall_mem_cons]
  exact ⟨k_spec_l3State, fun p h => by cases h⟩

theorem k_spec_l3Slack : Entry Tryz.prog 248 c_spec_l3Slack := by
 refine entry_by (C := C_spec_l3Slack) mixed tys_ok t_spec_l3Slack (fn := Tryz.f248) (c := bd Tryz.f248) (by kernel_rfl) (by kernel_rfl) (by kernel_rfl) (by kernel_rfl) ?_
 intro args st k he
 unfold c_spec_l3Slack at he
 split at he
 rotate_left
 ·exact he.elim
 rename_i c__0 c__1 p
 have he : Ok (spec_l3Slack (c__0, c__1) p) (fun r => k (.c (.int .i64 r)) []) := he
 refine ⟨rfl, rfl, ?_⟩
 refine go_rq he fun he => ?_
 refine loop_model mixed tys_ok t_spec_l3Slack (S := Int × Int) (I := (fun (n, i) => (envOf [(1, .c (.imm y0_ p)), (2, .c (.ptr 10000000 0)), (5, .c (.int .i64 n)), (6, .c (.int .i64 i))], [(10000000, .rc [.imm y1_ (c__0, c__1).1, .int .i64 (c__0, c__1).2])]))) (f := spec_l3Slack_l1 (c__0, c__1) p) (K := (fun r => k (.c (.int .i64 r)) [])) he (leads_ren [(10000000, 2)] rfl rfl ⟨⟨.inl rfl, rfl, trivial⟩, trivial⟩ ⟨.inl rfl, ⟨⟨rfl, rfl⟩, rfl⟩, rfl, rfl, trivial⟩) ?_
 rintro ⟨n, i⟩ J1 he
 refine go_if he (fun he => ?_) fun he => ?_
 ·refine go_rq he fun he => ?_
  refine go_bind he fun r1_ he => ?_
  refine go_if he (fun he => ?_) fun he => ?_
  ·refine go_rq he fun he => ?_
   refine go_rq he fun he => ?_
   refine go_rq he fun he => ?_
   have he := ok_some he
   exact ⟨((n + ((c__0, c__1).1.getD i.toNat (0, 0)).1), (i + (1:Int))), he, (leads_ren [] rfl rfl ⟨⟨.inl rfl, rfl, trivial⟩, trivial⟩ ⟨.inl rfl, ⟨⟨rfl, rfl⟩, rfl⟩, rfl, rfl, trivial⟩)⟩
  ·refine go_rq he fun he => ?_
   have he := ok_some he
   exact ⟨(n, (i + (1:Int))), he, (leads_ren [] rfl rfl ⟨⟨.inl rfl, rfl, trivial⟩, trivial⟩ ⟨.inl rfl, ⟨⟨rfl, rfl⟩, rfl⟩, rfl, rfl, trivial⟩)⟩
 ·have he := ok_some he
  exact ⟨rfl, _, _, (leads_ren [] (l := [(4, .c (.int .i64 n))]) (st' := []) rfl rfl trivial ⟨rfl, trivial⟩), he⟩

noncomputable def c_spec_l3Implied : Con := fun args st => match args, st with
  | [.agg [.imm (.pair (.int .i64) (.int .i64)) c__0, .int .i64 c__1], .c (.imm (.int .i64) p)], [] => .opt ((List Int)) (spec_l3Implied (c__0, c__1) p) (fun r => .ret (.c (.own 900 false)) [(900, .sl 3 y0_ r .shallow)])
  | _, _ => .fail

noncomputable def C_spec_l3Implied : Cfg := { y := tys, n := 52, h := 0, tab := [(248, c_spec_l3Slack), (288, c_spec_l3State)], cut := [], hand := [], good := [], deep := [], sched := [] }

theorem t_spec_l3Implied : TabOk Tryz.prog C_spec_l3Implied := by
  refine tabOk_of ?_
  simp only [C_spec_l3Implied, List.forall_mem_cons]
  exact ⟨k_spec_l3Slack, k_spec_l3State, fun p h => by cases h⟩

theorem k_spec_l3Implied : Entry Tryz.prog 249 c_spec_l3Implied := by
 refine entry_by (C := C_spec_l3Implied) mixed tys_ok t_spec_l3Implied (fn := Tryz.f249) (c := bd Tryz.f249) (by kernel_rfl) (by kernel_rfl) (by kernel_rfl) (by kernel_rfl) ?_
 intro args st k he
 unfold c_spec_l3Implied at he
 split at he
 rotate_left
 ·exact he.elim
 rename_i c__0 c__1 p
 have he : Ok (spec_l3Implied (c__0, c__1) p) (fun r => k (.c (.own 900 false)) [(900, .sl 3 y0_ r .shallow)]) := he
 refine ⟨rfl, rfl, ?_⟩
 refine go_bind he fun r1_ he => ?_
 refine loop_model mixed tys_ok t_spec_l3Implied (S := Int × (List Int)) (I := (fun (i, out) => (envOf [(1, .c (.imm y0_ p)), (2, .c (.ptr 10000000 0)), (5, .c (.own 10000001 false)), (6, .c (.int .i64 r1_)), (7, .c (.int .i64 i))], [(10000000, .rc [.imm y1_ (c__0, c__1).1, .int .i64 (c__0, c__1).2]), (10000001, .sl 3 y0_ out .shallow)]))) (f := spec_l3Implied_l1 (c__0, c__1) p r1_) (K := (fun r => k (.c (.own 900 false)) [(900, .sl 3 y0_ r .shallow)])) he (leads_ren [(10000000, 2), (10000001, 8)] rfl rfl ⟨⟨.inl rfl, rfl, trivial⟩, ⟨rfl, rfl⟩, trivial⟩ ⟨.inl rfl, ⟨⟨rfl, rfl⟩, rfl⟩, ⟨⟨rfl, rfl⟩, trivial⟩, rfl, rfl, trivial⟩) ?_
 rintro ⟨i, out⟩ J1 he
 refine go_if he (fun he => ?_) fun he => ?_
 ·refine go_if he (fun he => ?_) fun he => ?_
  ·refine go_rq he fun he => ?_
   refine go_bind he fun r3_ he => ?_
   refine go_if he (fun he => ?_) fun he => ?_
   ·refine go_rq he fun he => ?_
    refine go_if he (fun he => ?_) fun he => ?_
    ·refine go_rq he fun he => ?_
     refine go_rq he fun he => ?_
     refine go_rq he fun he => ?_
     have he := ok_some he
     exact ⟨((i + (1:Int)), (out ++ [((c__0, c__1).1.getD i.toNat (0, 0)).2])), he, (leads_ren [(10000001, 50)] rfl rfl ⟨⟨.inl rfl, rfl, trivial⟩, ⟨rfl, rfl⟩, trivial⟩ ⟨.inl rfl, ⟨⟨rfl, rfl⟩, rfl⟩, ⟨⟨rfl, rfl⟩, trivial⟩, rfl, rfl, trivial⟩)⟩
    ·refine go_rq he fun he => ?_
     have he := ok_some he
     exact ⟨((i + (1:Int)), out), he, (leads_ren [] rfl rfl ⟨⟨.inl rfl, rfl, trivial⟩, ⟨rfl, rfl⟩, trivial⟩ ⟨.inl rfl, ⟨⟨rfl, rfl⟩, rfl⟩, ⟨⟨rfl, rfl⟩, trivial⟩, rfl, rfl, trivial⟩)⟩
   ·refine go_rq he fun he => ?_
    have he := ok_some he
    exact ⟨((i + (1:Int)), out), he, (leads_ren [] rfl rfl ⟨⟨.inl rfl, rfl, trivial⟩, ⟨rfl, rfl⟩, trivial⟩ ⟨.inl rfl, ⟨⟨rfl, rfl⟩, rfl⟩, ⟨⟨rfl, rfl⟩, trivial⟩, rfl, rfl, trivial⟩)⟩
  ·have he := ok_some he
   exact ⟨rfl, _, _, (leads_ren [(900, 10000001)] (l := [(4, .c (.own 900 false))]) (st' := [(900, .sl 3 y0_ out .shallow)]) rfl rfl ⟨⟨rfl, rfl⟩, trivial⟩ ⟨⟨⟨rfl, rfl⟩, trivial⟩, trivial⟩), he⟩
 ·have he := ok_some he
  exact ⟨rfl, _, _, (leads_ren [(900, 10000001)] (l := [(4, .c (.own 900 false))]) (st' := [(900, .sl 3 y0_ out .shallow)]) rfl rfl ⟨⟨rfl, rfl⟩, trivial⟩ ⟨⟨⟨rfl, rfl⟩, trivial⟩, trivial⟩), he⟩

noncomputable def c_spec_l3Assign : Con := fun args st => match args, st with
  | [.c (.own 0 false), .c (.int .i64 lit)], [(0, .sl 3 (.int .i64) p .shallow)] => .opt ((List Int)) (spec_l3Assign lit p) (fun r => .ret (.tup []) [(0, .sl 3 y0_ r .shallow)])
  | _, _ => .fail

noncomputable def C_spec_l3Assign : Cfg := { y := tys, n := 15, h := 1, tab := [], cut := [], hand := [], good := [], deep := [], sched := [] }

theorem t_spec_l3Assign : TabOk Tryz.prog C_spec_l3Assign := tabOk_of (fun p h => by cases h)

theorem k_spec_l3Assign : Entry Tryz.prog 194 c_spec_l3Assign := by
 refine entry_by (C := C_spec_l3Assign) mixed tys_ok t_spec_l3Assign (fn := Tryz.f194) (c := bd Tryz.f194) (by kernel_rfl) (by kernel_rfl) (by kernel_rfl) (by kernel_rfl) ?_
 intro args st k he
 unfold c_spec_l3Assign at he
 split at he
 rotate_left
 ·exact he.elim
 rename_i lit p
 have he : Ok (spec_l3Assign lit p) (fun r => k (.tup []) [(0, .sl 3 y0_ r .shallow)]) := he
 refine ⟨rfl, rfl, ?_⟩
 refine go_if he (fun he => ?_) fun he => ?_
 ·refine go_rq he fun he => ?_
  refine go_rq he fun he => ?_
  have he := ok_some he
  exact ⟨rfl, _, _, (leads_ren [] (l := []) (st' := [(0, .sl 3 y0_ (p.set (lit - (1:Int)).toNat (1:Int)) .shallow)]) rfl rfl ⟨⟨rfl, rfl⟩, trivial⟩ trivial), he⟩
 ·refine go_rq he fun he => ?_
  refine go_rq he fun he => ?_
  refine go_rq he fun he => ?_
  have he := ok_some he
  exact ⟨rfl, _, _, (leads_ren [] (l := []) (st' := [(0, .sl 3 y0_ (p.set ((0 - lit) - (1:Int)).toNat (-1:Int)) .shallow)]) rfl rfl ⟨⟨rfl, rfl⟩, trivial⟩ trivial), he⟩

noncomputable def c_spec_l3Propagate : Con := fun args st => match args, st with
  | [.c (.imm (.pair (.sl (.pair (.int .i64) (.int .i64))) (.int .i64)) list_), .c (.own 0 false)], [(0, .sl 3 (.int .i64) p .shallow)] => .opt (Int × (List Int)) (spec_l3Propagate list_ p) (fun r => .ret (.c (.int .i64 r.1)) [(0, .sl 3 y0_ r.2 .shallow)])
  | _, _ => .fail

noncomputable def C_spec_l3Propagate : Cfg := { y := tys, n := 42, h := 1, tab := [(194, c_spec_l3Assign), (248, c_spec_l3Slack), (249, c_spec_l3Implied)], cut := [], hand := [(194, [0])], good := [], deep := [], sched := [] }

theorem t_spec_l3Propagate : TabOk Tryz.prog C_spec_l3Propagate := by
  refine tabOk_of ?_
  simp only [C_spec_l3Propagate, List.forall_mem_cons]
  exact ⟨k_spec_l3Assign, k_spec_l3Slack, k_spec_l3Implied, fun p h => by cases h⟩

theorem k_spec_l3Propagate : Entry Tryz.prog 195 c_spec_l3Propagate := by
 refine entry_by (C := C_spec_l3Propagate) mixed tys_ok t_spec_l3Propagate (fn := Tryz.f195) (c := bd Tryz.f195) (by kernel_rfl) (by kernel_rfl) (by kernel_rfl) (by kernel_rfl) ?_
 intro args st k he
 unfold c_spec_l3Propagate at he
 split at he
 rotate_left
 ·exact he.elim
 rename_i list_ p
 have he : Ok (spec_l3Propagate list_ p) (fun r => k (.c (.int .i64 r.1)) [(0, .sl 3 y0_ r.2 .shallow)]) := he
 refine ⟨rfl, rfl, ?_⟩
 refine loop_model mixed tys_ok t_spec_l3Propagate (S := Bool × (List Int)) (I := (fun (changed, p4) => (envOf [(0, .c (.imm y2_ list_)), (1, .c (.own 0 false)), (5, .c (.bool changed))], [(0, .sl 3 y0_ p4 .shallow)]))) (f := spec_l3Propagate_l1 list_) (K := (fun r => k (.c (.int .i64 r.1)) [(0, .sl 3 y0_ r.2 .shallow)])) he (leads_ren [] rfl rfl ⟨⟨rfl, rfl⟩, trivial⟩ ⟨.inl rfl, ⟨⟨rfl, rfl⟩, trivial⟩, .inr rfl, trivial⟩) ?_
 rintro ⟨changed, p4⟩ J1 he
 refine go_if he (fun he => ?_) fun he => ?_
 ·refine loop_model mixed tys_ok t_spec_l3Propagate (S := Bool × Int × (List Int)) (I := (fun (changed4, i1, p6) => (envOf [(0, .c (.imm y2_ list_)), (1, .c (.own 0 false)), (5, .c (.bool changed4)), (6, .c (.int .i64 i1))], [(0, .sl 3 y0_ p6 .shallow)]))) (f := spec_l3Propagate_l2 list_) (K := (LK J1 (fun r => k (.c (.int .i64 r.1)) [(0, .sl 3 y0_ r.2 .shallow)]))) he (leads_ren [] rfl rfl ⟨⟨rfl, rfl⟩, trivial⟩ ⟨.inl rfl, ⟨⟨rfl, rfl⟩, trivial⟩, .inr rfl, rfl, trivial⟩) ?_
  rintro ⟨changed4, i1, p6⟩ J2 he
  refine go_if he (fun he => ?_) fun he => ?_
  ·refine go_rq he fun he => ?_
   refine go_bind he fun r13_ he => ?_
   refine go_if he (fun he => ?_) fun he => ?_
   ·have he := ok_some he
    exact ⟨rfl, _, _, (leads_ren [] (l := [(4, .c (.int .i64 i1))]) (st' := [(0, .sl 3 y0_ p6 .shallow)]) rfl rfl ⟨⟨rfl, rfl⟩, trivial⟩ ⟨rfl, trivial⟩), he⟩
   ·refine go_rq he fun he => ?_
    refine go_bind he fun r14_ he => ?_
    refine loop_model mixed tys_ok t_spec_l3Propagate (S := Bool × Int × (List Int)) (I := (fun (changed6, k_3, p7) => (envOf [(0, .c (.imm y2_ list_)), (1, .c (.own 0 false)), (5, .c (.bool changed6)), (6, .c (.int .i64 i1)), (7, .c (.own 10006000 false)), (8, .c (.int .i64 k_3))], [(0, .sl 3 y0_ p7 .shallow), (10006000, .sl 3 y0_ r14_ .shallow)]))) (f := spec_l3Propagate_l3 i1 r14_) (K := (LK J2 (LK J1 (fun r => k (.c (.int .i64 r.1)) [(0, .sl 3 y0_ r.2 .shallow)])))) he (leads_ren [(10006000, 30900)] rfl rfl ⟨⟨rfl, rfl⟩, ⟨rfl, rfl⟩, trivial⟩ ⟨.inl rfl, ⟨⟨rfl, rfl⟩, trivial⟩, .inl rfl, rfl, ⟨⟨rfl, rfl⟩, trivial⟩, rfl, trivial⟩) ?_
    rintro ⟨changed6, k_3, p7⟩ J3 he
    refine go_if he (fun he => ?_) fun he => ?_
    ·refine go_rq he fun he => ?_
     refine go_bind he fun r16_ he => ?_
     refine go_rq he fun he => ?_
     have he := ok_some he
     exact ⟨(true, (k_3 + (1:Int)), r16_), he, (leads_ren [] rfl rfl ⟨⟨rfl, rfl⟩, ⟨rfl, rfl⟩, trivial⟩ ⟨.inl rfl, ⟨⟨rfl, rfl⟩, trivial⟩, .inr rfl, rfl, ⟨⟨rfl, rfl⟩, trivial⟩, rfl, trivial⟩)⟩
    ·refine go_rq he fun he => ?_
     have he := ok_some he
     exact ⟨(changed6, (i1 + (1:Int)), p7), he, (leads_ren [] rfl rfl ⟨⟨rfl, rfl⟩, trivial⟩ ⟨.inl rfl, ⟨⟨rfl, rfl⟩, trivial⟩, .inl rfl, rfl, trivial⟩)⟩
  ·have he := ok_some he
   exact ⟨(changed4, p6), he, (leads_ren [] rfl rfl ⟨⟨rfl, rfl⟩, trivial⟩ ⟨.inl rfl, ⟨⟨rfl, rfl⟩, trivial⟩, .inl rfl, trivial⟩)⟩
 ·have he := ok_some he
  exact ⟨rfl, _, _, (leads_ren [] (l := [(4, .c (.int .i64 (-1:Int)))]) (st' := [(0, .sl 3 y0_ p4 .shallow)]) rfl rfl ⟨⟨rfl, rfl⟩, trivial⟩ ⟨rfl, trivial⟩), he⟩

noncomputable def c_spec_l3Rup : Con := fun args st => match args, st with
  | [.c (.imm (.pair (.sl (.pair (.int .i64) (.int .i64))) (.int .i64)) list_), .agg [.imm (.pair (.int .i64) (.int .i64)) c__0, .int .i64 c__1]], [] => .opt (Bool) (spec_l3Rup list_ (c__0, c__1)) (fun r => .ret (.c (.bool r)) [])
  | _, _ => .fail

noncomputable def C_spec_l3Rup : Cfg := { y := tys, n := 23, h := 0, tab := [(195, c_spec_l3Propagate), (252, c_spec_NegateConstraint)], cut := [3], hand := [(195, [1])], good := [], deep := [], sched := [(2, (.first 1 (.alt 0 (.alt 2 (.alt 3 (.alt 4 (.alt 5 (.first 6 .done) .stop) .stop) .stop) (.alt 3 (.alt 2 (.alt 4 (.alt 5 (.first 6 .done) .stop) .stop) (.alt 4 (.alt 2 (.alt 5 (.first 6 .done) .stop) .stop) .stop)) .stop)) (.alt 3 (.alt 0 (.alt 2 (.alt 4 (.alt 5 (.first 6 .done) .stop) .stop) (.alt 4 (.alt 2 (.alt 5 (.first 6 .done) .stop) .stop) .stop)) (.alt 4 (.alt 0 (.alt 2 (.alt 5 (.first 6 .done) .stop) .stop) .stop) .stop)) .stop))))] }

theorem t_spec_l3Rup : TabOk Tryz.prog C_spec_l3Rup := by
  refine tabOk_of ?_
  simp only [C_spec_l3Rup, List.forall_mem_cons]
  exact ⟨k_spec_l3Propagate, k_spec_NegateConstraint, fun p h => by cases h⟩

theorem k_spec_l3Rup : Entry Tryz.prog 209 c_spec_l3Rup := by
 refine entry_by (C := C_spec_l3Rup) mixed tys_ok t_spec_l3Rup (fn := Tryz.f209) (c := bd Tryz.f209) (by kernel_rfl) (by kernel_rfl) (by kernel_rfl) (by kernel_rfl) ?_
 intro args st k he
 unfold c_spec_l3Rup at he
 split at he
 rotate_left
 ·exact he.elim
 rename_i list_ c__0 c__1
 have he : Ok (spec_l3Rup list_ (c__0, c__1)) (fun r => k (.c (.bool r)) []) := he
 refine ⟨rfl, rfl, ?_⟩
 refine go_bind he fun r1_ he => ?_
 refine seq_model mixed tys_ok t_spec_l3Rup (S := Unit) (I := (fun _ => (envOf [(7, .c (.own 10000000 false))], [(10000000, .sl 89 y2_ ((([] : List D2_) ++ list_) ++ [(r1_.2.2, r1_.2.1)]) .shallow)]))) (B := fun s => Ok (spec_l3Rup_j1 list_ r1_ s) (fun r => k (.c (.bool r)) [])) ?_ ?_
 ·rintro ⟨⟩ he
  refine go_rq he fun he => ?_
  refine go_bind he fun r2_ he => ?_
  have he := ok_some he
  exact ⟨rfl, _, _, (leads_ren [] (l := [(4, .c (.bool (decide ((0:Int) ≤ r2_.1))))]) (st' := []) rfl rfl trivial ⟨.inl rfl, trivial⟩), he⟩
 ·skip
  refine And.intro (by kernel_rfl) ?_
  have he := ok_rq he
  have hq1 := he.1
  have he := he.2
  have he := ok_rq he
  have hq2 := he.1
  have he := he.2
  refine And.intro ?_ (And.intro ?_ (trivial))
  ·skip
   refine And.intro ?_ (And.intro ?_ (trivial))
   ·skip
    refine And.intro hq1 ?_
    refine And.intro ?_ trivial
    refine And.intro ?_ trivial
    refine And.intro ?_ trivial
    refine And.intro hq2 ?_
    exact ⟨(), he, (leads_ren [(10000000, 18)] rfl rfl ⟨⟨rfl, rfl⟩, trivial⟩ ⟨⟨⟨rfl, rfl⟩, trivial⟩, trivial⟩)⟩
   ·skip
    refine And.intro ?_ (And.intro ?_ (trivial))
    ·skip
     refine And.intro hq1 ?_
     refine And.intro ?_ trivial
     refine And.intro ?_ trivial
     refine And.intro hq2 ?_
     exact ⟨(), he, (leads_ren [(10000000, 18)] rfl rfl ⟨⟨rfl, rfl⟩, trivial⟩ ⟨⟨⟨rfl, rfl⟩, trivial⟩, trivial⟩)⟩
    ·skip
     refine And.intro ?_ trivial
     refine And.intro hq1 ?_
     refine And.intro ?_ trivial
     refine And.intro hq2 ?_
     exact ⟨(), he, (leads_ren [(10000000, 18)] rfl rfl ⟨⟨rfl, rfl⟩, trivial⟩ ⟨⟨⟨rfl, rfl⟩, trivial⟩, trivial⟩)⟩
  ·skip
   refine And.intro ?_ (And.intro ?_ (trivial))
   ·skip
    refine And.intro ?_ (And.intro ?_ (trivial))
    ·skip
     refine And.intro hq1 ?_
     refine And.intro ?_ trivial
     refine And.intro ?_ trivial
     refine And.intro hq2 ?_
     exact ⟨(), he, (leads_ren [(10000000, 18)] rfl rfl ⟨⟨rfl, rfl⟩, trivial⟩ ⟨⟨⟨rfl, rfl⟩, trivial⟩, trivial⟩)⟩
    ·skip
     refine And.intro ?_ trivial
     refine And.intro hq1 ?_
     refine And.intro ?_ trivial
     refine And.intro hq2 ?_
     exact ⟨(), he, (leads_ren [(10000000, 18)] rfl rfl ⟨⟨rfl, rfl⟩, trivial⟩ ⟨⟨⟨rfl, rfl⟩, trivial⟩, trivial⟩)⟩
   ·skip
    refine And.intro ?_ trivial
    refine And.intro ?_ trivial
    refine And.intro hq1 ?_
    refine And.intro ?_ trivial
    refine And.intro hq2 ?_
    exact ⟨(), he, (leads_ren [(10000000, 18)] rfl rfl ⟨⟨rfl, rfl⟩, trivial⟩ ⟨⟨⟨rfl, rfl⟩, trivial⟩, trivial⟩)⟩

noncomputable def c_spec_l1Net : Con := fun args st => match args, st with
  | [.c (.imm (.pair (.int .i64) (.int .i64)) terms), .c (.int .i64 bound_)], [] => .opt (Int × (List Int)) (spec_l1Net terms bound_) (fun r => .ret (.tup [.c (.own 900 false), .c (.int .i64 r.1)]) [(900, .sl 3 y0_ r.2 .shallow)])
  | _, _ => .fail

noncomputable def C_spec_l1Net : Cfg := { y := tys, n := 55, h := 0, tab := [], cut := [9, 10], hand := [], good := [], deep := [], sched := [(7, (.first 0 (.first 1 (.first 3 (.first 4 (.first 8 (.alt 2 (.alt 5 (.first 6 (.alt 7 (.alt 9 (.first 10 (.first 11 (.alt 12 .done .stop))) .stop) (.alt 9 (.alt 7 (.first 10 (.first 11 (.alt 12 .done .stop))) .stop) .stop))) (.alt 9 (.alt 5 (.first 6 (.alt 7 (.first 10 (.first 11 (.alt 12 .done .stop))) .stop)) .stop) .stop)) (.alt 5 (.first 6 (.alt 2 (.alt 7 (.alt 9 (.first 10 (.first 11 (.alt 12 .done .stop))) .stop) (.alt 9 (.alt 7 (.first 10 (.first 11 (.alt 12 .done .stop))) .stop) .stop)) (.alt 7 (.alt 2 (.alt 9 (.first 10 (.first 11 (.alt 12 .done .stop))) .stop) (.alt 9 (.first 10 (.alt 2 (.first 11 (.alt 12 .done .stop)) .stop)) .stop)) (.alt 9 (.alt 2 (.alt 7 (.first 10 (.first 11 (.alt 12 .done .stop))) .stop) (.alt 7 (.first 10 (.alt 2 (.first 11 (.alt 12 .done .stop)) .stop)) .stop)) .stop)))) (.alt 9 (.alt 2 (.alt 5 (.first 6 (.alt 7 (.first 10 (.first 11 (.alt 12 .done .stop))) .stop)) .stop) (.alt 5 (.first 6 (.alt 2 (.alt 7 (.first 10 (.first 11 (.alt 12 .done .stop))) .stop) (.alt 7 (.first 10 (.alt 2 (.first 11 (.alt 12 .done .stop)) .stop)) .stop))) .stop)) .stop))))))))), (8, (.first 0 (.first 1 (.first 4 (.first 5 (.first 10 (.alt 2 (.first 3 (.alt 6 (.first 7 (.first 8 (.alt 9 (.alt 11 (.first 12 (.first 13 (.alt 14 .done .stop))) .stop) (.alt 11 (.alt 9 (.first 12 (.first 13 (.alt 14 .done .stop))) .stop) .stop)))) (.alt 11 (.alt 6 (.first 7 (.first 8 (.alt 9 (.first 12 (.first 13 (.alt 14 .done .stop))) .stop))) .stop) .stop))) (.alt 6 (.first 7 (.first 8 (.alt 2 (.first 3 (.alt 9 (.alt 11 (.first 12 (.first 13 (.alt 14 .done .stop))) .stop) (.alt 11 (.alt 9 (.first 12 (.first 13 (.alt 14 .done .stop))) .stop) .stop))) (.alt 9 (.alt 2 (.first 3 (.alt 11 (.first 12 (.first 13 (.alt 14 .done .stop))) .stop)) (.alt 11 (.first 12 (.alt 2 (.first 3 (.first 13 (.alt 14 .done .stop))) .stop)) .stop)) (.alt 11 (.alt 2 (.first 3 (.alt 9 (.first 12 (.first 13 (.alt 14 .done .stop))) .stop)) (.alt 9 (.first 12 (.alt 2 (.first 3 (.first 13 (.alt 14 .done .stop))) .stop)) .stop)) .stop))))) (.alt 11 (.alt 2 (.first 3 (.alt 6 (.first 7 (.first 8 (.alt 9 (.first 12 (.first 13 (.alt 14 .done .stop))) .stop))) .stop)) (.alt 6 (.first 7 (.first 8 (.alt 2 (.first 3 (.alt 9 (.first 12 (.first 13 (.alt 14 .done .stop))) .stop)) (.alt 9 (.first 12 (.alt 2 (.first 3 (.first 13 (.alt 14 .done .stop))) .stop)) .stop)))) .stop)) .stop)))))))))] }

theorem t_spec_l1Net : TabOk Tryz.prog C_spec_l1Net := tabOk_of (fun p h => by cases h)

theorem k_spec_l1Net : Entry Tryz.prog 253 c_spec_l1Net := by
 refine entry_by (C := C_spec_l1Net) mixed tys_ok t_spec_l1Net (fn := Tryz.f253) (c := bd Tryz.f253) (by kernel_rfl) (by kernel_rfl) (by kernel_rfl) (by kernel_rfl) ?_
 intro args st k he
 unfold c_spec_l1Net at he
 split at he
 rotate_left
 ·exact he.elim
 rename_i terms bound_
 have he : Ok (spec_l1Net terms bound_) (fun r => k (.tup [.c (.own 900 false), .c (.int .i64 r.1)]) [(900, .sl 3 y0_ r.2 .shallow)]) := he
 refine ⟨rfl, rfl, ?_⟩
 refine go_rq he fun he => ?_
 refine seq_model mixed tys_ok t_spec_l1Net (S := Int × (List Int)) (I := (fun (bound_2, net2) => (envOf [(1, .c (.int .i64 bound_2)), (6, .c (.own 10003000 false))], [(10003000, .sl 3 y0_ net2 .shallow)]))) (B := fun s => Ok (spec_l1Net_j1 s) (fun r => k (.tup [.c (.own 900 false), .c (.int .i64 r.1)]) [(900, .sl 3 y0_ r.2 .shallow)])) ?_ ?_
 ·rintro ⟨bound_2, net2⟩ he
  have he := ok_some he
  exact ⟨rfl, _, _, (leads_ren [(900, 10003000)] (l := [(4, .c (.own 900 false)), (5, .c (.int .i64 bound_2))]) (st' := [(900, .sl 3 y0_ net2 .shallow)]) rfl rfl ⟨⟨rfl, rfl⟩, trivial⟩ ⟨⟨⟨rfl, rfl⟩, trivial⟩, rfl, trivial⟩), he⟩
 ·skip
  refine loop_model mixed tys_ok t_spec_l1Net (S := Int × Int × (List Int)) (I := (fun (bound_1, i, net1) => (envOf [(0, .c (.imm y1_ terms)), (1, .c (.int .i64 bound_1)), (6, .c (.own 10000000 false)), (7, .c (.int .i64 i))], [(10000000, .sl 3 y0_ net1 .shallow)]))) (f := spec_l1Net_l1 terms) (K := (fun r => k (.tup [.c (.own 900 false), .c (.int .i64 r.1)]) [(900, .sl 3 y0_ r.2 .shallow)])) he (leads_ren [(10000000, 9)] rfl rfl ⟨⟨rfl, rfl⟩, trivial⟩ ⟨.inl rfl, rfl, ⟨⟨rfl, rfl⟩, trivial⟩, rfl, trivial⟩) ?_
  rintro ⟨bound_1, i, net1⟩ J1 he
  refine go_if he (fun he => ?_) fun he => ?_
  ·refine go_rq he fun he => ?_
   refine go_if he (fun he => ?_) fun he => ?_
   ·refine And.intro (by kernel_rfl) ?_
    have he := ok_rq he
    have hq1 := he.1
    have he := he.2
    have he := ok_rq he
    have hq2 := he.1
    have he := he.2
    have he := ok_rq he
    have hq3 := he.1
    have he := he.2
    refine And.intro ?_ (And.intro ?_ (And.intro ?_ (trivial)))
    ·skip
     refine And.intro ?_ (And.intro ?_ (trivial))
     ·skip
      refine And.intro hq1 ?_
      refine And.intro ?_ (And.intro ?_ (trivial))
      ·skip
       refine And.intro ?_ trivial
       refine And.intro hq2 ?_
       refine And.intro hq1 ?_
       refine And.intro ?_ trivial
       refine go_rq he fun he => ?_
       have he := ok_some he
       exact ⟨(bound_1, (i + (1:Int)), (net1.set (terms.getD i.toNat (0, 0)).2.toNat ((net1.getD (terms.getD i.toNat (0, 0)).2.toNat 0) + (terms.getD i.toNat (0, 0)).1))), he, (leads_ren [] rfl rfl ⟨⟨rfl, rfl⟩, trivial⟩ ⟨.inl rfl, rfl, ⟨⟨rfl, rfl⟩, trivial⟩, rfl, trivial⟩)⟩
      ·skip
       refine And.intro ?_ trivial
       refine And.intro hq2 ?_
       refine And.intro hq1 ?_
       refine And.intro ?_ trivial
       refine go_rq he fun he => ?_
       have he := ok_some he
       exact ⟨(bound_1, (i + (1:Int)), (net1.set (terms.getD i.toNat (0, 0)).2.toNat ((net1.getD (terms.getD i.toNat (0, 0)).2.toNat 0) + (terms.getD i.toNat (0, 0)).1))), he, (leads_ren [] rfl rfl ⟨⟨rfl, rfl⟩, trivial⟩ ⟨.inl rfl, rfl, ⟨⟨rfl, rfl⟩, trivial⟩, rfl, trivial⟩)⟩
     ·skip
      refine And.intro ?_ trivial
      refine And.intro hq1 ?_
      refine And.intro ?_ trivial
      refine And.intro hq2 ?_
      refine And.intro hq1 ?_
      refine And.intro ?_ trivial
      refine go_rq he fun he => ?_
      have he := ok_some he
      exact ⟨(bound_1, (i + (1:Int)), (net1.set (terms.getD i.toNat (0, 0)).2.toNat ((net1.getD (terms.getD i.toNat (0, 0)).2.toNat 0) + (terms.getD i.toNat (0, 0)).1))), he, (leads_ren [] rfl rfl ⟨⟨rfl, rfl⟩, trivial⟩ ⟨.inl rfl, rfl, ⟨⟨rfl, rfl⟩, trivial⟩, rfl, trivial⟩)⟩
    ·skip
     refine And.intro hq1 ?_
     refine And.intro ?_ (And.intro ?_ (And.intro ?_ (trivial)))
     ·skip
      refine And.intro ?_ (And.intro ?_ (trivial))
      ·skip
       refine And.intro ?_ trivial
       refine And.intro hq2 ?_
       refine And.intro hq1 ?_
       refine And.intro ?_ trivial
       refine go_rq he fun he => ?_
       have he := ok_some he
       exact ⟨(bound_1, (i + (1:Int)), (net1.set (terms.getD i.toNat (0, 0)).2.toNat ((net1.getD (terms.getD i.toNat (0, 0)).2.toNat 0) + (terms.getD i.toNat (0, 0)).1))), he, (leads_ren [] rfl rfl ⟨⟨rfl, rfl⟩, trivial⟩ ⟨.inl rfl, rfl, ⟨⟨rfl, rfl⟩, trivial⟩, rfl, trivial⟩)⟩
      ·skip
       refine And.intro ?_ trivial
       refine And.intro hq2 ?_
       refine And.intro hq1 ?_
       refine And.intro ?_ trivial
       refine go_rq he fun he => ?_
       have he := ok_some he
       exact ⟨(bound_1, (i + (1:Int)), (net1.set (terms.getD i.toNat (0, 0)).2.toNat ((net1.getD (terms.getD i.toNat (0, 0)).2.toNat 0) + (terms.getD i.toNat (0, 0)).1))), he, (leads_ren [] rfl rfl ⟨⟨rfl, rfl⟩, trivial⟩ ⟨.inl rfl, rfl, ⟨⟨rfl, rfl⟩, trivial⟩, rfl, trivial⟩)⟩
     ·skip
      refine And.intro ?_ (And.intro ?_ (trivial))
      ·skip
       refine And.intro ?_ trivial
       refine And.intro hq2 ?_
       refine And.intro hq1 ?_
       refine And.intro ?_ trivial
       refine go_rq he fun he => ?_
       have he := ok_some he
       exact ⟨(bound_1, (i + (1:Int)), (net1.set (terms.getD i.toNat (0, 0)).2.toNat ((net1.getD (terms.getD i.toNat (0, 0)).2.toNat 0) + (terms.getD i.toNat (0, 0)).1))), he, (leads_ren [] rfl rfl ⟨⟨rfl, rfl⟩, trivial⟩ ⟨.inl rfl, rfl, ⟨⟨rfl, rfl⟩, trivial⟩, rfl, trivial⟩)⟩
      ·skip
       refine And.intro hq2 ?_
       refine And.intro ?_ trivial
       refine And.intro hq1 ?_
       refine And.intro ?_ trivial
       refine go_rq he fun he => ?_
       have he := ok_some he
       exact ⟨(bound_1, (i + (1:Int)), (net1.set (terms.getD i.toNat (0, 0)).2.toNat ((net1.getD (terms.getD i.toNat (0, 0)).2.toNat 0) + (terms.getD i.toNat (0, 0)).1))), he, (leads_ren [] rfl rfl ⟨⟨rfl, rfl⟩, trivial⟩ ⟨.inl rfl, rfl, ⟨⟨rfl, rfl⟩, trivial⟩, rfl, trivial⟩)⟩
     ·skip
      refine And.intro ?_ (And.intro ?_ (trivial))
      ·skip
       refine And.intro ?_ trivial
       refine And.intro hq2 ?_
       refine And.intro hq1 ?_
       refine And.intro ?_ trivial
       refine go_rq he fun he => ?_
       have he := ok_some he
       exact ⟨(bound_1, (i + (1:Int)), (net1.set (terms.getD i.toNat (0, 0)).2.toNat ((net1.getD (terms.getD i.toNat (0, 0)).2.toNat 0) + (terms.getD i.toNat (0, 0)).1))), he, (leads_ren [] rfl rfl ⟨⟨rfl, rfl⟩, trivial⟩ ⟨.inl rfl, rfl, ⟨⟨rfl, rfl⟩, trivial⟩, rfl, trivial⟩)⟩
      ·skip
       refine And.intro hq2 ?_
       refine And.intro ?_ trivial
       refine And.intro hq1 ?_
       refine And.intro ?_ trivial
       refine go_rq he fun he => ?_
       have he := ok_some he
       exact ⟨(bound_1, (i + (1:Int)), (net1.set (terms.getD i.toNat (0, 0)).2.toNat ((net1.getD (terms.getD i.toNat (0, 0)).2.toNat 0) + (terms.getD i.toNat (0, 0)).1))), he, (leads_ren [] rfl rfl ⟨⟨rfl, rfl⟩, trivial⟩ ⟨.inl rfl, rfl, ⟨⟨rfl, rfl⟩, trivial⟩, rfl, trivial⟩)⟩
    ·skip
     refine And.intro ?_ (And.intro ?_ (trivial))
     ·skip
      refine And.intro ?_ trivial
      refine And.intro hq1 ?_
      refine And.intro ?_ trivial
      refine And.intro hq2 ?_
      refine And.intro hq1 ?_
      refine And.intro ?_ trivial
      refine go_rq he fun he => ?_
      have he := ok_some he
      exact ⟨(bound_1, (i + (1:Int)), (net1.set (terms.getD i.toNat (0, 0)).2.toNat ((net1.getD (terms.getD i.toNat (0, 0)).2.toNat 0) + (terms.getD i.toNat (0, 0)).1))), he, (leads_ren [] rfl rfl ⟨⟨rfl, rfl⟩, trivial⟩ ⟨.inl rfl, rfl, ⟨⟨rfl, rfl⟩, trivial⟩, rfl, trivial⟩)⟩
     ·skip
      refine And.intro hq1 ?_
      refine And.intro ?_ (And.intro ?_ (trivial))
      ·skip
       refine And.intro ?_ trivial
       refine And.intro hq2 ?_
       refine And.intro hq1 ?_
       refine And.intro ?_ trivial
       refine go_rq he fun he => ?_
       have he := ok_some he
       exact ⟨(bound_1, (i + (1:Int)), (net1.set (terms.getD i.toNat (0, 0)).2.toNat ((net1.getD (terms.getD i.toNat (0, 0)).2.toNat 0) + (terms.getD i.toNat (0, 0)).1))), he, (leads_ren [] rfl rfl ⟨⟨rfl, rfl⟩, trivial⟩ ⟨.inl rfl, rfl, ⟨⟨rfl, rfl⟩, trivial⟩, rfl, trivial⟩)⟩
      ·skip
       refine And.intro hq2 ?_
       refine And.intro ?_ trivial
       refine And.intro hq1 ?_
       refine And.intro ?_ trivial
       refine go_rq he fun he => ?_
       have he := ok_some he
       exact ⟨(bound_1, (i + (1:Int)), (net1.set (terms.getD i.toNat (0, 0)).2.toNat ((net1.getD (terms.getD i.toNat (0, 0)).2.toNat 0) + (terms.getD i.toNat (0, 0)).1))), he, (leads_ren [] rfl rfl ⟨⟨rfl, rfl⟩, trivial⟩ ⟨.inl rfl, rfl, ⟨⟨rfl, rfl⟩, trivial⟩, rfl, trivial⟩)⟩
   ·refine seq_model mixed tys_ok t_spec_l1Net (S := Unit) (I := (fun _ => (envOf [(0, .c (.imm y1_ terms)), (1, .c (.int .i64 bound_1)), (6, .c (.own 10002000 false)), (7, .c (.int .i64 i)), (8, .c (.ptr 10002001 0))], [(10002000, .sl 3 y0_ (net1.set (0 - (terms.getD i.toNat (0, 0)).2).toNat ((net1.getD (0 - (terms.getD i.toNat (0, 0)).2).toNat 0) - (terms.getD i.toNat (0, 0)).1)) .shallow), (10002001, .rc [.int .i64 (terms.getD i.toNat (0, 0)).1, .int .i64 (terms.getD i.toNat (0, 0)).2])]))) (B := fun s => Ok (spec_l1Net_j2 terms bound_1 i net1 s) (LK J1 (fun r => k (.tup [.c (.own 900 false), .c (.int .i64 r.1)]) [(900, .sl 3 y0_ r.2 .shallow)]))) ?_ ?_
    ·rintro ⟨⟩ he
     refine go_rq he fun he => ?_
     refine go_rq he fun he => ?_
     have he := ok_some he
     exact ⟨((bound_1 - (terms.getD i.toNat (0, 0)).1), (i + (1:Int)), (net1.set (0 - (terms.getD i.toNat (0, 0)).2).toNat ((net1.getD (0 - (terms.getD i.toNat (0, 0)).2).toNat 0) - (terms.getD i.toNat (0, 0)).1))), he, (leads_ren [(10000000, 10002000)] rfl rfl ⟨⟨rfl, rfl⟩, trivial⟩ ⟨.inl rfl, rfl, ⟨⟨rfl, rfl⟩, trivial⟩, rfl, trivial⟩)⟩
    ·skip
     refine And.intro (by kernel_rfl) ?_
     have he := ok_rq he
     have hq1 := he.1
     have he := he.2
     have he := ok_rq he
     have hq2 := he.1
     have he := he.2
     have he := ok_rq he
     have hq3 := he.1
     have he := he.2
     have he := ok_rq he
     have hq4 := he.1
     have he := he.2
     have he := ok_rq he
     have hq5 := he.1
     have he := he.2
     refine And.intro ?_ (And.intro ?_ (And.intro ?_ (trivial)))
     ·skip
      refine And.intro hq1 ?_
      refine And.intro ?_ (And.intro ?_ (trivial))
      ·skip
       refine And.intro hq1 ?_
       refine And.intro hq3 ?_
       refine And.intro ?_ (And.intro ?_ (trivial))
       ·skip
        refine And.intro ?_ trivial
        refine And.intro hq4 ?_
        refine And.intro hq3 ?_
        refine And.intro ?_ trivial
        exact ⟨(), he, (leads_ren [(10002000, 10000000), (10002001, 8)] rfl rfl ⟨⟨rfl, rfl⟩, ⟨rfl, rfl, trivial⟩, trivial⟩ ⟨.inl rfl, rfl, ⟨⟨rfl, rfl⟩, trivial⟩, rfl, ⟨⟨rfl, rfl⟩, rfl⟩, trivial⟩)⟩
       ·skip
        refine And.intro ?_ trivial
        refine And.intro hq4 ?_
        refine And.intro hq3 ?_
        refine And.intro ?_ trivial
        exact ⟨(), he, (leads_ren [(10002000, 10000000), (10002001, 8)] rfl rfl ⟨⟨rfl, rfl⟩, ⟨rfl, rfl, trivial⟩, trivial⟩ ⟨.inl rfl, rfl, ⟨⟨rfl, rfl⟩, trivial⟩, rfl, ⟨⟨rfl, rfl⟩, rfl⟩, trivial⟩)⟩
      ·skip
       refine And.intro ?_ trivial
       refine And.intro hq1 ?_
       refine And.intro hq3 ?_
       refine And.intro ?_ trivial
       refine And.intro hq4 ?_
       refine And.intro hq3 ?_
       refine And.intro ?_ trivial
       exact ⟨(), he, (leads_ren [(10002000, 10000000), (10002001, 8)] rfl rfl ⟨⟨rfl, rfl⟩, ⟨rfl, rfl, trivial⟩, trivial⟩ ⟨.inl rfl, rfl, ⟨⟨rfl, rfl⟩, trivial⟩, rfl, ⟨⟨rfl, rfl⟩, rfl⟩, trivial⟩)⟩
     ·skip
      refine And.intro hq1 ?_
      refine And.intro hq3 ?_
      refine And.intro ?_ (And.intro ?_ (And.intro ?_ (trivial)))
      ·skip
       refine And.intro hq1 ?_
       refine And.intro ?_ (And.intro ?_ (trivial))
       ·skip
        refine And.intro ?_ trivial
        refine And.intro hq4 ?_
        refine And.intro hq3 ?_
        refine And.intro ?_ trivial
        exact ⟨(), he, (leads_ren [(10002000, 10000000), (10002001, 8)] rfl rfl ⟨⟨rfl, rfl⟩, ⟨rfl, rfl, trivial⟩, trivial⟩ ⟨.inl rfl, rfl, ⟨⟨rfl, rfl⟩, trivial⟩, rfl, ⟨⟨rfl, rfl⟩, rfl⟩, trivial⟩)⟩
       ·skip
        refine And.intro ?_ trivial
        refine And.intro hq4 ?_
        refine And.intro hq3 ?_
        refine And.intro ?_ trivial
        exact ⟨(), he, (leads_ren [(10002000, 10000000), (10002001, 8)] rfl rfl ⟨⟨rfl, rfl⟩, ⟨rfl, rfl, trivial⟩, trivial⟩ ⟨.inl rfl, rfl, ⟨⟨rfl, rfl⟩, trivial⟩, rfl, ⟨⟨rfl, rfl⟩, rfl⟩, trivial⟩)⟩
      ·skip
       refine And.intro ?_ (And.intro ?_ (trivial))
       ·skip
        refine And.intro hq1 ?_
        refine And.intro ?_ trivial
        refine And.intro hq4 ?_
        refine And.intro hq3 ?_
        refine And.intro ?_ trivial
        exact ⟨(), he, (leads_ren [(10002000, 10000000), (10002001, 8)] rfl rfl ⟨⟨rfl, rfl⟩, ⟨rfl, rfl, trivial⟩, trivial⟩ ⟨.inl rfl, rfl, ⟨⟨rfl, rfl⟩, trivial⟩, rfl, ⟨⟨rfl, rfl⟩, rfl⟩, trivial⟩)⟩
       ·skip
        refine And.intro hq4 ?_
        refine And.intro ?_ trivial
        refine And.intro hq1 ?_
        refine And.intro hq3 ?_
        refine And.intro ?_ trivial
        exact ⟨(), he, (leads_ren [(10002000, 10000000), (10002001, 8)] rfl rfl ⟨⟨rfl, rfl⟩, ⟨rfl, rfl, trivial⟩, trivial⟩ ⟨.inl rfl, rfl, ⟨⟨rfl, rfl⟩, trivial⟩, rfl, ⟨⟨rfl, rfl⟩, rfl⟩, trivial⟩)⟩
      ·skip
       refine And.intro ?_ (And.intro ?_ (trivial))
       ·skip
        refine And.intro hq1 ?_
        refine And.intro ?_ trivial
        refine And.intro hq4 ?_
        refine And.intro hq3 ?_
        refine And.intro ?_ trivial
        exact ⟨(), he, (leads_ren [(10002000, 10000000), (10002001, 8)] rfl rfl ⟨⟨rfl, rfl⟩, ⟨rfl, rfl, trivial⟩, trivial⟩ ⟨.inl rfl, rfl, ⟨⟨rfl, rfl⟩, trivial⟩, rfl, ⟨⟨rfl, rfl⟩, rfl⟩, trivial⟩)⟩
       ·skip
        refine And.intro hq4 ?_
        refine And.intro ?_ trivial
        refine And.intro hq1 ?_
        refine And.intro hq3 ?_
        refine And.intro ?_ trivial
        exact ⟨(), he, (leads_ren [(10002000, 10000000), (10002001, 8)] rfl rfl ⟨⟨rfl, rfl⟩, ⟨rfl, rfl, trivial⟩, trivial⟩ ⟨.inl rfl, rfl, ⟨⟨rfl, rfl⟩, trivial⟩, rfl, ⟨⟨rfl, rfl⟩, rfl⟩, trivial⟩)⟩
     ·skip
      refine And.intro ?_ (And.intro ?_ (trivial))
      ·skip
       refine And.intro hq1 ?_
       refine And.intro ?_ trivial
       refine And.intro hq1 ?_
       refine And.intro hq3 ?_
       refine And.intro ?_ trivial
       refine And.intro hq4 ?_
       refine And.intro hq3 ?_
       refine And.intro ?_ trivial
       exact ⟨(), he, (leads_ren [(10002000, 10000000), (10002001, 8)] rfl rfl ⟨⟨rfl, rfl⟩, ⟨rfl, rfl, trivial⟩, trivial⟩ ⟨.inl rfl, rfl, ⟨⟨rfl, rfl⟩, trivial⟩, rfl, ⟨⟨rfl, rfl⟩, rfl⟩, trivial⟩)⟩
      ·skip
       refine And.intro hq1 ?_
       refine And.intro hq3 ?_
       refine And.intro ?_ (And.intro ?_ (trivial))
       ·skip
        refine And.intro hq1 ?_
        refine And.intro ?_ trivial
        refine And.intro hq4 ?_
        refine And.intro hq3 ?_
        refine And.intro ?_ trivial
        exact ⟨(), he, (leads_ren [(10002000, 10000000), (10002001, 8)] rfl rfl ⟨⟨rfl, rfl⟩, ⟨rfl, rfl, trivial⟩, trivial⟩ ⟨.inl rfl, rfl, ⟨⟨rfl, rfl⟩, trivial⟩, rfl, ⟨⟨rfl, rfl⟩, rfl⟩, trivial⟩)⟩
       ·skip
        refine And.intro hq4 ?_
        refine And.intro ?_ trivial
        refine And.intro hq1 ?_
        refine And.intro hq3 ?_
        refine And.intro ?_ trivial
        exact ⟨(), he, (leads_ren [(10002000, 10000000), (10002001, 8)] rfl rfl ⟨⟨rfl, rfl⟩, ⟨rfl, rfl, trivial⟩, trivial⟩ ⟨.inl rfl, rfl, ⟨⟨rfl, rfl⟩, trivial⟩, rfl, ⟨⟨rfl, rfl⟩, rfl⟩, trivial⟩)⟩
  ·exact ⟨(bound_1, net1), ok_up he, (leads_ren [(10003000, 10000000)] rfl rfl ⟨⟨rfl, rfl⟩, trivial⟩ ⟨rfl, ⟨⟨rfl, rfl⟩, trivial⟩, trivial⟩)⟩

noncomputable def c_spec_l1Normal : Con := fun args st => match args, st with
  | [.c (.imm (.int .i64) net), .c (.int .i64 bound_)], [] => .opt (Bool × Int × (List D1_)) (spec_l1Normal net bound_) (fun r => .ret (.tup [.agg [.own 901 false, .int .i64 r.2.1], .c (.bool r.1)]) [(900, .rc [.own 901 false, .int .i64 r.2.1]), (901, .sl 155 y1_ r.2.2 .shallow)])
  | _, _ => .fail

noncomputable def C_spec_l1Normal : Cfg := { y := tys, n := 62, h := 0, tab := [(168, c_spec_ConstraintValid)], cut := [7, 9, 10, 12], hand := [], good := [], deep := [], sched := [(6, (.first 0 (.first 2 (.first 3 (.first 4 (.first 5 (.first 6 (.alt 1 (.alt 7 (.alt 8 (.alt 9 (.first 10 (.alt 11 .done .stop)) .stop) .stop) .stop) (.alt 7 (.alt 1 (.alt 8 (.alt 9 (.first 10 (.alt 11 .done .stop)) .stop) .stop) (.alt 8 (.alt 1 (.alt 9 (.first 10 (.alt 11 .done .stop)) .stop) .stop) .stop)) .stop))))))))), (8, (.first 0 (.first 2 (.first 3 (.first 4 (.first 5 (.first 6 (.first 7 (.first 8 (.alt 1 (.alt 9 (.alt 10 (.alt 11 (.first 12 (.alt 13 .done .stop)) .stop) .stop) .stop) (.alt 9 (.alt 1 (.alt 10 (.alt 11 (.first 12 (.alt 13 .done .stop)) .stop) .stop) (.alt 10 (.alt 1 (.alt 11 (.first 12 (.alt 13 .done .stop)) .stop) .stop) .stop)) .stop)))))))))))] }

theorem t_spec_l1Normal : TabOk Tryz.prog C_spec_l1Normal := by
  refine tabOk_of ?_
  simp only [C_spec_l1Normal, List.forall_mem_cons]
  exact ⟨k_spec_ConstraintValid, fun p h => by cases h⟩

theorem k_spec_l1Normal : Entry Tryz.prog 134 c_spec_l1Normal := by
 refine entry_by (C := C_spec_l1Normal) mixed tys_ok t_spec_l1Normal (fn := Tryz.f134) (c := bd Tryz.f134) (by kernel_rfl) (by kernel_rfl) (by kernel_rfl) (by kernel_rfl) ?_
 intro args st k he
 unfold c_spec_l1Normal at he
 split at he
 rotate_left
 ·exact he.elim
 rename_i net bound_
 have he : Ok (spec_l1Normal net bound_) (fun r => k (.tup [.agg [.own 901 false, .int .i64 r.2.1], .c (.bool r.1)]) [(900, .rc [.own 901 false, .int .i64 r.2.1]), (901, .sl 155 y1_ r.2.2 .shallow)]) := he
 refine ⟨rfl, rfl, ?_⟩
 refine seq_model mixed tys_ok t_spec_l1Normal (S := Int × (List D1_)) (I := (fun (bound_2, c_03) => (envOf [(1, .c (.int .i64 bound_2)), (4, .c (.ptr 10005000 0)), (6, .c (.ptr 10005001 0))], [(10005000, .rc [.nil, .int .i64 (0:Int)]), (10005001, .rc [.own 10005002 false, .int .i64 (0:Int)]), (10005002, .sl 155 y1_ c_03 .shallow)]))) (B := fun s => Ok (spec_l1Normal_j1 s) (fun r => k (.tup [.agg [.own 901 false, .int .i64 r.2.1], .c (.bool r.1)]) [(900, .rc [.own 901 false, .int .i64 r.2.1]), (901, .sl 155 y1_ r.2.2 .shallow)])) ?_ ?_
 ·rintro ⟨bound_2, c_03⟩ he
  refine seq_model mixed tys_ok t_spec_l1Normal (S := Int) (I := (fun bound_3 => (envOf [(1, .c (.int .i64 bound_3)), (4, .c (.ptr 10006000 0)), (6, .c (.ptr 10006001 0))], [(10006000, .rc [.nil, .int .i64 (0:Int)]), (10006001, .rc [.own 10006002 false, .int .i64 (0:Int)]), (10006002, .sl 155 y1_ c_03 .shallow)]))) (B := fun s => Ok (spec_l1Normal_j2 c_03 s) (fun r => k (.tup [.agg [.own 901 false, .int .i64 r.2.1], .c (.bool r.1)]) [(900, .rc [.own 901 false, .int .i64 r.2.1]), (901, .sl 155 y1_ r.2.2 .shallow)])) ?_ ?_
  ·rintro bound_3 he
   refine go_bind he fun r1_ he => ?_
   refine go_if he (fun he => ?_) fun he => ?_
   ·have he := ok_some he
    exact ⟨rfl, _, _, (leads_ren [(900, 10006000)] (l := [(4, .c (.ptr 900 0)), (5, .c (.bool false))]) (st' := [(900, .rc [.own 901 false, .int .i64 (0:Int)]), (901, .sl 155 y1_ ([] : List D1_) .shallow)]) rfl rfl ⟨⟨⟨rfl, trivial⟩, rfl, trivial⟩, trivial, trivial⟩ ⟨⟨⟨rfl, rfl⟩, rfl⟩, .inr rfl, trivial⟩), he⟩
   ·have he := ok_some he
    exact ⟨rfl, _, _, (leads_ren [(900, 10006000), (901, 10006002)] (l := [(4, .c (.ptr 900 0)), (5, .c (.bool true))]) (st' := [(900, .rc [.own 901 false, .int .i64 bound_3]), (901, .sl 155 y1_ c_03 .shallow)]) rfl rfl ⟨⟨⟨⟨rfl, rfl⟩, trivial⟩, rfl, trivial⟩, ⟨rfl, rfl⟩, trivial⟩ ⟨⟨⟨rfl, rfl⟩, rfl⟩, .inr rfl, trivial⟩), he⟩
  ·skip
   refine go_if he (fun he => ?_) fun he => ?_
   ·exact ⟨(0:Int), he, (leads_ren [(10006000, 10005000), (10006001, 10005001), (10006002, 10005002)] rfl rfl ⟨⟨rfl, rfl, trivial⟩, ⟨⟨⟨rfl, rfl⟩, trivial⟩, rfl, trivial⟩, ⟨rfl, rfl⟩, trivial⟩ ⟨rfl, ⟨⟨rfl, rfl⟩, rfl⟩, ⟨⟨rfl, rfl⟩, rfl⟩, trivial⟩)⟩
   ·exact ⟨bound_2, he, (leads_ren [(10006000, 10005000), (10006001, 10005001), (10006002, 10005002)] rfl rfl ⟨⟨rfl, rfl, trivial⟩, ⟨⟨⟨rfl, rfl⟩, trivial⟩, rfl, trivial⟩, ⟨rfl, rfl⟩, trivial⟩ ⟨rfl, ⟨⟨rfl, rfl⟩, rfl⟩, ⟨⟨rfl, rfl⟩, rfl⟩, trivial⟩)⟩
 ·skip
  refine loop_model mixed tys_ok t_spec_l1Normal (S := Int × Int × (List D1_)) (I := (fun (bound_1, v, c_01) => (envOf [(0, .c (.imm y0_ net)), (1, .c (.int .i64 bound_1)), (4, .c (.ptr 10000000 0)), (6, .c (.ptr 10000001 0)), (7, .c (.int .i64 v))], [(10000000, .rc [.nil, .int .i64 (0:Int)]), (10000001, .rc [.own 10000002 false, .int .i64 (0:Int)]), (10000002, .sl 155 y1_ c_01 .shallow)]))) (f := spec_l1Normal_l1 net) (K := (fun r => k (.tup [.agg [.own 901 false, .int .i64 r.2.1], .c (.bool r.1)]) [(900, .rc [.own 901 false, .int .i64 r.2.1]), (901, .sl 155 y1_ r.2.2 .shallow)])) he (leads_ren [(10000000, 4), (10000001, 6)] rfl rfl ⟨⟨rfl, rfl, trivial⟩, ⟨⟨rfl, trivial⟩, rfl, trivial⟩, trivial, trivial⟩ ⟨.inl rfl, rfl, ⟨⟨rfl, rfl⟩, rfl⟩, ⟨⟨rfl, rfl⟩, rfl⟩, rfl, trivial⟩) ?_
  rintro ⟨bound_1, v, c_01⟩ J1 he
  refine go_if he (fun he => ?_) fun he => ?_
  ·refine seq_model mixed tys_ok t_spec_l1Normal (S := (List D1_)) (I := (fun c_02 => (envOf [(0, .c (.imm y0_ net)), (1, .c (.int .i64 bound_1)), (4, .c (.ptr 10003000 0)), (6, .c (.ptr 10003001 0)), (7, .c (.int .i64 v))], [(10003000, .rc [.nil, .int .i64 (0:Int)]), (10003001, .rc [.own 10003002 false, .int .i64 (0:Int)]), (10003002, .sl 155 y1_ c_02 .shallow)]))) (B := fun s => Ok (spec_l1Normal_j3 net bound_1 v s) (LK J1 (fun r => k (.tup [.agg [.own 901 false, .int .i64 r.2.1], .c (.bool r.1)]) [(900, .rc [.own 901 false, .int .i64 r.2.1]), (901, .sl 155 y1_ r.2.2 .shallow)]))) ?_ ?_
   ·rintro c_02 he
    refine go_rq he fun he => ?_
    refine go_if he (fun he => ?_) fun he => ?_
    ·refine seq_model mixed tys_ok t_spec_l1Normal (S := Unit) (I := (fun _ => (envOf [(0, .c (.imm y0_ net)), (1, .c (.int .i64 bound_1)), (4, .c (.ptr 10004000 0)), (6, .c (.ptr 10004001 0)), (7, .c (.int .i64 v))], [(10004000, .rc [.nil, .int .i64 (0:Int)]), (10004001, .rc [.own 10004002 false, .int .i64 (0:Int)]), (10004002, .sl 155 y1_ (c_02 ++ [((0 - (net.getD v.toNat 0)), (0 - v))]) .shallow)]))) (B := fun s => Ok (spec_l1Normal_j4 net bound_1 v c_02 s) (LK J1 (fun r => k (.tup [.agg [.own 901 false, .int .i64 r.2.1], .c (.bool r.1)]) [(900, .rc [.own 901 false, .int .i64 r.2.1]), (901, .sl 155 y1_ r.2.2 .shallow)]))) ?_ ?_
     ·rintro ⟨⟩ he
      refine go_rq he fun he => ?_
      refine go_rq he fun he => ?_
      refine go_rq he fun he => ?_
      have he := ok_some he
      exact ⟨((bound_1 - (net.getD v.toNat 0)), (v + (1:Int)), (c_02 ++ [((0 - (net.getD v.toNat 0)), (0 - v))])), he, (leads_ren [(10000000, 10004000), (10000001, 10004001), (10000002, 10004002)] rfl rfl ⟨⟨rfl, rfl, trivial⟩, ⟨⟨⟨rfl, rfl⟩, trivial⟩, rfl, trivial⟩, ⟨rfl, rfl⟩, trivial⟩ ⟨.inl rfl, rfl, ⟨⟨rfl, rfl⟩, rfl⟩, ⟨⟨rfl, rfl⟩, rfl⟩, rfl, trivial⟩)⟩
     ·skip
      refine And.intro (by kernel_rfl) ?_
      refine go_rq he fun he => ?_
      refine go_rq he fun he => ?_
      refine go_rq he fun he => ?_
      have he := ok_rq he
      have hq1 := he.1
      have he := he.2
      refine And.intro ?_ (And.intro ?_ (trivial))
      ·skip
       refine And.intro ?_ trivial
       refine And.intro ?_ trivial
       refine And.intro ?_ trivial
       refine And.intro hq1 ?_
       refine And.intro ?_ trivial
       exact ⟨(), he, (leads_ren [(10004000, 10003000), (10004001, 10003001), (10004002, 45)] rfl rfl ⟨⟨rfl, rfl, trivial⟩, ⟨⟨⟨rfl, rfl⟩, trivial⟩, rfl, trivial⟩, ⟨rfl, rfl⟩, trivial⟩ ⟨.inl rfl, rfl, ⟨⟨rfl, rfl⟩, rfl⟩, ⟨⟨rfl, rfl⟩, rfl⟩, rfl, trivial⟩)⟩
      ·skip
       refine And.intro ?_ (And.intro ?_ (trivial))
       ·skip
        refine And.intro ?_ trivial
        refine And.intro ?_ trivial
        refine And.intro hq1 ?_
        refine And.intro ?_ trivial
        exact ⟨(), he, (leads_ren [(10004000, 10003000), (10004001, 10003001), (10004002, 45)] rfl rfl ⟨⟨rfl, rfl, trivial⟩, ⟨⟨⟨rfl, rfl⟩, trivial⟩, rfl, trivial⟩, ⟨rfl, rfl⟩, trivial⟩ ⟨.inl rfl, rfl, ⟨⟨rfl, rfl⟩, rfl⟩, ⟨⟨rfl, rfl⟩, rfl⟩, rfl, trivial⟩)⟩
       ·skip
        refine And.intro ?_ trivial
        refine And.intro ?_ trivial
        refine And.intro hq1 ?_
        refine And.intro ?_ trivial
        exact ⟨(), he, (leads_ren [(10004000, 10003000), (10004001, 10003001), (10004002, 45)] rfl rfl ⟨⟨rfl, rfl, trivial⟩, ⟨⟨⟨rfl, rfl⟩, trivial⟩, rfl, trivial⟩, ⟨rfl, rfl⟩, trivial⟩ ⟨.inl rfl, rfl, ⟨⟨rfl, rfl⟩, rfl⟩, ⟨⟨rfl, rfl⟩, rfl⟩, rfl, trivial⟩)⟩
    ·refine go_rq he fun he => ?_
     have he := ok_some he
     exact ⟨(bound_1, (v + (1:Int)), c_02), he, (leads_ren [(10000000, 10003000), (10000001, 10003001), (10000002, 10003002)] rfl rfl ⟨⟨rfl, rfl, trivial⟩, ⟨⟨⟨rfl, rfl⟩, trivial⟩, rfl, trivial⟩, ⟨rfl, rfl⟩, trivial⟩ ⟨.inl rfl, rfl, ⟨⟨rfl, rfl⟩, rfl⟩, ⟨⟨rfl, rfl⟩, rfl⟩, rfl, trivial⟩)⟩
   ·skip
    refine go_rq he fun he => ?_
    refine go_if he (fun he => ?_) fun he => ?_
    ·refine And.intro (by kernel_rfl) ?_
     refine go_rq he fun he => ?_
     have he := ok_rq he
     have hq1 := he.1
     have he := he.2
     refine And.intro ?_ (And.intro ?_ (trivial))
     ·skip
      refine And.intro ?_ trivial
      refine And.intro ?_ trivial
      refine And.intro ?_ trivial
      refine And.intro hq1 ?_
      refine And.intro ?_ trivial
      exact ⟨(c_01 ++ [((net.getD v.toNat 0), v)]), he, (leads_ren [(10003000, 10000000), (10003001, 10000001), (10003002, 27)] rfl rfl ⟨⟨rfl, rfl, trivial⟩, ⟨⟨⟨rfl, rfl⟩, trivial⟩, rfl, trivial⟩, ⟨rfl, rfl⟩, trivial⟩ ⟨.inl rfl, rfl, ⟨⟨rfl, rfl⟩, rfl⟩, ⟨⟨rfl, rfl⟩, rfl⟩, rfl, trivial⟩)⟩
     ·skip
      refine And.intro ?_ (And.intro ?_ (trivial))
      ·skip
       refine And.intro ?_ trivial
       refine And.intro ?_ trivial
       refine And.intro hq1 ?_
       refine And.intro ?_ trivial
       exact ⟨(c_01 ++ [((net.getD v.toNat 0), v)]), he, (leads_ren [(10003000, 10000000), (10003001, 10000001), (10003002, 27)] rfl rfl ⟨⟨rfl, rfl, trivial⟩, ⟨⟨⟨rfl, rfl⟩, trivial⟩, rfl, trivial⟩, ⟨rfl, rfl⟩, trivial⟩ ⟨.inl rfl, rfl, ⟨⟨rfl, rfl⟩, rfl⟩, ⟨⟨rfl, rfl⟩, rfl⟩, rfl, trivial⟩)⟩
      ·skip
       refine And.intro ?_ trivial
       refine And.intro ?_ trivial
       refine And.intro hq1 ?_
       refine And.intro ?_ trivial
       exact ⟨(c_01 ++ [((net.getD v.toNat 0), v)]), he, (leads_ren [(10003000, 10000000), (10003001, 10000001), (10003002, 27)] rfl rfl ⟨⟨rfl, rfl, trivial⟩, ⟨⟨⟨rfl, rfl⟩, trivial⟩, rfl, trivial⟩, ⟨rfl, rfl⟩, trivial⟩ ⟨.inl rfl, rfl, ⟨⟨rfl, rfl⟩, rfl⟩, ⟨⟨rfl, rfl⟩, rfl⟩, rfl, trivial⟩)⟩
    ·exact ⟨c_01, he, (leads_ren [(10003000, 10000000), (10003001, 10000001), (10003002, 10000002)] rfl rfl ⟨⟨rfl, rfl, trivial⟩, ⟨⟨⟨rfl, rfl⟩, trivial⟩, rfl, trivial⟩, ⟨rfl, rfl⟩, trivial⟩ ⟨.inl rfl, rfl, ⟨⟨rfl, rfl⟩, rfl⟩, ⟨⟨rfl, rfl⟩, rfl⟩, rfl, trivial⟩)⟩
  ·exact ⟨(bound_1, c_01), ok_up he, (leads_ren [(10005000, 10000000), (10005001, 10000001), (10005002, 10000002)] rfl rfl ⟨⟨rfl, rfl, trivial⟩, ⟨⟨⟨rfl, rfl⟩, trivial⟩, rfl, trivial⟩, ⟨rfl, rfl⟩, trivial⟩ ⟨rfl, ⟨⟨rfl, rfl⟩, rfl⟩, ⟨⟨rfl, rfl⟩, rfl⟩, trivial⟩)⟩

noncomputable def c_spec_AddConstraints : Con := fun args st => match args, st with
  | [.agg [.imm (.pair (.int .i64) (.int .i64)) a_0, .int .i64 a_1], .agg [.imm (.pair (.int .i64) (.int .i64)) b_0, .int .i64 b_1]], [] => .opt (Bool × Int × (List D1_)) (spec_AddConstraints (a_0, a_1) (b_0, b_1)) (fun r => .ret (.tup [.agg [.own 901 false, .int .i64 r.2.1], .c (.bool r.1)]) [(900, .rc [.own 901 false, .int .i64 r.2.1]), (901, .sl 155 y1_ r.2.2 .shallow)])
  | _, _ => .fail

noncomputable def C_spec_AddConstraints : Cfg := { y := tys, n := 38, h := 0, tab := [(134, c_spec_l1Normal), (168, c_spec_ConstraintValid), (253, c_spec_l1Net)], cut := [1], hand := [], good := [], deep := [], sched := [(3, (.first 1 (.first 2 (.first 4 (.first 5 (.first 7 (.first 8 (.first 9 (.first 10 (.first 11 (.alt 0 (.alt 3 (.alt 6 (.alt 12 (.first 13 (.first 14 (.first 15 (.first 16 (.first 17 .done))))) .stop) .stop) .stop) .stop)))))))))))] }

theorem t_spec_AddConstraints : TabOk Tryz.prog C_spec_AddConstraints := by
  refine tabOk_of ?_
  simp only [C_spec_AddConstraints, List.forall_mem_cons]
  exact ⟨k_spec_l1Normal, k_spec_ConstraintValid, k_spec_l1Net, fun p h => by cases h⟩

theorem k_spec_AddConstraints : Entry Tryz.prog 211 c_spec_AddConstraints := by
 refine entry_by (C := C_spec_AddConstraints) mixed tys_ok t_spec_AddConstraints (fn := Tryz.f211) (c := bd Tryz.f211) (by kernel_rfl) (by kernel_rfl) (by kernel_rfl) (by kernel_rfl) ?_
 intro args st k he
 unfold c_spec_AddConstraints at he
 split at he
 rotate_left
 ·exact he.elim
 rename_i a_0 a_1 b_0 b_1
 have he : Ok (spec_AddConstraints (a_0, a_1) (b_0, b_1)) (fun r => k (.tup [.agg [.own 901 false, .int .i64 r.2.1], .c (.bool r.1)]) [(900, .rc [.own 901 false, .int .i64 r.2.1]), (901, .sl 155 y1_ r.2.2 .shallow)]) := he
 refine ⟨rfl, rfl, ?_⟩
 refine seq_model mixed tys_ok t_spec_AddConstraints (S := Unit) (I := (fun _ => (envOf [(2, .c (.iptr y2_ (a_0, a_1) 0)), (3, .c (.iptr y2_ (b_0, b_1) 0)), (4, .c (.ptr 10000000 0))], [(10000000, .rc [.nil, .int .i64 (0:Int)])]))) (B := fun s => Ok (spec_AddConstraints_j1 (a_0, a_1) (b_0, b_1) s) (fun r => k (.tup [.agg [.own 901 false, .int .i64 r.2.1], .c (.bool r.1)]) [(900, .rc [.own 901 false, .int .i64 r.2.1]), (901, .sl 155 y1_ r.2.2 .shallow)])) ?_ ?_
 ·rintro ⟨⟩ he
  refine go_bind he fun r1_ he => ?_
  refine go_if2 he (fun he => ?_) fun he => ?_
  ·refine go_bind he fun r2_ he => ?_
   refine go_if he (fun he => ?_) fun he => ?_
   ·have he := ok_some he
    exact ⟨rfl, _, _, (leads_ren [(900, 10000000)] (l := [(4, .c (.ptr 900 0)), (5, .c (.bool false))]) (st' := [(900, .rc [.own 901 false, .int .i64 (0:Int)]), (901, .sl 155 y1_ ([] : List D1_) .shallow)]) rfl rfl ⟨⟨⟨rfl, trivial⟩, rfl, trivial⟩, trivial, trivial⟩ ⟨⟨⟨rfl, rfl⟩, rfl⟩, .inr rfl, trivial⟩), he⟩
   ·refine And.intro (by kernel_rfl) ?_
    refine go_rq he fun he => ?_
    refine And.intro ?_ trivial
    refine And.intro ?_ trivial
    refine go_rq he fun he => ?_
    refine And.intro ?_ trivial
    refine go_rq he fun he => ?_
    refine And.intro ?_ trivial
    refine go_bind he fun r4_ he => ?_
    refine go_bind he fun r5_ he => ?_
    have he := ok_some he
    exact ⟨rfl, _, _, (leads_ren [(900, 10000000), (901, 36901)] (l := [(4, .c (.ptr 900 0)), (5, .c (.bool r5_.1))]) (st' := [(900, .rc [.own 901 false, .int .i64 r5_.2.1]), (901, .sl 155 y1_ r5_.2.2 .shallow)]) rfl rfl ⟨⟨⟨⟨rfl, rfl⟩, trivial⟩, rfl, trivial⟩, ⟨rfl, rfl⟩, trivial⟩ ⟨⟨⟨rfl, rfl⟩, rfl⟩, .inl rfl, trivial⟩), he⟩
  ·have he := ok_some he
   exact ⟨rfl, _, _, (leads_ren [(900, 10000000)] (l := [(4, .c (.ptr 900 0)), (5, .c (.bool false))]) (st' := [(900, .rc [.own 901 false, .int .i64 (0:Int)]), (901, .sl 155 y1_ ([] : List D1_) .shallow)]) rfl rfl ⟨⟨⟨rfl, trivial⟩, rfl, trivial⟩, trivial, trivial⟩ ⟨⟨⟨rfl, rfl⟩, rfl⟩, .inr rfl, trivial⟩), he⟩
 ·skip
  exact ⟨(), he, (leads_ren [(10000000, 4)] rfl rfl ⟨⟨rfl, rfl, trivial⟩, trivial⟩ ⟨.inr ⟨2, rfl, ⟨rfl, by repeat (first | exact trivial | refine And.intro trivial ?_)⟩, rfl⟩, .inr ⟨3, rfl, ⟨rfl, by repeat (first | exact trivial | refine And.intro trivial ?_)⟩, rfl⟩, ⟨⟨rfl, rfl⟩, rfl⟩, trivial⟩)⟩

noncomputable def c_spec_MultiplyConstraint : Con := fun args st => match args, st with
  | [.agg [.imm (.pair (.int .i64) (.int .i64)) c__0, .int .i64 c__1], .c (.int .i64 k_)], [] => .opt (Bool × Int × (List D1_)) (spec_MultiplyConstraint (c__0, c__1) k_) (fun r => .ret (.tup [.agg [.own 901 false, .int .i64 r.2.1], .c (.bool r.1)]) [(900, .rc [.own 901 false, .int .i64 r.2.1]), (901, .sl 155 y1_ r.2.2 .shallow)])
  | _, _ => .fail

noncomputable def C_spec_MultiplyConstraint : Cfg := { y := tys, n := 57, h := 0, tab := [(168, c_spec_ConstraintValid)], cut := [8], hand := [], good := [], deep := [], sched := [(7, (.first 0 (.first 2 (.first 4 (.first 8 (.first 10 (.first 12 (.alt 1 (.alt 3 (.first 5 (.first 6 (.first 7 (.first 9 (.alt 11 (.first 13 (.first 14 (.first 15 (.alt 16 (.alt 17 (.alt 18 (.first 19 (.alt 20 .done .stop)) .stop) .stop) .stop)))) .stop))))) (.alt 11 (.first 13 (.first 14 (.first 15 (.alt 3 (.first 5 (.first 6 (.first 7 (.first 9 (.alt 16 (.alt 17 (.alt 18 (.first 19 (.alt 20 .done .stop)) .stop) .stop) .stop))))) .stop)))) .stop)) (.alt 3 (.first 5 (.first 6 (.first 7 (.first 9 (.alt 1 (.alt 11 (.first 13 (.first 14 (.first 15 (.alt 16 (.alt 17 (.alt 18 (.first 19 (.alt 20 .done .stop)) .stop) .stop) .stop)))) .stop) (.alt 11 (.first 13 (.first 14 (.first 15 (.alt 1 (.alt 16 (.alt 17 (.alt 18 (.first 19 (.alt 20 .done .stop)) .stop) .stop) .stop) (.alt 16 (.alt 1 (.alt 17 (.alt 18 (.first 19 (.alt 20 .done .stop)) .stop) .stop) (.alt 17 (.alt 1 (.alt 18 (.first 19 (.alt 20 .done .stop)) .stop) .stop) .stop)) .stop))))) .stop)))))) (.alt 11 (.first 13 (.first 14 (.first 15 (.alt 1 (.alt 3 (.first 5 (.first 6 (.first 7 (.first 9 (.alt 16 (.alt 17 (.alt 18 (.first 19 (.alt 20 .done .stop)) .stop) .stop) .stop))))) .stop) (.alt 3 (.first 5 (.first 6 (.first 7 (.first 9 (.alt 1 (.alt 16 (.alt 17 (.alt 18 (.first 19 (.alt 20 .done .stop)) .stop) .stop) .stop) (.alt 16 (.alt 1 (.alt 17 (.alt 18 (.first 19 (.alt 20 .done .stop)) .stop) .stop) (.alt 17 (.alt 1 (.alt 18 (.first 19 (.alt 20 .done .stop)) .stop) .stop) .stop)) .stop)))))) .stop))))) .stop))))))))))] }

theorem t_spec_MultiplyConstraint : TabOk Tryz.prog C_spec_MultiplyConstraint := by
  refine tabOk_of ?_
  simp only [C_spec_MultiplyConstraint, List.forall_mem_cons]
  exact ⟨k_spec_ConstraintValid, fun p h => by cases h⟩

theorem k_spec_MultiplyConstraint : Entry Tryz.prog 212 c_spec_MultiplyConstraint := by
 refine entry_by (C := C_spec_MultiplyConstraint) mixed tys_ok t_spec_MultiplyConstraint (fn := Tryz.f212) (c := bd Tryz.f212) (by kernel_rfl) (by kernel_rfl) (by kernel_rfl) (by kernel_rfl) ?_
 intro args st k he
 unfold c_spec_MultiplyConstraint at he
 split at he
 rotate_left
 ·exact he.elim
 rename_i c__0 c__1 k_
 have he : Ok (spec_MultiplyConstraint (c__0, c__1) k_) (fun r => k (.tup [.agg [.own 901 false, .int .i64 r.2.1], .c (.bool r.1)]) [(900, .rc [.own 901 false, .int .i64 r.2.1]), (901, .sl 155 y1_ r.2.2 .shallow)]) := he
 refine ⟨rfl, rfl, ?_⟩
 refine go_bind he fun r1_ he => ?_
 refine go_if2 he (fun he => ?_) fun he => ?_
 ·refine go_if2 he (fun he => ?_) fun he => ?_
  ·refine go_if he (fun he => ?_) fun he => ?_
   ·have he := ok_some he
    exact ⟨rfl, _, _, (leads_ren [(900, 4)] (l := [(4, .c (.ptr 900 0)), (5, .c (.bool false))]) (st' := [(900, .rc [.own 901 false, .int .i64 (0:Int)]), (901, .sl 155 y1_ ([] : List D1_) .shallow)]) rfl rfl ⟨⟨⟨rfl, trivial⟩, rfl, trivial⟩, trivial, trivial⟩ ⟨⟨⟨rfl, rfl⟩, rfl⟩, .inr rfl, trivial⟩), he⟩
   ·refine go_rq he fun he => ?_
    refine seq_model mixed tys_ok t_spec_MultiplyConstraint (S := (List D1_)) (I := (fun out_01 => (envOf [(4, .c (.ptr 10001000 0)), (6, .c (.ptr 10001001 0))], [(10001000, .rc [.nil, .int .i64 (0:Int)]), (10001001, .rc [.own 10001002 false, .int .i64 ((c__0, c__1).2 * k_)]), (10001002, .sl 155 y1_ out_01 .shallow)]))) (B := fun s => Ok (spec_MultiplyConstraint_j1 (c__0, c__1) k_ s) (fun r => k (.tup [.agg [.own 901 false, .int .i64 r.2.1], .c (.bool r.1)]) [(900, .rc [.own 901 false, .int .i64 r.2.1]), (901, .sl 155 y1_ r.2.2 .shallow)])) ?_ ?_
    ·rintro out_01 he
     refine go_bind he fun r2_ he => ?_
     refine go_if he (fun he => ?_) fun he => ?_
     ·have he := ok_some he
      exact ⟨rfl, _, _, (leads_ren [(900, 10001000)] (l := [(4, .c (.ptr 900 0)), (5, .c (.bool false))]) (st' := [(900, .rc [.own 901 false, .int .i64 (0:Int)]), (901, .sl 155 y1_ ([] : List D1_) .shallow)]) rfl rfl ⟨⟨⟨rfl, trivial⟩, rfl, trivial⟩, trivial, trivial⟩ ⟨⟨⟨rfl, rfl⟩, rfl⟩, .inr rfl, trivial⟩), he⟩
     ·have he := ok_some he
      exact ⟨rfl, _, _, (leads_ren [(900, 10001000), (901, 10001002)] (l := [(4, .c (.ptr 900 0)), (5, .c (.bool true))]) (st' := [(900, .rc [.own 901 false, .int .i64 ((c__0, c__1).2 * k_)]), (901, .sl 155 y1_ out_01 .shallow)]) rfl rfl ⟨⟨⟨⟨rfl, rfl⟩, trivial⟩, rfl, trivial⟩, ⟨rfl, rfl⟩, trivial⟩ ⟨⟨⟨rfl, rfl⟩, rfl⟩, .inr rfl, trivial⟩), he⟩
    ·skip
     refine loop_model mixed tys_ok t_spec_MultiplyConstraint (S := Int × (List D1_)) (I := (fun (i, out_0) => (envOf [(1, .c (.int .i64 k_)), (2, .c (.ptr 10000000 0)), (4, .c (.ptr 10000001 0)), (6, .c (.ptr 10000002 0)), (7, .c (.int .i64 i))], [(10000000, .rc [.imm y1_ (c__0, c__1).1, .int .i64 (c__0, c__1).2]), (10000001, .rc [.nil, .int .i64 (0:Int)]), (10000002, .rc [.own 10000003 false, .int .i64 ((c__0, c__1).2 * k_)]), (10000003, .sl 155 y1_ out_0 .shallow)]))) (f := spec_MultiplyConstraint_l1 (c__0, c__1) k_) (K := (fun r => k (.tup [.agg [.own 901 false, .int .i64 r.2.1], .c (.bool r.1)]) [(900, .rc [.own 901 false, .int .i64 r.2.1]), (901, .sl 155 y1_ r.2.2 .shallow)])) he (leads_ren [(10000000, 2), (10000001, 4), (10000002, 6)] rfl rfl ⟨⟨.inl rfl, rfl, trivial⟩, ⟨rfl, rfl, trivial⟩, ⟨⟨rfl, trivial⟩, rfl, trivial⟩, trivial, trivial⟩ ⟨rfl, ⟨⟨rfl, rfl⟩, rfl⟩, ⟨⟨rfl, rfl⟩, rfl⟩, ⟨⟨rfl, rfl⟩, rfl⟩, rfl, trivial⟩) ?_
     rintro ⟨i, out_0⟩ J1 he
     refine go_if he (fun he => ?_) fun he => ?_
     ·refine And.intro (by kernel_rfl) ?_
      have he := ok_rq he
      have hq1 := he.1
      have he := he.2
      have he := ok_rq he
      have hq2 := he.1
      have he := he.2
      have he := ok_rq he
      have hq3 := he.1
      have he := he.2
      have he := ok_rq he
      have hq4 := he.1
      have he := he.2
      refine And.intro ?_ (And.intro ?_ (And.intro ?_ (trivial)))
      ·skip
       refine And.intro ?_ (And.intro ?_ (trivial))
       ·skip
        refine And.intro hq1 ?_
        refine And.intro hq2 ?_
        refine And.intro ?_ trivial
        refine And.intro hq1 ?_
        refine And.intro ?_ trivial
        refine And.intro ?_ trivial
        refine And.intro ?_ trivial
        refine And.intro hq4 ?_
        refine And.intro ?_ trivial
        refine go_rq he fun he => ?_
        have he := ok_some he
        exact ⟨((i + (1:Int)), (out_0 ++ [((((c__0, c__1).1.getD i.toNat (0, 0)).1 * k_), ((c__0, c__1).1.getD i.toNat (0, 0)).2)])), he, (leads_ren [(10000003, 50)] rfl rfl ⟨⟨.inl rfl, rfl, trivial⟩, ⟨rfl, rfl, trivial⟩, ⟨⟨⟨rfl, rfl⟩, trivial⟩, rfl, trivial⟩, ⟨rfl, rfl⟩, trivial⟩ ⟨rfl, ⟨⟨rfl, rfl⟩, rfl⟩, ⟨⟨rfl, rfl⟩, rfl⟩, ⟨⟨rfl, rfl⟩, rfl⟩, rfl, trivial⟩)⟩
       ·skip
        refine And.intro hq1 ?_
        refine And.intro ?_ trivial
        refine And.intro hq1 ?_
        refine And.intro hq2 ?_
        refine And.intro ?_ trivial
        refine And.intro ?_ trivial
        refine And.intro ?_ trivial
        refine And.intro hq4 ?_
        refine And.intro ?_ trivial
        refine go_rq he fun he => ?_
        have he := ok_some he
        exact ⟨((i + (1:Int)), (out_0 ++ [((((c__0, c__1).1.getD i.toNat (0, 0)).1 * k_), ((c__0, c__1).1.getD i.toNat (0, 0)).2)])), he, (leads_ren [(10000003, 50)] rfl rfl ⟨⟨.inl rfl, rfl, trivial⟩, ⟨rfl, rfl, trivial⟩, ⟨⟨⟨rfl, rfl⟩, trivial⟩, rfl, trivial⟩, ⟨rfl, rfl⟩, trivial⟩ ⟨rfl, ⟨⟨rfl, rfl⟩, rfl⟩, ⟨⟨rfl, rfl⟩, rfl⟩, ⟨⟨rfl, rfl⟩, rfl⟩, rfl, trivial⟩)⟩
      ·skip
       refine And.intro hq1 ?_
       refine And.intro hq2 ?_
       refine And.intro ?_ (And.intro ?_ (trivial))
       ·skip
        refine And.intro ?_ trivial
        refine And.intro hq1 ?_
        refine And.intro ?_ trivial
        refine And.intro ?_ trivial
        refine And.intro ?_ trivial
        refine And.intro hq4 ?_
        refine And.intro ?_ trivial
        refine go_rq he fun he => ?_
        have he := ok_some he
        exact ⟨((i + (1:Int)), (out_0 ++ [((((c__0, c__1).1.getD i.toNat (0, 0)).1 * k_), ((c__0, c__1).1.getD i.toNat (0, 0)).2)])), he, (leads_ren [(10000003, 50)] rfl rfl ⟨⟨.inl rfl, rfl, trivial⟩, ⟨rfl, rfl, trivial⟩, ⟨⟨⟨rfl, rfl⟩, trivial⟩, rfl, trivial⟩, ⟨rfl, rfl⟩, trivial⟩ ⟨rfl, ⟨⟨rfl, rfl⟩, rfl⟩, ⟨⟨rfl, rfl⟩, rfl⟩, ⟨⟨rfl, rfl⟩, rfl⟩, rfl, trivial⟩)⟩
       ·skip
        refine And.intro hq1 ?_
        refine And.intro ?_ (And.intro ?_ (trivial))
        ·skip
         refine And.intro ?_ trivial
         refine And.intro ?_ trivial
         refine And.intro ?_ trivial
         refine And.intro hq4 ?_
         refine And.intro ?_ trivial
         refine go_rq he fun he => ?_
         have he := ok_some he
         exact ⟨((i + (1:Int)), (out_0 ++ [((((c__0, c__1).1.getD i.toNat (0, 0)).1 * k_), ((c__0, c__1).1.getD i.toNat (0, 0)).2)])), he, (leads_ren [(10000003, 50)] rfl rfl ⟨⟨.inl rfl, rfl, trivial⟩, ⟨rfl, rfl, trivial⟩, ⟨⟨⟨rfl, rfl⟩, trivial⟩, rfl, trivial⟩, ⟨rfl, rfl⟩, trivial⟩ ⟨rfl, ⟨⟨rfl, rfl⟩, rfl⟩, ⟨⟨rfl, rfl⟩, rfl⟩, ⟨⟨rfl, rfl⟩, rfl⟩, rfl, trivial⟩)⟩
        ·skip
         refine And.intro ?_ (And.intro ?_ (trivial))
         ·skip
          refine And.intro ?_ trivial
          refine And.intro ?_ trivial
          refine And.intro hq4 ?_
          refine And.intro ?_ trivial
          refine go_rq he fun he => ?_
          have he := ok_some he
          exact ⟨((i + (1:Int)), (out_0 ++ [((((c__0, c__1).1.getD i.toNat (0, 0)).1 * k_), ((c__0, c__1).1.getD i.toNat (0, 0)).2)])), he, (leads_ren [(10000003, 50)] rfl rfl ⟨⟨.inl rfl, rfl, trivial⟩, ⟨rfl, rfl, trivial⟩, ⟨⟨⟨rfl, rfl⟩, trivial⟩, rfl, trivial⟩, ⟨rfl, rfl⟩, trivial⟩ ⟨rfl, ⟨⟨rfl, rfl⟩, rfl⟩, ⟨⟨rfl, rfl⟩, rfl⟩, ⟨⟨rfl, rfl⟩, rfl⟩, rfl, trivial⟩)⟩
         ·skip
          refine And.intro ?_ trivial
          refine And.intro ?_ trivial
          refine And.intro hq4 ?_
          refine And.intro ?_ trivial
          refine go_rq he fun he => ?_
          have he := ok_some he
          exact ⟨((i + (1:Int)), (out_0 ++ [((((c__0, c__1).1.getD i.toNat (0, 0)).1 * k_), ((c__0, c__1).1.getD i.toNat (0, 0)).2)])), he, (leads_ren [(10000003, 50)] rfl rfl ⟨⟨.inl rfl, rfl, trivial⟩, ⟨rfl, rfl, trivial⟩, ⟨⟨⟨rfl, rfl⟩, trivial⟩, rfl, trivial⟩, ⟨rfl, rfl⟩, trivial⟩ ⟨rfl, ⟨⟨rfl, rfl⟩, rfl⟩, ⟨⟨rfl, rfl⟩, rfl⟩, ⟨⟨rfl, rfl⟩, rfl⟩, rfl, trivial⟩)⟩
      ·skip
       refine And.intro hq1 ?_
       refine And.intro ?_ (And.intro ?_ (trivial))
       ·skip
        refine And.intro ?_ trivial
        refine And.intro hq1 ?_
        refine And.intro hq2 ?_
        refine And.intro ?_ trivial
        refine And.intro ?_ trivial
        refine And.intro ?_ trivial
        refine And.intro hq4 ?_
        refine And.intro ?_ trivial
        refine go_rq he fun he => ?_
        have he := ok_some he
        exact ⟨((i + (1:Int)), (out_0 ++ [((((c__0, c__1).1.getD i.toNat (0, 0)).1 * k_), ((c__0, c__1).1.getD i.toNat (0, 0)).2)])), he, (leads_ren [(10000003, 50)] rfl rfl ⟨⟨.inl rfl, rfl, trivial⟩, ⟨rfl, rfl, trivial⟩, ⟨⟨⟨rfl, rfl⟩, trivial⟩, rfl, trivial⟩, ⟨rfl, rfl⟩, trivial⟩ ⟨rfl, ⟨⟨rfl, rfl⟩, rfl⟩, ⟨⟨rfl, rfl⟩, rfl⟩, ⟨⟨rfl, rfl⟩, rfl⟩, rfl, trivial⟩)⟩
       ·skip
        refine And.intro hq1 ?_
        refine And.intro hq2 ?_
        refine And.intro ?_ (And.intro ?_ (trivial))
        ·skip
         refine And.intro ?_ trivial
         refine And.intro ?_ trivial
         refine And.intro ?_ trivial
         refine And.intro hq4 ?_
         refine And.intro ?_ trivial
         refine go_rq he fun he => ?_
         have he := ok_some he
         exact ⟨((i + (1:Int)), (out_0 ++ [((((c__0, c__1).1.getD i.toNat (0, 0)).1 * k_), ((c__0, c__1).1.getD i.toNat (0, 0)).2)])), he, (leads_ren [(10000003, 50)] rfl rfl ⟨⟨.inl rfl, rfl, trivial⟩, ⟨rfl, rfl, trivial⟩, ⟨⟨⟨rfl, rfl⟩, trivial⟩, rfl, trivial⟩, ⟨rfl, rfl⟩, trivial⟩ ⟨rfl, ⟨⟨rfl, rfl⟩, rfl⟩, ⟨⟨rfl, rfl⟩, rfl⟩, ⟨⟨rfl, rfl⟩, rfl⟩, rfl, trivial⟩)⟩
        ·skip
         refine And.intro ?_ (And.intro ?_ (trivial))
         ·skip
          refine And.intro ?_ trivial
          refine And.intro ?_ trivial
          refine And.intro hq4 ?_
          refine And.intro ?_ trivial
          refine go_rq he fun he => ?_
          have he := ok_some he
          exact ⟨((i + (1:Int)), (out_0 ++ [((((c__0, c__1).1.getD i.toNat (0, 0)).1 * k_), ((c__0, c__1).1.getD i.toNat (0, 0)).2)])), he, (leads_ren [(10000003, 50)] rfl rfl ⟨⟨.inl rfl, rfl, trivial⟩, ⟨rfl, rfl, trivial⟩, ⟨⟨⟨rfl, rfl⟩, trivial⟩, rfl, trivial⟩, ⟨rfl, rfl⟩, trivial⟩ ⟨rfl, ⟨⟨rfl, rfl⟩, rfl⟩, ⟨⟨rfl, rfl⟩, rfl⟩, ⟨⟨rfl, rfl⟩, rfl⟩, rfl, trivial⟩)⟩
         ·skip
          refine And.intro ?_ trivial
          refine And.intro ?_ trivial
          refine And.intro hq4 ?_
          refine And.intro ?_ trivial
          refine go_rq he fun he => ?_
          have he := ok_some he
          exact ⟨((i + (1:Int)), (out_0 ++ [((((c__0, c__1).1.getD i.toNat (0, 0)).1 * k_), ((c__0, c__1).1.getD i.toNat (0, 0)).2)])), he, (leads_ren [(10000003, 50)] rfl rfl ⟨⟨.inl rfl, rfl, trivial⟩, ⟨rfl, rfl, trivial⟩, ⟨⟨⟨rfl, rfl⟩, trivial⟩, rfl, trivial⟩, ⟨rfl, rfl⟩, trivial⟩ ⟨rfl, ⟨⟨rfl, rfl⟩, rfl⟩, ⟨⟨rfl, rfl⟩, rfl⟩, ⟨⟨rfl, rfl⟩, rfl⟩, rfl, trivial⟩)⟩
     ·exact ⟨out_0, ok_up he, (leads_ren [(10001000, 10000001), (10001001, 10000002), (10001002, 10000003)] rfl rfl ⟨⟨rfl, rfl, trivial⟩, ⟨⟨⟨rfl, rfl⟩, trivial⟩, rfl, trivial⟩, ⟨rfl, rfl⟩, trivial⟩ ⟨⟨⟨rfl, rfl⟩, rfl⟩, ⟨⟨rfl, rfl⟩, rfl⟩, trivial⟩)⟩
  ·have he := ok_some he
   exact ⟨rfl, _, _, (leads_ren [(900, 4)] (l := [(4, .c (.ptr 900 0)), (5, .c (.bool false))]) (st' := [(900, .rc [.own 901 false, .int .i64 (0:Int)]), (901, .sl 155 y1_ ([] : List D1_) .shallow)]) rfl rfl ⟨⟨⟨rfl, trivial⟩, rfl, trivial⟩, trivial, trivial⟩ ⟨⟨⟨rfl, rfl⟩, rfl⟩, .inr rfl, trivial⟩), he⟩
 ·have he := ok_some he
  exact ⟨rfl, _, _, (leads_ren [(900, 4)] (l := [(4, .c (.ptr 900 0)), (5, .c (.bool false))]) (st' := [(900, .rc [.own 901 false, .int .i64 (0:Int)]), (901, .sl 155 y1_ ([] : List D1_) .shallow)]) rfl rfl ⟨⟨⟨rfl, trivial⟩, rfl, trivial⟩, trivial, trivial⟩ ⟨⟨⟨rfl, rfl⟩, rfl⟩, .inr rfl, trivial⟩), he⟩

noncomputable def c_spec_l2Up : Con := fun args st => match args, st with
  | [.c (.int .i64 n), .c (.int .i64 k_)], [] => .opt (Int) (spec_l2Up n k_) (fun r => .ret (.c (.int .i64 r)) [])
  | _, _ => .fail

noncomputable def C_spec_l2Up : Cfg := { y := tys, n := 11, h := 0, tab := [], cut := [], hand := [], good := [], deep := [], sched := [] }

theorem t_spec_l2Up : TabOk Tryz.prog C_spec_l2Up := tabOk_of (fun p h => by cases h)

theorem k_spec_l2Up : Entry Tryz.prog 254 c_spec_l2Up := by
 refine entry_by (C := C_spec_l2Up) mixed tys_ok t_spec_l2Up (fn := Tryz.f254) (c := bd Tryz.f254) (by kernel_rfl) (by kernel_rfl) (by kernel_rfl) (by kernel_rfl) ?_
 intro args st k he
 unfold c_spec_l2Up at he
 split at he
 rotate_left
 ·exact he.elim
 rename_i n k_
 have he : Ok (spec_l2Up n k_) (fun r => k (.c (.int .i64 r)) []) := he
 refine ⟨rfl, rfl, ?_⟩
 refine go_rq he fun he => ?_
 refine go_rq he fun he => ?_
 refine go_rq he fun he => ?_
 have he := ok_some he
 exact ⟨rfl, _, _, Leads.refl _ _, he⟩

noncomputable def c_spec_DivideConstraint : Con := fun args st => match args, st with
  | [.agg [.imm (.pair (.int .i64) (.int .i64)) c__0, .int .i64 c__1], .c (.int .i64 k_)], [] => .opt (Bool × Int × (List D1_)) (spec_DivideConstraint (c__0, c__1) k_) (fun r => .ret (.tup [.agg [.own 901 false, .int .i64 r.2.1], .c (.bool r.1)]) [(900, .rc [.own 901 false, .int .i64 r.2.1]), (901, .sl 155 y1_ r.2.2 .shallow)])
  | _, _ => .fail

noncomputable def C_spec_DivideConstraint : Cfg := { y := tys, n := 53, h := 0, tab := [(168, c_spec_ConstraintValid), (254, c_spec_l2Up)], cut := [1], hand := [], good := [], deep := [], sched := [(7, (.first 0 (.first 2 (.first 3 (.first 4 (.first 5 (.first 6 (.first 7 (.first 8 (.first 10 (.first 11 (.first 12 (.first 13 (.first 14 (.first 15 (.alt 1 (.alt 9 (.alt 16 (.alt 17 (.alt 18 (.first 19 (.alt 20 .done .stop)) .stop) .stop) .stop) .stop) (.alt 9 (.alt 1 (.alt 16 (.alt 17 (.alt 18 (.first 19 (.alt 20 .done .stop)) .stop) .stop) .stop) (.alt 16 (.alt 1 (.alt 17 (.alt 18 (.first 19 (.alt 20 .done .stop)) .stop) .stop) (.alt 17 (.alt 1 (.alt 18 (.first 19 (.alt 20 .done .stop)) .stop) .stop) .stop)) .stop)) .stop)))))))))))))))))] }

theorem t_spec_DivideConstraint : TabOk Tryz.prog C_spec_DivideConstraint := by
  refine tabOk_of ?_
  simp only [C_spec_DivideConstraint, List.forall_mem_cons]
  exact ⟨k_spec_ConstraintValid, k_spec_l2Up, fun p h => by cases h⟩

theorem k_spec_DivideConstraint : Entry Tryz.prog 213 c_spec_DivideConstraint := by
 refine entry_by (C := C_spec_DivideConstraint) mixed tys_ok t_spec_DivideConstraint (fn := Tryz.f213) (c := bd Tryz.f213) (by kernel_rfl) (by kernel_rfl) (by kernel_rfl) (by kernel_rfl) ?_
 intro args st k he
 unfold c_spec_DivideConstraint at he
 split at he
 rotate_left
 ·exact he.elim
 rename_i c__0 c__1 k_
 have he : Ok (spec_DivideConstraint (c__0, c__1) k_) (fun r => k (.tup [.agg [.own 901 false, .int .i64 r.2.1], .c (.bool r.1)]) [(900, .rc [.own 901 false, .int .i64 r.2.1]), (901, .sl 155 y1_ r.2.2 .shallow)]) := he
 refine ⟨rfl, rfl, ?_⟩
 refine seq_model mixed tys_ok t_spec_DivideConstraint (S := Unit) (I := (fun _ => (envOf [(1, .c (.int .i64 k_)), (2, .c (.iptr y2_ (c__0, c__1) 0)), (4, .c (.ptr 10000000 0))], [(10000000, .rc [.nil, .int .i64 (0:Int)])]))) (B := fun s => Ok (spec_DivideConstraint_j1 (c__0, c__1) k_ s) (fun r => k (.tup [.agg [.own 901 false, .int .i64 r.2.1], .c (.bool r.1)]) [(900, .rc [.own 901 false, .int .i64 r.2.1]), (901, .sl 155 y1_ r.2.2 .shallow)])) ?_ ?_
 ·rintro ⟨⟩ he
  refine go_bind he fun r1_ he => ?_
  refine go_if2 he (fun he => ?_) fun he => ?_
  ·refine go_if2 he (fun he => ?_) fun he => ?_
   ·refine go_if he (fun he => ?_) fun he => ?_
    ·have he := ok_some he
     exact ⟨rfl, _, _, (leads_ren [(900, 10000000)] (l := [(4, .c (.ptr 900 0)), (5, .c (.bool false))]) (st' := [(900, .rc [.own 901 false, .int .i64 (0:Int)]), (901, .sl 155 y1_ ([] : List D1_) .shallow)]) rfl rfl ⟨⟨⟨rfl, trivial⟩, rfl, trivial⟩, trivial, trivial⟩ ⟨⟨⟨rfl, rfl⟩, rfl⟩, .inr rfl, trivial⟩), he⟩
    ·refine go_bind he fun r2_ he => ?_
     refine loop_model mixed tys_ok t_spec_DivideConstraint (S := Int × (List D1_)) (I := (fun (i, out_0) => (envOf [(1, .c (.int .i64 k_)), (2, .c (.iptr y2_ (c__0, c__1) 0)), (4, .c (.ptr 10001000 0)), (6, .c (.ptr 10001001 0)), (7, .c (.int .i64 i))], [(10001000, .rc [.nil, .int .i64 (0:Int)]), (10001001, .rc [.own 10001002 false, .int .i64 r2_]), (10001002, .sl 155 y1_ out_0 .shallow)]))) (f := spec_DivideConstraint_l1 (c__0, c__1) k_ r2_) (K := (fun r => k (.tup [.agg [.own 901 false, .int .i64 r.2.1], .c (.bool r.1)]) [(900, .rc [.own 901 false, .int .i64 r.2.1]), (901, .sl 155 y1_ r.2.2 .shallow)])) he (leads_ren [(10001000, 10000000), (10001001, 6)] rfl rfl ⟨⟨rfl, rfl, trivial⟩, ⟨⟨rfl, trivial⟩, rfl, trivial⟩, trivial, trivial⟩ ⟨rfl, .inl rfl, ⟨⟨rfl, rfl⟩, rfl⟩, ⟨⟨rfl, rfl⟩, rfl⟩, rfl, trivial⟩) ?_
     rintro ⟨i, out_0⟩ J1 he
     refine go_if he (fun he => ?_) fun he => ?_
     ·refine And.intro (by kernel_rfl) ?_
      refine go_rq he fun he => ?_
      refine go_rq he fun he => ?_
      obtain ⟨r5_, hq1, he⟩ := ok_bind he
      have he := ok_rq he
      have hq2 := he.1
      have he := he.2
      refine And.intro ?_ (And.intro ?_ (trivial))
      ·skip
       refine And.intro ?_ trivial
       refine ⟨r5_, hq1, ?_⟩
       refine And.intro ?_ trivial
       refine And.intro ?_ trivial
       refine And.intro ?_ trivial
       refine And.intro hq2 ?_
       refine And.intro ?_ trivial
       refine go_rq he fun he => ?_
       have he := ok_some he
       exact ⟨((i + (1:Int)), (out_0 ++ [(r5_, ((c__0, c__1).1.getD i.toNat (0, 0)).2)])), he, (leads_ren [(10001002, 50)] rfl rfl ⟨⟨rfl, rfl, trivial⟩, ⟨⟨⟨rfl, rfl⟩, trivial⟩, rfl, trivial⟩, ⟨rfl, rfl⟩, trivial⟩ ⟨rfl, .inl rfl, ⟨⟨rfl, rfl⟩, rfl⟩, ⟨⟨rfl, rfl⟩, rfl⟩, rfl, trivial⟩)⟩
      ·skip
       refine ⟨r5_, hq1, ?_⟩
       refine And.intro ?_ (And.intro ?_ (trivial))
       ·skip
        refine And.intro ?_ trivial
        refine And.intro ?_ trivial
        refine And.intro ?_ trivial
        refine And.intro hq2 ?_
        refine And.intro ?_ trivial
        refine go_rq he fun he => ?_
        have he := ok_some he
        exact ⟨((i + (1:Int)), (out_0 ++ [(r5_, ((c__0, c__1).1.getD i.toNat (0, 0)).2)])), he, (leads_ren [(10001002, 50)] rfl rfl ⟨⟨rfl, rfl, trivial⟩, ⟨⟨⟨rfl, rfl⟩, trivial⟩, rfl, trivial⟩, ⟨rfl, rfl⟩, trivial⟩ ⟨rfl, .inl rfl, ⟨⟨rfl, rfl⟩, rfl⟩, ⟨⟨rfl, rfl⟩, rfl⟩, rfl, trivial⟩)⟩
       ·skip
        refine And.intro ?_ (And.intro ?_ (trivial))
        ·skip
         refine And.intro ?_ trivial
         refine And.intro ?_ trivial
         refine And.intro hq2 ?_
         refine And.intro ?_ trivial
         refine go_rq he fun he => ?_
         have he := ok_some he
         exact ⟨((i + (1:Int)), (out_0 ++ [(r5_, ((c__0, c__1).1.getD i.toNat (0, 0)).2)])), he, (leads_ren [(10001002, 50)] rfl rfl ⟨⟨rfl, rfl, trivial⟩, ⟨⟨⟨rfl, rfl⟩, trivial⟩, rfl, trivial⟩, ⟨rfl, rfl⟩, trivial⟩ ⟨rfl, .inl rfl, ⟨⟨rfl, rfl⟩, rfl⟩, ⟨⟨rfl, rfl⟩, rfl⟩, rfl, trivial⟩)⟩
        ·skip
         refine And.intro ?_ trivial
         refine And.intro ?_ trivial
         refine And.intro hq2 ?_
         refine And.intro ?_ trivial
         refine go_rq he fun he => ?_
         have he := ok_some he
         exact ⟨((i + (1:Int)), (out_0 ++ [(r5_, ((c__0, c__1).1.getD i.toNat (0, 0)).2)])), he, (leads_ren [(10001002, 50)] rfl rfl ⟨⟨rfl, rfl, trivial⟩, ⟨⟨⟨rfl, rfl⟩, trivial⟩, rfl, trivial⟩, ⟨rfl, rfl⟩, trivial⟩ ⟨rfl, .inl rfl, ⟨⟨rfl, rfl⟩, rfl⟩, ⟨⟨rfl, rfl⟩, rfl⟩, rfl, trivial⟩)⟩
     ·have he := ok_some he
      exact ⟨rfl, _, _, (leads_ren [(900, 10001000), (901, 10001002)] (l := [(4, .c (.ptr 900 0)), (5, .c (.bool true))]) (st' := [(900, .rc [.own 901 false, .int .i64 r2_]), (901, .sl 155 y1_ out_0 .shallow)]) rfl rfl ⟨⟨⟨⟨rfl, rfl⟩, trivial⟩, rfl, trivial⟩, ⟨rfl, rfl⟩, trivial⟩ ⟨⟨⟨rfl, rfl⟩, rfl⟩, .inr rfl, trivial⟩), he⟩
   ·have he := ok_some he
    exact ⟨rfl, _, _, (leads_ren [(900, 10000000)] (l := [(4, .c (.ptr 900 0)), (5, .c (.bool false))]) (st' := [(900, .rc [.own 901 false, .int .i64 (0:Int)]), (901, .sl 155 y1_ ([] : List D1_) .shallow)]) rfl rfl ⟨⟨⟨rfl, trivial⟩, rfl, trivial⟩, trivial, trivial⟩ ⟨⟨⟨rfl, rfl⟩, rfl⟩, .inr rfl, trivial⟩), he⟩
  ·have he := ok_some he
   exact ⟨rfl, _, _, (leads_ren [(900, 10000000)] (l := [(4, .c (.ptr 900 0)), (5, .c (.bool false))]) (st' := [(900, .rc [.own 901 false, .int .i64 (0:Int)]), (901, .sl 155 y1_ ([] : List D1_) .shallow)]) rfl rfl ⟨⟨⟨rfl, trivial⟩, rfl, trivial⟩, trivial, trivial⟩ ⟨⟨⟨rfl, rfl⟩, rfl⟩, .inr rfl, trivial⟩), he⟩
 ·skip
  exact ⟨(), he, (leads_ren [(10000000, 4)] rfl rfl ⟨⟨rfl, rfl, trivial⟩, trivial⟩ ⟨rfl, .inr ⟨2, rfl, ⟨rfl, by repeat (first | exact trivial | refine And.intro trivial ?_)⟩, rfl⟩, ⟨⟨rfl, rfl⟩, rfl⟩, trivial⟩)⟩

noncomputable def c_spec_l2Saturate : Con := fun args st => match args, st with
  | [.agg [.imm (.pair (.int .i64) (.int .i64)) c__0, .int .i64 c__1]], [] => .opt (Int × (List D1_)) (spec_l2Saturate (c__0, c__1)) (fun r => .ret (.agg [.own 901 false, .int .i64 r.1]) [(900, .rc [.own 901 false, .int .i64 r.1]), (901, .sl 155 y1_ r.2 .shallow)])
  | _, _ => .fail

noncomputable def C_spec_l2Saturate : Cfg := { y := tys, n := 41, h := 0, tab := [], cut := [8], hand := [], good := [], deep := [], sched := [] }

theorem t_spec_l2Saturate : TabOk Tryz.prog C_spec_l2Saturate := tabOk_of (fun p h => by cases h)

theorem k_spec_l2Saturate : Entry Tryz.prog 255 c_spec_l2Saturate := by
 refine entry_by (C := C_spec_l2Saturate) mixed tys_ok t_spec_l2Saturate (fn := Tryz.f255) (c := bd Tryz.f255) (by kernel_rfl) (by kernel_rfl) (by kernel_rfl) (by kernel_rfl) ?_
 intro args st k he
 unfold c_spec_l2Saturate at he
 split at he
 rotate_left
 ·exact he.elim
 rename_i c__0 c__1
 have he : Ok (spec_l2Saturate (c__0, c__1)) (fun r => k (.agg [.own 901 false, .int .i64 r.1]) [(900, .rc [.own 901 false, .int .i64 r.1]), (901, .sl 155 y1_ r.2 .shallow)]) := he
 refine ⟨rfl, rfl, ?_⟩
 refine loop_model mixed tys_ok t_spec_l2Saturate (S := Int × (List D1_)) (I := (fun (i, out_0) => (envOf [(1, .c (.ptr 10000000 0)), (2, .c (.ptr 10000001 0)), (3, .c (.ptr 10000002 0)), (4, .c (.int .i64 i))], [(10000000, .rc [.imm y1_ (c__0, c__1).1, .int .i64 (c__0, c__1).2]), (10000001, .rc [.nil, .int .i64 (0:Int)]), (10000002, .rc [.own 10000003 false, .int .i64 (c__0, c__1).2]), (10000003, .sl 155 y1_ out_0 .shallow)]))) (f := spec_l2Saturate_l1 (c__0, c__1)) (K := (fun r => k (.agg [.own 901 false, .int .i64 r.1]) [(900, .rc [.own 901 false, .int .i64 r.1]), (901, .sl 155 y1_ r.2 .shallow)])) he (leads_ren [(10000000, 1), (10000001, 2), (10000002, 3)] rfl rfl ⟨⟨.inl rfl, rfl, trivial⟩, ⟨rfl, rfl, trivial⟩, ⟨⟨rfl, trivial⟩, rfl, trivial⟩, trivial, trivial⟩ ⟨⟨⟨rfl, rfl⟩, rfl⟩, ⟨⟨rfl, rfl⟩, rfl⟩, ⟨⟨rfl, rfl⟩, rfl⟩, rfl, trivial⟩) ?_
 rintro ⟨i, out_0⟩ J1 he
 refine go_if he (fun he => ?_) fun he => ?_
 ·refine go_if he (fun he => ?_) fun he => ?_
  ·refine go_rq he fun he => ?_
   refine seq_model mixed tys_ok t_spec_l2Saturate (S := D1_) (I := (fun t_1 => (envOf [(1, .c (.ptr 10002000 0)), (2, .c (.ptr 10002001 0)), (3, .c (.ptr 10002002 0)), (4, .c (.int .i64 i)), (5, .c (.ptr 10002003 0))], [(10002000, .rc [.imm y1_ (c__0, c__1).1, .int .i64 (c__0, c__1).2]), (10002001, .rc [.nil, .int .i64 (0:Int)]), (10002002, .rc [.own 10002004 false, .int .i64 (c__0, c__1).2]), (10002003, .rc [.int .i64 t_1.1, .int .i64 t_1.2]), (10002004, .sl 155 y1_ out_0 .shallow)]))) (B := fun s => Ok (spec_l2Saturate_j1 i out_0 s) (LK J1 (fun r => k (.agg [.own 901 false, .int .i64 r.1]) [(900, .rc [.own 901 false, .int .i64 r.1]), (901, .sl 155 y1_ r.2 .shallow)]))) ?_ ?_
   ·rintro t_1 he
    refine go_rq he fun he => ?_
    refine go_rq he fun he => ?_
    have he := ok_some he
    exact ⟨((i + (1:Int)), (out_0 ++ [t_1])), he, (leads_ren [(10000000, 10002000), (10000001, 10002001), (10000002, 10002002), (10000003, 38)] rfl rfl ⟨⟨.inl rfl, rfl, trivial⟩, ⟨rfl, rfl, trivial⟩, ⟨⟨⟨rfl, rfl⟩, trivial⟩, rfl, trivial⟩, ⟨rfl, rfl⟩, trivial⟩ ⟨⟨⟨rfl, rfl⟩, rfl⟩, ⟨⟨rfl, rfl⟩, rfl⟩, ⟨⟨rfl, rfl⟩, rfl⟩, rfl, trivial⟩)⟩
   ·skip
    refine go_if he (fun he => ?_) fun he => ?_
    ·exact ⟨((c__0, c__1).2, ((c__0, c__1).1.getD i.toNat (0, 0)).2), he, (leads_ren [(10002000, 10000000), (10002001, 10000001), (10002002, 10000002), (10002003, 5), (10002004, 10000003)] rfl rfl ⟨⟨.inl rfl, rfl, trivial⟩, ⟨rfl, rfl, trivial⟩, ⟨⟨⟨rfl, rfl⟩, trivial⟩, rfl, trivial⟩, ⟨rfl, rfl, trivial⟩, ⟨rfl, rfl⟩, trivial⟩ ⟨⟨⟨rfl, rfl⟩, rfl⟩, ⟨⟨rfl, rfl⟩, rfl⟩, ⟨⟨rfl, rfl⟩, rfl⟩, rfl, ⟨⟨rfl, rfl⟩, rfl⟩, trivial⟩)⟩
    ·exact ⟨((c__0, c__1).1.getD i.toNat (0, 0)), he, (leads_ren [(10002000, 10000000), (10002001, 10000001), (10002002, 10000002), (10002003, 5), (10002004, 10000003)] rfl rfl ⟨⟨.inl rfl, rfl, trivial⟩, ⟨rfl, rfl, trivial⟩, ⟨⟨⟨rfl, rfl⟩, trivial⟩, rfl, trivial⟩, ⟨rfl, rfl, trivial⟩, ⟨rfl, rfl⟩, trivial⟩ ⟨⟨⟨rfl, rfl⟩, rfl⟩, ⟨⟨rfl, rfl⟩, rfl⟩, ⟨⟨rfl, rfl⟩, rfl⟩, rfl, ⟨⟨rfl, rfl⟩, rfl⟩, trivial⟩)⟩
  ·have he := ok_some he
   exact ⟨rfl, _, _, (leads_ren [(900, 10000001), (901, 10000003)] (l := [(2, .c (.ptr 900 0))]) (st' := [(900, .rc [.own 901 false, .int .i64 (c__0, c__1).2]), (901, .sl 155 y1_ out_0 .shallow)]) rfl rfl ⟨⟨⟨⟨rfl, rfl⟩, trivial⟩, rfl, trivial⟩, ⟨rfl, rfl⟩, trivial⟩ ⟨⟨⟨rfl, rfl⟩, rfl⟩, trivial⟩), he⟩
 ·have he := ok_some he
  exact ⟨rfl, _, _, (leads_ren [(900, 10000001), (901, 10000003)] (l := [(2, .c (.ptr 900 0))]) (st' := [(900, .rc [.own 901 false, .int .i64 (c__0, c__1).2]), (901, .sl 155 y1_ out_0 .shallow)]) rfl rfl ⟨⟨⟨⟨rfl, rfl⟩, trivial⟩, rfl, trivial⟩, ⟨rfl, rfl⟩, trivial⟩ ⟨⟨⟨rfl, rfl⟩, rfl⟩, trivial⟩), he⟩

noncomputable def c_spec_SaturateConstraint : Con := fun args st => match args, st with
  | [.agg [.imm (.pair (.int .i64) (.int .i64)) c__0, .int .i64 c__1]], [] => .opt (Bool × Int × (List D1_)) (spec_SaturateConstraint (c__0, c__1)) (fun r => .ret (.tup [.agg [.own 901 false, .int .i64 r.2.1], .c (.bool r.1)]) [(900, .rc [.own 901 false, .int .i64 r.2.1]), (901, .sl 155 y1_ r.2.2 .shallow)])
  | _, _ => .fail

noncomputable def C_spec_SaturateConstraint : Cfg := { y := tys, n := 10, h := 0, tab := [(168, c_spec_ConstraintValid), (255, c_spec_l2Saturate)], cut := [], hand := [], good := [], deep := [], sched := [] }

theorem t_spec_SaturateConstraint : TabOk Tryz.prog C_spec_SaturateConstraint := by
  refine tabOk_of ?_
  simp only [C_spec_SaturateConstraint, List.forall_mem_cons]
  exact ⟨k_spec_ConstraintValid, k_spec_l2Saturate, fun p h => by cases h⟩

theorem k_spec_SaturateConstraint : Entry Tryz.prog 214 c_spec_SaturateConstraint := by
 refine entry_by (C := C_spec_SaturateConstraint) mixed tys_ok t_spec_SaturateConstraint (fn := Tryz.f214) (c := bd Tryz.f214) (by kernel_rfl) (by kernel_rfl) (by kernel_rfl) (by kernel_rfl) ?_
 intro args st k he
 unfold c_spec_SaturateConstraint at he
 split at he
 rotate_left
 ·exact he.elim
 rename_i c__0 c__1
 have he : Ok (spec_SaturateConstraint (c__0, c__1)) (fun r => k (.tup [.agg [.own 901 false, .int .i64 r.2.1], .c (.bool r.1)]) [(900, .rc [.own 901 false, .int .i64 r.2.1]), (901, .sl 155 y1_ r.2.2 .shallow)]) := he
 refine ⟨rfl, rfl, ?_⟩
 refine go_bind he fun r1_ he => ?_
 refine go_if he (fun he => ?_) fun he => ?_
 ·have he := ok_some he
  exact ⟨rfl, _, _, (leads_ren [(900, 2)] (l := [(2, .c (.ptr 900 0)), (3, .c (.bool false))]) (st' := [(900, .rc [.own 901 false, .int .i64 (0:Int)]), (901, .sl 155 y1_ ([] : List D1_) .shallow)]) rfl rfl ⟨⟨⟨rfl, trivial⟩, rfl, trivial⟩, trivial, trivial⟩ ⟨⟨⟨rfl, rfl⟩, rfl⟩, .inr rfl, trivial⟩), he⟩
 ·refine go_bind he fun r2_ he => ?_
  have he := ok_some he
  exact ⟨rfl, _, _, (leads_ren [(900, 2), (901, 10901)] (l := [(2, .c (.ptr 900 0)), (3, .c (.bool true))]) (st' := [(900, .rc [.own 901 false, .int .i64 r2_.1]), (901, .sl 155 y1_ r2_.2 .shallow)]) rfl rfl ⟨⟨⟨⟨rfl, rfl⟩, trivial⟩, rfl, trivial⟩, ⟨rfl, rfl⟩, trivial⟩ ⟨⟨⟨rfl, rfl⟩, rfl⟩, .inr rfl, trivial⟩), he⟩

noncomputable def c_spec_WeakenConstraint : Con := fun args st => match args, st with
  | [.agg [.imm (.pair (.int .i64) (.int .i64)) c__0, .int .i64 c__1], .c (.int .i64 variable_)], [] => .opt (Bool × Int × (List D1_)) (spec_WeakenConstraint (c__0, c__1) variable_) (fun r => .ret (.tup [.agg [.own 901 false, .int .i64 r.2.1], .c (.bool r.1)]) [(900, .rc [.own 901 false, .int .i64 r.2.1]), (901, .sl 155 y1_ r.2.2 .shallow)])
  | _, _ => .fail

noncomputable def C_spec_WeakenConstraint : Cfg := { y := tys, n := 64, h := 0, tab := [(168, c_spec_ConstraintValid), (229, c_spec_l1Abs)], cut := [10], hand := [], good := [], deep := [], sched := [(8, (.first 0 (.first 2 (.first 4 (.alt 1 (.alt 3 (.first 5 (.first 6 (.first 7 (.first 8 (.first 9 (.alt 10 .done .stop)))))) .stop) (.alt 3 (.first 5 (.first 6 (.first 7 (.alt 1 (.first 8 (.first 9 (.alt 10 .done .stop))) .stop)))) .stop)))))), (9, (.first 0 (.first 2 (.first 4 (.alt 1 (.alt 3 (.first 5 (.first 6 (.alt 7 (.alt 8 (.first 9 (.alt 10 .done .stop)) .stop) .stop))) .stop) (.alt 3 (.first 5 (.first 6 (.alt 1 (.alt 7 (.alt 8 (.first 9 (.alt 10 .done .stop)) .stop) .stop) (.alt 7 (.alt 1 (.alt 8 (.first 9 (.alt 10 .done .stop)) .stop) .stop) .stop)))) .stop))))))] }

theorem t_spec_WeakenConstraint : TabOk Tryz.prog C_spec_WeakenConstraint := by
  refine tabOk_of ?_
  simp only [C_spec_WeakenConstraint, List.forall_mem_cons]
  exact ⟨k_spec_ConstraintValid, k_spec_l1Abs, fun p h => by cases h⟩

theorem k_spec_WeakenConstraint : Entry Tryz.prog 215 c_spec_WeakenConstraint := by
 refine entry_by (C := C_spec_WeakenConstraint) mixed tys_ok t_spec_WeakenConstraint (fn := Tryz.f215) (c := bd Tryz.f215) (by kernel_rfl) (by kernel_rfl) (by kernel_rfl) (by kernel_rfl) ?_
 intro args st k he
 unfold c_spec_WeakenConstraint at he
 split at he
 rotate_left
 ·exact he.elim
 rename_i c__0 c__1 variable_
 have he : Ok (spec_WeakenConstraint (c__0, c__1) variable_) (fun r => k (.tup [.agg [.own 901 false, .int .i64 r.2.1], .c (.bool r.1)]) [(900, .rc [.own 901 false, .int .i64 r.2.1]), (901, .sl 155 y1_ r.2.2 .shallow)]) := he
 refine ⟨rfl, rfl, ?_⟩
 refine go_bind he fun r1_ he => ?_
 refine go_if2 he (fun he => ?_) fun he => ?_
 ·refine go_if2 he (fun he => ?_) fun he => ?_
  ·refine go_if he (fun he => ?_) fun he => ?_
   ·have he := ok_some he
    exact ⟨rfl, _, _, (leads_ren [(900, 4)] (l := [(4, .c (.ptr 900 0)), (5, .c (.bool false))]) (st' := [(900, .rc [.own 901 false, .int .i64 (0:Int)]), (901, .sl 155 y1_ ([] : List D1_) .shallow)]) rfl rfl ⟨⟨⟨rfl, trivial⟩, rfl, trivial⟩, trivial, trivial⟩ ⟨⟨⟨rfl, rfl⟩, rfl⟩, .inr rfl, trivial⟩), he⟩
   ·refine seq_model mixed tys_ok t_spec_WeakenConstraint (S := Int × (List D1_)) (I := (fun (out_11, out_01) => (envOf [(4, .c (.ptr 10001000 0)), (6, .c (.ptr 10001001 0))], [(10001000, .rc [.nil, .int .i64 (0:Int)]), (10001001, .rc [.own 10001002 false, .int .i64 out_11]), (10001002, .sl 155 y1_ out_01 .shallow)]))) (B := fun s => Ok (spec_WeakenConstraint_j1 s) (fun r => k (.tup [.agg [.own 901 false, .int .i64 r.2.1], .c (.bool r.1)]) [(900, .rc [.own 901 false, .int .i64 r.2.1]), (901, .sl 155 y1_ r.2.2 .shallow)])) ?_ ?_
    ·rintro ⟨out_11, out_01⟩ he
     refine go_if he (fun he => ?_) fun he => ?_
     ·have he := ok_some he
      exact ⟨rfl, _, _, (leads_ren [(900, 10001000), (901, 10001002)] (l := [(4, .c (.ptr 900 0)), (5, .c (.bool true))]) (st' := [(900, .rc [.own 901 false, .int .i64 (0:Int)]), (901, .sl 155 y1_ out_01 .shallow)]) rfl rfl ⟨⟨⟨⟨rfl, rfl⟩, trivial⟩, rfl, trivial⟩, ⟨rfl, rfl⟩, trivial⟩ ⟨⟨⟨rfl, rfl⟩, rfl⟩, .inr rfl, trivial⟩), he⟩
     ·have he := ok_some he
      exact ⟨rfl, _, _, (leads_ren [(900, 10001000), (901, 10001002)] (l := [(4, .c (.ptr 900 0)), (5, .c (.bool true))]) (st' := [(900, .rc [.own 901 false, .int .i64 out_11]), (901, .sl 155 y1_ out_01 .shallow)]) rfl rfl ⟨⟨⟨⟨rfl, rfl⟩, trivial⟩, rfl, trivial⟩, ⟨rfl, rfl⟩, trivial⟩ ⟨⟨⟨rfl, rfl⟩, rfl⟩, .inr rfl, trivial⟩), he⟩
    ·skip
     refine loop_model mixed tys_ok t_spec_WeakenConstraint (S := Int × Int × (List D1_)) (I := (fun (i, out_1, out_0) => (envOf [(1, .c (.int .i64 variable_)), (2, .c (.ptr 10000000 0)), (4, .c (.ptr 10000001 0)), (6, .c (.ptr 10000002 0)), (7, .c (.int .i64 i))], [(10000000, .rc [.imm y1_ (c__0, c__1).1, .int .i64 (c__0, c__1).2]), (10000001, .rc [.nil, .int .i64 (0:Int)]), (10000002, .rc [.own 10000003 false, .int .i64 out_1]), (10000003, .sl 155 y1_ out_0 .shallow)]))) (f := spec_WeakenConstraint_l1 (c__0, c__1) variable_) (K := (fun r => k (.tup [.agg [.own 901 false, .int .i64 r.2.1], .c (.bool r.1)]) [(900, .rc [.own 901 false, .int .i64 r.2.1]), (901, .sl 155 y1_ r.2.2 .shallow)])) he (leads_ren [(10000000, 2), (10000001, 4), (10000002, 6)] rfl rfl ⟨⟨.inl rfl, rfl, trivial⟩, ⟨rfl, rfl, trivial⟩, ⟨⟨rfl, trivial⟩, rfl, trivial⟩, trivial, trivial⟩ ⟨rfl, ⟨⟨rfl, rfl⟩, rfl⟩, ⟨⟨rfl, rfl⟩, rfl⟩, ⟨⟨rfl, rfl⟩, rfl⟩, rfl, trivial⟩) ?_
     rintro ⟨i, out_1, out_0⟩ J1 he
     refine go_if he (fun he => ?_) fun he => ?_
     ·refine go_rq he fun he => ?_
      refine go_bind he fun r3_ he => ?_
      refine go_if he (fun he => ?_) fun he => ?_
      ·refine And.intro (by kernel_rfl) ?_
       have he := ok_rq he
       have hq1 := he.1
       have he := he.2
       have he := ok_rq he
       have hq2 := he.1
       have he := he.2
       refine And.intro ?_ (And.intro ?_ (trivial))
       ·skip
        refine And.intro ?_ trivial
        refine And.intro hq1 ?_
        refine And.intro hq2 ?_
        refine And.intro ?_ trivial
        refine go_rq he fun he => ?_
        have he := ok_some he
        exact ⟨((i + (1:Int)), (out_1 - ((c__0, c__1).1.getD i.toNat (0, 0)).1), out_0), he, (leads_ren [] rfl rfl ⟨⟨.inl rfl, rfl, trivial⟩, ⟨rfl, rfl, trivial⟩, ⟨⟨⟨rfl, rfl⟩, trivial⟩, rfl, trivial⟩, ⟨rfl, rfl⟩, trivial⟩ ⟨rfl, ⟨⟨rfl, rfl⟩, rfl⟩, ⟨⟨rfl, rfl⟩, rfl⟩, ⟨⟨rfl, rfl⟩, rfl⟩, rfl, trivial⟩)⟩
       ·skip
        refine And.intro hq1 ?_
        refine And.intro ?_ trivial
        refine And.intro hq2 ?_
        refine And.intro ?_ trivial
        refine go_rq he fun he => ?_
        have he := ok_some he
        exact ⟨((i + (1:Int)), (out_1 - ((c__0, c__1).1.getD i.toNat (0, 0)).1), out_0), he, (leads_ren [] rfl rfl ⟨⟨.inl rfl, rfl, trivial⟩, ⟨rfl, rfl, trivial⟩, ⟨⟨⟨rfl, rfl⟩, trivial⟩, rfl, trivial⟩, ⟨rfl, rfl⟩, trivial⟩ ⟨rfl, ⟨⟨rfl, rfl⟩, rfl⟩, ⟨⟨rfl, rfl⟩, rfl⟩, ⟨⟨rfl, rfl⟩, rfl⟩, rfl, trivial⟩)⟩
      ·refine And.intro (by kernel_rfl) ?_
       have he := ok_rq he
       have hq1 := he.1
       have he := he.2
       have he := ok_rq he
       have hq2 := he.1
       have he := he.2
       refine And.intro ?_ (And.intro ?_ (trivial))
       ·skip
        refine And.intro ?_ trivial
        refine And.intro hq1 ?_
        refine And.intro ?_ trivial
        refine And.intro ?_ trivial
        refine And.intro hq2 ?_
        refine And.intro ?_ trivial
        refine go_rq he fun he => ?_
        have he := ok_some he
        exact ⟨((i + (1:Int)), out_1, (out_0 ++ [((c__0, c__1).1.getD i.toNat (0, 0))])), he, (leads_ren [(10000003, 57)] rfl rfl ⟨⟨.inl rfl, rfl, trivial⟩, ⟨rfl, rfl, trivial⟩, ⟨⟨⟨rfl, rfl⟩, trivial⟩, rfl, trivial⟩, ⟨rfl, rfl⟩, trivial⟩ ⟨rfl, ⟨⟨rfl, rfl⟩, rfl⟩, ⟨⟨rfl, rfl⟩, rfl⟩, ⟨⟨rfl, rfl⟩, rfl⟩, rfl, trivial⟩)⟩
       ·skip
        refine And.intro hq1 ?_
        refine And.intro ?_ (And.intro ?_ (trivial))
        ·skip
         refine And.intro ?_ trivial
         refine And.intro ?_ trivial
         refine And.intro hq2 ?_
         refine And.intro ?_ trivial
         refine go_rq he fun he => ?_
         have he := ok_some he
         exact ⟨((i + (1:Int)), out_1, (out_0 ++ [((c__0, c__1).1.getD i.toNat (0, 0))])), he, (leads_ren [(10000003, 57)] rfl rfl ⟨⟨.inl rfl, rfl, trivial⟩, ⟨rfl, rfl, trivial⟩, ⟨⟨⟨rfl, rfl⟩, trivial⟩, rfl, trivial⟩, ⟨rfl, rfl⟩, trivial⟩ ⟨rfl, ⟨⟨rfl, rfl⟩, rfl⟩, ⟨⟨rfl, rfl⟩, rfl⟩, ⟨⟨rfl, rfl⟩, rfl⟩, rfl, trivial⟩)⟩
        ·skip
         refine And.intro ?_ trivial
         refine And.intro ?_ trivial
         refine And.intro hq2 ?_
         refine And.intro ?_ trivial
         refine go_rq he fun he => ?_
         have he := ok_some he
         exact ⟨((i + (1:Int)), out_1, (out_0 ++ [((c__0, c__1).1.getD i.toNat (0, 0))])), he, (leads_ren [(10000003, 57)] rfl rfl ⟨⟨.inl rfl, rfl, trivial⟩, ⟨rfl, rfl, trivial⟩, ⟨⟨⟨rfl, rfl⟩, trivial⟩, rfl, trivial⟩, ⟨rfl, rfl⟩, trivial⟩ ⟨rfl, ⟨⟨rfl, rfl⟩, rfl⟩, ⟨⟨rfl, rfl⟩, rfl⟩, ⟨⟨rfl, rfl⟩, rfl⟩, rfl, trivial⟩)⟩
     ·exact ⟨(out_1, out_0), ok_up he, (leads_ren [(10001000, 10000001), (10001001, 10000002), (10001002, 10000003)] rfl rfl ⟨⟨rfl, rfl, trivial⟩, ⟨⟨⟨rfl, rfl⟩, trivial⟩, rfl, trivial⟩, ⟨rfl, rfl⟩, trivial⟩ ⟨⟨⟨rfl, rfl⟩, rfl⟩, ⟨⟨rfl, rfl⟩, rfl⟩, trivial⟩)⟩
  ·have he := ok_some he
   exact ⟨rfl, _, _, (leads_ren [(900, 4)] (l := [(4, .c (.ptr 900 0)), (5, .c (.bool false))]) (st' := [(900, .rc [.own 901 false, .int .i64 (0:Int)]), (901, .sl 155 y1_ ([] : List D1_) .shallow)]) rfl rfl ⟨⟨⟨rfl, trivial⟩, rfl, trivial⟩, trivial, trivial⟩ ⟨⟨⟨rfl, rfl⟩, rfl⟩, .inr rfl, trivial⟩), he⟩
 ·have he := ok_some he
  exact ⟨rfl, _, _, (leads_ren [(900, 4)] (l := [(4, .c (.ptr 900 0)), (5, .c (.bool false))]) (st' := [(900, .rc [.own 901 false, .int .i64 (0:Int)]), (901, .sl 155 y1_ ([] : List D1_) .shallow)]) rfl rfl ⟨⟨⟨rfl, trivial⟩, rfl, trivial⟩, trivial, trivial⟩ ⟨⟨⟨rfl, rfl⟩, rfl⟩, .inr rfl, trivial⟩), he⟩

noncomputable def c_spec_l4Derive : Con := fun args st => match args, st with
  | [.agg [.imm (.pair (.sl (.pair (.int .i64) (.int .i64))) (.int .i64)) a0_0, .imm .bool a0_1], .agg [.int .i64 a1_0, .int .i64 a1_1, .int .i64 a1_2, .imm (.pair (.int .i64) (.int .i64)) a1_3, .int .i64 a1_4]], [] => .opt (Bool × Int × (List D1_)) (spec_l4Derive (a0_0, a0_1) (a1_0, (a1_1, (a1_2, (a1_3, a1_4))))) (fun r => .ret (.tup [.agg [.own 901 false, .int .i64 r.2.1], .c (.bool r.1)]) [(900, .rc [.own 901 false, .int .i64 r.2.1]), (901, .sl 155 y1_ r.2.2 .shallow)])
  | _, _ => .fail

noncomputable def C_spec_l4Derive : Cfg := { y := tys, n := 91, h := 0, tab := [(136, c_spec_l1Copy), (151, c_spec_l4Live), (168, c_spec_ConstraintValid), (208, c_spec_LiteralAxiom), (209, c_spec_l3Rup), (210, c_spec_l4Kept), (211, c_spec_AddConstraints), (212, c_spec_MultiplyConstraint), (213, c_spec_DivideConstraint), (214, c_spec_SaturateConstraint), (215, c_spec_WeakenConstraint)], cut := [], hand := [], good := [], deep := [], sched := [(4, (.first 0 (.first 3 (.alt 1 (.alt 2 (.alt 4 (.alt 5 (.first 6 (.first 9 (.alt 7 (.alt 8 (.alt 10 (.alt 11 (.first 12 (.alt 13 (.first 14 .done) .stop)) .stop) .stop) (.alt 10 (.alt 8 (.alt 11 (.first 12 (.alt 13 (.first 14 .done) .stop)) .stop) .stop) .stop)) (.alt 10 (.alt 7 (.alt 8 (.alt 11 (.first 12 (.alt 13 (.first 14 .done) .stop)) .stop) .stop) .stop) .stop)))) .stop) .stop) (.alt 4 (.alt 2 (.alt 5 (.first 6 (.first 9 (.alt 7 (.alt 8 (.alt 10 (.alt 11 (.first 12 (.alt 13 (.first 14 .done) .stop)) .stop) .stop) (.alt 10 (.alt 8 (.alt 11 (.first 12 (.alt 13 (.first 14 .done) .stop)) .stop) .stop) .stop)) (.alt 10 (.alt 7 (.alt 8 (.alt 11 (.first 12 (.alt 13 (.first 14 .done) .stop)) .stop) .stop) .stop) .stop)))) .stop) .stop) .stop)) (.alt 4 (.alt 1 (.alt 2 (.alt 5 (.first 6 (.first 9 (.alt 7 (.alt 8 (.alt 10 (.alt 11 (.first 12 (.alt 13 (.first 14 .done) .stop)) .stop) .stop) (.alt 10 (.alt 8 (.alt 11 (.first 12 (.alt 13 (.first 14 .done) .stop)) .stop) .stop) .stop)) (.alt 10 (.alt 7 (.alt 8 (.alt 11 (.first 12 (.alt 13 (.first 14 .done) .stop)) .stop) .stop) .stop) .stop)))) .stop) .stop) .stop) .stop))))), (12, (.first 1 (.first 3 (.alt 0 (.alt 2 (.alt 4 (.first 5 (.first 6 (.alt 7 (.first 8 (.first 9 (.alt 10 (.first 11 .done) .stop))) .stop))) .stop) (.alt 4 (.alt 2 (.first 5 (.first 6 (.alt 7 (.first 8 (.first 9 (.alt 10 (.first 11 .done) .stop))) .stop))) .stop) .stop)) (.alt 2 (.alt 0 (.alt 4 (.first 5 (.first 6 (.alt 7 (.first 8 (.first 9 (.alt 10 (.first 11 .done) .stop))) .stop))) .stop) (.alt 4 (.first 5 (.first 6 (.alt 0 (.alt 7 (.first 8 (.first 9 (.alt 10 (.first 11 .done) .stop))) .stop) .stop))) .stop)) (.alt 4 (.alt 0 (.alt 2 (.first 5 (.first 6 (.alt 7 (.first 8 (.first 9 (.alt 10 (.first 11 .done) .stop))) .stop))) .stop) (.alt 2 (.first 5 (.first 6 (.alt 0 (.alt 7 (.first 8 (.first 9 (.alt 10 (.first 11 .done) .stop))) .stop) .stop))) .stop)) .stop))))))] }

theorem t_spec_l4Derive : TabOk Tryz.prog C_spec_l4Derive := by
  refine tabOk_of ?_
  simp only [C_spec_l4Derive, List.forall_mem_cons]
  exact ⟨k_spec_l1Copy, k_spec_l4Live, k_spec_ConstraintValid, k_spec_LiteralAxiom, k_spec_l3Rup, k_spec_l4Kept, k_spec_AddConstraints, k_spec_MultiplyConstraint, k_spec_DivideConstraint, k_spec_SaturateConstraint, k_spec_WeakenConstraint, fun p h => by cases h⟩

theorem k_spec_l4Derive : Entry Tryz.prog 152 c_spec_l4Derive := by
 refine entry_by (C := C_spec_l4Derive) mixed tys_ok t_spec_l4Derive (fn := Tryz.f152) (c := bd Tryz.f152) (by kernel_rfl) (by kernel_rfl) (by kernel_rfl) (by kernel_rfl) ?_
 intro args st k he
 unfold c_spec_l4Derive at he
 split at he
 rotate_left
 ·exact he.elim
 rename_i a0_0 a0_1 a1_0 a1_1 a1_2 a1_3 a1_4
 have he : Ok (spec_l4Derive (a0_0, a0_1) (a1_0, (a1_1, (a1_2, (a1_3, a1_4))))) (fun r => k (.tup [.agg [.own 901 false, .int .i64 r.2.1], .c (.bool r.1)]) [(900, .rc [.own 901 false, .int .i64 r.2.1]), (901, .sl 155 y1_ r.2.2 .shallow)]) := he
 refine ⟨rfl, rfl, ?_⟩
 refine go_if he (fun he => ?_) fun he => ?_
 ·refine go_bind he fun r1_ he => ?_
  have he := ok_some he
  exact ⟨rfl, _, _, (leads_ren [(900, 4), (901, 13901)] (l := [(4, .c (.ptr 900 0)), (5, .c (.bool r1_.1))]) (st' := [(900, .rc [.own 901 false, .int .i64 r1_.2.1]), (901, .sl 155 y1_ r1_.2.2 .shallow)]) rfl rfl ⟨⟨⟨⟨rfl, rfl⟩, trivial⟩, rfl, trivial⟩, ⟨rfl, rfl⟩, trivial⟩ ⟨⟨⟨rfl, rfl⟩, rfl⟩, .inl rfl, trivial⟩), he⟩
 ·refine go_if he (fun he => ?_) fun he => ?_
  ·refine And.intro (by kernel_rfl) ?_
   obtain ⟨r6_, hq1, he⟩ := ok_bind he
   obtain ⟨r7_, hq2, he⟩ := ok_bind he
   refine And.intro ?_ (And.intro ?_ (trivial))
   ·skip
    refine And.intro ?_ (And.intro ?_ (trivial))
    ·skip
     refine ⟨r6_, hq1, ?_⟩
     refine And.intro ?_ trivial
     refine And.intro ?_ trivial
     refine ⟨r7_, hq2, ?_⟩
     refine go_if he (fun he => ?_) fun he => ?_
     ·obtain ⟨r8_, hq1, he⟩ := ok_bind he
      obtain ⟨r9_, hq2, he⟩ := ok_bind he
      refine And.intro ?_ (And.intro ?_ (trivial))
      ·skip
       refine And.intro ?_ (And.intro ?_ (trivial))
       ·skip
        refine ⟨r8_, hq1, ?_⟩
        refine And.intro ?_ trivial
        refine And.intro ?_ trivial
        refine ⟨r9_, hq2, ?_⟩
        refine And.intro ?_ trivial
        have he := ok_some he
        exact ⟨rfl, _, _, (leads_ren [(900, 4), (901, 21901)] (l := [(4, .c (.ptr 900 0)), (5, .c (.bool r9_))]) (st' := [(900, .rc [.own 901 false, .int .i64 r6_.1]), (901, .sl 155 y1_ r6_.2 .shallow)]) rfl rfl ⟨⟨⟨⟨rfl, rfl⟩, trivial⟩, rfl, trivial⟩, ⟨rfl, rfl⟩, trivial⟩ ⟨⟨⟨rfl, rfl⟩, rfl⟩, .inl rfl, trivial⟩), he⟩
       ·skip
        refine And.intro ?_ trivial
        refine ⟨r8_, hq1, ?_⟩
        refine And.intro ?_ trivial
        refine ⟨r9_, hq2, ?_⟩
        refine And.intro ?_ trivial
        have he := ok_some he
        exact ⟨rfl, _, _, (leads_ren [(900, 4), (901, 21901)] (l := [(4, .c (.ptr 900 0)), (5, .c (.bool r9_))]) (st' := [(900, .rc [.own 901 false, .int .i64 r6_.1]), (901, .sl 155 y1_ r6_.2 .shallow)]) rfl rfl ⟨⟨⟨⟨rfl, rfl⟩, trivial⟩, rfl, trivial⟩, ⟨rfl, rfl⟩, trivial⟩ ⟨⟨⟨rfl, rfl⟩, rfl⟩, .inl rfl, trivial⟩), he⟩
      ·skip
       refine And.intro ?_ trivial
       refine And.intro ?_ trivial
       refine ⟨r8_, hq1, ?_⟩
       refine And.intro ?_ trivial
       refine ⟨r9_, hq2, ?_⟩
       refine And.intro ?_ trivial
       have he := ok_some he
       exact ⟨rfl, _, _, (leads_ren [(900, 4), (901, 21901)] (l := [(4, .c (.ptr 900 0)), (5, .c (.bool r9_))]) (st' := [(900, .rc [.own 901 false, .int .i64 r6_.1]), (901, .sl 155 y1_ r6_.2 .shallow)]) rfl rfl ⟨⟨⟨⟨rfl, rfl⟩, trivial⟩, rfl, trivial⟩, ⟨rfl, rfl⟩, trivial⟩ ⟨⟨⟨rfl, rfl⟩, rfl⟩, .inl rfl, trivial⟩), he⟩
     ·refine And.intro ?_ (And.intro ?_ (trivial))
      ·skip
       refine And.intro ?_ (And.intro ?_ (trivial))
       ·skip
        refine And.intro ?_ trivial
        refine And.intro ?_ trivial
        refine And.intro ?_ trivial
        have he := ok_some he
        exact ⟨rfl, _, _, (leads_ren [(900, 4), (901, 21901)] (l := [(4, .c (.ptr 900 0)), (5, .c (.bool false))]) (st' := [(900, .rc [.own 901 false, .int .i64 r6_.1]), (901, .sl 155 y1_ r6_.2 .shallow)]) rfl rfl ⟨⟨⟨⟨rfl, rfl⟩, trivial⟩, rfl, trivial⟩, ⟨rfl, rfl⟩, trivial⟩ ⟨⟨⟨rfl, rfl⟩, rfl⟩, .inr rfl, trivial⟩), he⟩
       ·skip
        refine And.intro ?_ trivial
        refine And.intro ?_ trivial
        refine And.intro ?_ trivial
        have he := ok_some he
        exact ⟨rfl, _, _, (leads_ren [(900, 4), (901, 21901)] (l := [(4, .c (.ptr 900 0)), (5, .c (.bool false))]) (st' := [(900, .rc [.own 901 false, .int .i64 r6_.1]), (901, .sl 155 y1_ r6_.2 .shallow)]) rfl rfl ⟨⟨⟨⟨rfl, rfl⟩, trivial⟩, rfl, trivial⟩, ⟨rfl, rfl⟩, trivial⟩ ⟨⟨⟨rfl, rfl⟩, rfl⟩, .inr rfl, trivial⟩), he⟩
      ·skip
       refine And.intro ?_ trivial
       refine And.intro ?_ trivial
       refine And.intro ?_ trivial
       refine And.intro ?_ trivial
       have he := ok_some he
       exact ⟨rfl, _, _, (leads_ren [(900, 4), (901, 21901)] (l := [(4, .c (.ptr 900 0)), (5, .c (.bool false))]) (st' := [(900, .rc [.own 901 false, .int .i64 r6_.1]), (901, .sl 155 y1_ r6_.2 .shallow)]) rfl rfl ⟨⟨⟨⟨rfl, rfl⟩, trivial⟩, rfl, trivial⟩, ⟨rfl, rfl⟩, trivial⟩ ⟨⟨⟨rfl, rfl⟩, rfl⟩, .inr rfl, trivial⟩), he⟩
    ·skip
     refine And.intro ?_ trivial
     refine ⟨r6_, hq1, ?_⟩
     refine And.intro ?_ trivial
     refine ⟨r7_, hq2, ?_⟩
     refine go_if he (fun he => ?_) fun he => ?_
     ·obtain ⟨r8_, hq1, he⟩ := ok_bind he
      obtain ⟨r9_, hq2, he⟩ := ok_bind he
      refine And.intro ?_ (And.intro ?_ (trivial))
      ·skip
       refine And.intro ?_ (And.intro ?_ (trivial))
       ·skip
        refine ⟨r8_, hq1, ?_⟩
        refine And.intro ?_ trivial
        refine And.intro ?_ trivial
        refine ⟨r9_, hq2, ?_⟩
        refine And.intro ?_ trivial
        have he := ok_some he
        exact ⟨rfl, _, _, (leads_ren [(900, 4), (901, 21901)] (l := [(4, .c (.ptr 900 0)), (5, .c (.bool r9_))]) (st' := [(900, .rc [.own 901 false, .int .i64 r6_.1]), (901, .sl 155 y1_ r6_.2 .shallow)]) rfl rfl ⟨⟨⟨⟨rfl, rfl⟩, trivial⟩, rfl, trivial⟩, ⟨rfl, rfl⟩, trivial⟩ ⟨⟨⟨rfl, rfl⟩, rfl⟩, .inl rfl, trivial⟩), he⟩
       ·skip
        refine And.intro ?_ trivial
        refine ⟨r8_, hq1, ?_⟩
        refine And.intro ?_ trivial
        refine ⟨r9_, hq2, ?_⟩
        refine And.intro ?_ trivial
        have he := ok_some he
        exact ⟨rfl, _, _, (leads_ren [(900, 4), (901, 21901)] (l := [(4, .c (.ptr 900 0)), (5, .c (.bool r9_))]) (st' := [(900, .rc [.own 901 false, .int .i64 r6_.1]), (901, .sl 155 y1_ r6_.2 .shallow)]) rfl rfl ⟨⟨⟨⟨rfl, rfl⟩, trivial⟩, rfl, trivial⟩, ⟨rfl, rfl⟩, trivial⟩ ⟨⟨⟨rfl, rfl⟩, rfl⟩, .inl rfl, trivial⟩), he⟩
      ·skip
       refine And.intro ?_ trivial
       refine And.intro ?_ trivial
       refine ⟨r8_, hq1, ?_⟩
       refine And.intro ?_ trivial
       refine ⟨r9_, hq2, ?_⟩
       refine And.intro ?_ trivial
       have he := ok_some he
       exact ⟨rfl, _, _, (leads_ren [(900, 4), (901, 21901)] (l := [(4, .c (.ptr 900 0)), (5, .c (.bool r9_))]) (st' := [(900, .rc [.own 901 false, .int .i64 r6_.1]), (901, .sl 155 y1_ r6_.2 .shallow)]) rfl rfl ⟨⟨⟨⟨rfl, rfl⟩, trivial⟩, rfl, trivial⟩, ⟨rfl, rfl⟩, trivial⟩ ⟨⟨⟨rfl, rfl⟩, rfl⟩, .inl rfl, trivial⟩), he⟩
     ·refine And.intro ?_ (And.intro ?_ (trivial))
      ·skip
       refine And.intro ?_ (And.intro ?_ (trivial))
       ·skip
        refine And.intro ?_ trivial
        refine And.intro ?_ trivial
        refine And.intro ?_ trivial
        have he := ok_some he
        exact ⟨rfl, _, _, (leads_ren [(900, 4), (901, 21901)] (l := [(4, .c (.ptr 900 0)), (5, .c (.bool false))]) (st' := [(900, .rc [.own 901 false, .int .i64 r6_.1]), (901, .sl 155 y1_ r6_.2 .shallow)]) rfl rfl ⟨⟨⟨⟨rfl, rfl⟩, trivial⟩, rfl, trivial⟩, ⟨rfl, rfl⟩, trivial⟩ ⟨⟨⟨rfl, rfl⟩, rfl⟩, .inr rfl, trivial⟩), he⟩
       ·skip
        refine And.intro ?_ trivial
        refine And.intro ?_ trivial
        refine And.intro ?_ trivial
        have he := ok_some he
        exact ⟨rfl, _, _, (leads_ren [(900, 4), (901, 21901)] (l := [(4, .c (.ptr 900 0)), (5, .c (.bool false))]) (st' := [(900, .rc [.own 901 false, .int .i64 r6_.1]), (901, .sl 155 y1_ r6_.2 .shallow)]) rfl rfl ⟨⟨⟨⟨rfl, rfl⟩, trivial⟩, rfl, trivial⟩, ⟨rfl, rfl⟩, trivial⟩ ⟨⟨⟨rfl, rfl⟩, rfl⟩, .inr rfl, trivial⟩), he⟩
      ·skip
       refine And.intro ?_ trivial
       refine And.intro ?_ trivial
       refine And.intro ?_ trivial
       refine And.intro ?_ trivial
       have he := ok_some he
       exact ⟨rfl, _, _, (leads_ren [(900, 4), (901, 21901)] (l := [(4, .c (.ptr 900 0)), (5, .c (.bool false))]) (st' := [(900, .rc [.own 901 false, .int .i64 r6_.1]), (901, .sl 155 y1_ r6_.2 .shallow)]) rfl rfl ⟨⟨⟨⟨rfl, rfl⟩, trivial⟩, rfl, trivial⟩, ⟨rfl, rfl⟩, trivial⟩ ⟨⟨⟨rfl, rfl⟩, rfl⟩, .inr rfl, trivial⟩), he⟩
   ·skip
    refine And.intro ?_ trivial
    refine And.intro ?_ trivial
    refine ⟨r6_, hq1, ?_⟩
    refine And.intro ?_ trivial
    refine ⟨r7_, hq2, ?_⟩
    refine go_if he (fun he => ?_) fun he => ?_
    ·obtain ⟨r8_, hq1, he⟩ := ok_bind he
     obtain ⟨r9_, hq2, he⟩ := ok_bind he
     refine And.intro ?_ (And.intro ?_ (trivial))
     ·skip
      refine And.intro ?_ (And.intro ?_ (trivial))
      ·skip
       refine ⟨r8_, hq1, ?_⟩
       refine And.intro ?_ trivial
       refine And.intro ?_ trivial
       refine ⟨r9_, hq2, ?_⟩
       refine And.intro ?_ trivial
       have he := ok_some he
       exact ⟨rfl, _, _, (leads_ren [(900, 4), (901, 21901)] (l := [(4, .c (.ptr 900 0)), (5, .c (.bool r9_))]) (st' := [(900, .rc [.own 901 false, .int .i64 r6_.1]), (901, .sl 155 y1_ r6_.2 .shallow)]) rfl rfl ⟨⟨⟨⟨rfl, rfl⟩, trivial⟩, rfl, trivial⟩, ⟨rfl, rfl⟩, trivial⟩ ⟨⟨⟨rfl, rfl⟩, rfl⟩, .inl rfl, trivial⟩), he⟩
      ·skip
       refine And.intro ?_ trivial
       refine ⟨r8_, hq1, ?_⟩
       refine And.intro ?_ trivial
       refine ⟨r9_, hq2, ?_⟩
       refine And.intro ?_ trivial
       have he := ok_some he
       exact ⟨rfl, _, _, (leads_ren [(900, 4), (901, 21901)] (l := [(4, .c (.ptr 900 0)), (5, .c (.bool r9_))]) (st' := [(900, .rc [.own 901 false, .int .i64 r6_.1]), (901, .sl 155 y1_ r6_.2 .shallow)]) rfl rfl ⟨⟨⟨⟨rfl, rfl⟩, trivial⟩, rfl, trivial⟩, ⟨rfl, rfl⟩, trivial⟩ ⟨⟨⟨rfl, rfl⟩, rfl⟩, .inl rfl, trivial⟩), he⟩
     ·skip
      refine And.intro ?_ trivial
      refine And.intro ?_ trivial
      refine ⟨r8_, hq1, ?_⟩
      refine And.intro ?_ trivial
      refine ⟨r9_, hq2, ?_⟩
      refine And.intro ?_ trivial
      have he := ok_some he
      exact ⟨rfl, _, _, (leads_ren [(900, 4), (901, 21901)] (l := [(4, .c (.ptr 900 0)), (5, .c (.bool r9_))]) (st' := [(900, .rc [.own 901 false, .int .i64 r6_.1]), (901, .sl 155 y1_ r6_.2 .shallow)]) rfl rfl ⟨⟨⟨⟨rfl, rfl⟩, trivial⟩, rfl, trivial⟩, ⟨rfl, rfl⟩, trivial⟩ ⟨⟨⟨rfl, rfl⟩, rfl⟩, .inl rfl, trivial⟩), he⟩
    ·refine And.intro ?_ (And.intro ?_ (trivial))
     ·skip
      refine And.intro ?_ (And.intro ?_ (trivial))
      ·skip
       refine And.intro ?_ trivial
       refine And.intro ?_ trivial
       refine And.intro ?_ trivial
       have he := ok_some he
       exact ⟨rfl, _, _, (leads_ren [(900, 4), (901, 21901)] (l := [(4, .c (.ptr 900 0)), (5, .c (.bool false))]) (st' := [(900, .rc [.own 901 false, .int .i64 r6_.1]), (901, .sl 155 y1_ r6_.2 .shallow)]) rfl rfl ⟨⟨⟨⟨rfl, rfl⟩, trivial⟩, rfl, trivial⟩, ⟨rfl, rfl⟩, trivial⟩ ⟨⟨⟨rfl, rfl⟩, rfl⟩, .inr rfl, trivial⟩), he⟩
      ·skip
       refine And.intro ?_ trivial
       refine And.intro ?_ trivial
       refine And.intro ?_ trivial
       have he := ok_some he
       exact ⟨rfl, _, _, (leads_ren [(900, 4), (901, 21901)] (l := [(4, .c (.ptr 900 0)), (5, .c (.bool false))]) (st' := [(900, .rc [.own 901 false, .int .i64 r6_.1]), (901, .sl 155 y1_ r6_.2 .shallow)]) rfl rfl ⟨⟨⟨⟨rfl, rfl⟩, trivial⟩, rfl, trivial⟩, ⟨rfl, rfl⟩, trivial⟩ ⟨⟨⟨rfl, rfl⟩, rfl⟩, .inr rfl, trivial⟩), he⟩
     ·skip
      refine And.intro ?_ trivial
      refine And.intro ?_ trivial
      refine And.intro ?_ trivial
      refine And.intro ?_ trivial
      have he := ok_some he
      exact ⟨rfl, _, _, (leads_ren [(900, 4), (901, 21901)] (l := [(4, .c (.ptr 900 0)), (5, .c (.bool false))]) (st' := [(900, .rc [.own 901 false, .int .i64 r6_.1]), (901, .sl 155 y1_ r6_.2 .shallow)]) rfl rfl ⟨⟨⟨⟨rfl, rfl⟩, trivial⟩, rfl, trivial⟩, ⟨rfl, rfl⟩, trivial⟩ ⟨⟨⟨rfl, rfl⟩, rfl⟩, .inr rfl, trivial⟩), he⟩
  ·refine go_bind he fun r10_ he => ?_
   refine go_if he (fun he => ?_) fun he => ?_
   ·have he := ok_some he
    exact ⟨rfl, _, _, (leads_ren [(900, 4)] (l := [(4, .c (.ptr 900 0)), (5, .c (.bool false))]) (st' := [(900, .rc [.own 901 false, .int .i64 (0:Int)]), (901, .sl 155 y1_ ([] : List D1_) .shallow)]) rfl rfl ⟨⟨⟨rfl, trivial⟩, rfl, trivial⟩, trivial, trivial⟩ ⟨⟨⟨rfl, rfl⟩, rfl⟩, .inr rfl, trivial⟩), he⟩
   ·refine go_rq he fun he => ?_
    refine go_if he (fun he => ?_) fun he => ?_
    ·refine go_bind he fun r11_ he => ?_
     refine go_if he (fun he => ?_) fun he => ?_
     ·have he := ok_some he
      exact ⟨rfl, _, _, (leads_ren [(900, 4)] (l := [(4, .c (.ptr 900 0)), (5, .c (.bool false))]) (st' := [(900, .rc [.own 901 false, .int .i64 (0:Int)]), (901, .sl 155 y1_ ([] : List D1_) .shallow)]) rfl rfl ⟨⟨⟨rfl, trivial⟩, rfl, trivial⟩, trivial, trivial⟩ ⟨⟨⟨rfl, rfl⟩, rfl⟩, .inr rfl, trivial⟩), he⟩
     ·refine And.intro (by kernel_rfl) ?_
      have he := ok_rq he
      have hq1 := he.1
      have he := he.2
      obtain ⟨r13_, hq2, he⟩ := ok_bind he
      refine And.intro ?_ (And.intro ?_ (And.intro ?_ (trivial)))
      ·skip
       refine And.intro ?_ (And.intro ?_ (trivial))
       ·skip
        refine And.intro ?_ trivial
        refine And.intro hq1 ?_
        refine And.intro ?_ trivial
        refine ⟨r13_, hq2, ?_⟩
        refine And.intro ?_ trivial
        have he := ok_some he
        exact ⟨rfl, _, _, (leads_ren [(900, 4), (901, 61901)] (l := [(4, .c (.ptr 900 0)), (5, .c (.bool r13_.1))]) (st' := [(900, .rc [.own 901 false, .int .i64 r13_.2.1]), (901, .sl 155 y1_ r13_.2.2 .shallow)]) rfl rfl ⟨⟨⟨⟨rfl, rfl⟩, trivial⟩, rfl, trivial⟩, ⟨rfl, rfl⟩, trivial⟩ ⟨⟨⟨rfl, rfl⟩, rfl⟩, .inl rfl, trivial⟩), he⟩
       ·skip
        refine And.intro ?_ trivial
        refine And.intro hq1 ?_
        refine And.intro ?_ trivial
        refine ⟨r13_, hq2, ?_⟩
        refine And.intro ?_ trivial
        have he := ok_some he
        exact ⟨rfl, _, _, (leads_ren [(900, 4), (901, 61901)] (l := [(4, .c (.ptr 900 0)), (5, .c (.bool r13_.1))]) (st' := [(900, .rc [.own 901 false, .int .i64 r13_.2.1]), (901, .sl 155 y1_ r13_.2.2 .shallow)]) rfl rfl ⟨⟨⟨⟨rfl, rfl⟩, trivial⟩, rfl, trivial⟩, ⟨rfl, rfl⟩, trivial⟩ ⟨⟨⟨rfl, rfl⟩, rfl⟩, .inl rfl, trivial⟩), he⟩
      ·skip
       refine And.intro ?_ (And.intro ?_ (trivial))
       ·skip
        refine And.intro ?_ trivial
        refine And.intro hq1 ?_
        refine And.intro ?_ trivial
        refine ⟨r13_, hq2, ?_⟩
        refine And.intro ?_ trivial
        have he := ok_some he
        exact ⟨rfl, _, _, (leads_ren [(900, 4), (901, 61901)] (l := [(4, .c (.ptr 900 0)), (5, .c (.bool r13_.1))]) (st' := [(900, .rc [.own 901 false, .int .i64 r13_.2.1]), (901, .sl 155 y1_ r13_.2.2 .shallow)]) rfl rfl ⟨⟨⟨⟨rfl, rfl⟩, trivial⟩, rfl, trivial⟩, ⟨rfl, rfl⟩, trivial⟩ ⟨⟨⟨rfl, rfl⟩, rfl⟩, .inl rfl, trivial⟩), he⟩
       ·skip
        refine And.intro hq1 ?_
        refine And.intro ?_ trivial
        refine And.intro ?_ trivial
        refine ⟨r13_, hq2, ?_⟩
        refine And.intro ?_ trivial
        have he := ok_some he
        exact ⟨rfl, _, _, (leads_ren [(900, 4), (901, 61901)] (l := [(4, .c (.ptr 900 0)), (5, .c (.bool r13_.1))]) (st' := [(900, .rc [.own 901 false, .int .i64 r13_.2.1]), (901, .sl 155 y1_ r13_.2.2 .shallow)]) rfl rfl ⟨⟨⟨⟨rfl, rfl⟩, trivial⟩, rfl, trivial⟩, ⟨rfl, rfl⟩, trivial⟩ ⟨⟨⟨rfl, rfl⟩, rfl⟩, .inl rfl, trivial⟩), he⟩
      ·skip
       refine And.intro ?_ (And.intro ?_ (trivial))
       ·skip
        refine And.intro ?_ trivial
        refine And.intro hq1 ?_
        refine And.intro ?_ trivial
        refine ⟨r13_, hq2, ?_⟩
        refine And.intro ?_ trivial
        have he := ok_some he
        exact ⟨rfl, _, _, (leads_ren [(900, 4), (901, 61901)] (l := [(4, .c (.ptr 900 0)), (5, .c (.bool r13_.1))]) (st' := [(900, .rc [.own 901 false, .int .i64 r13_.2.1]), (901, .sl 155 y1_ r13_.2.2 .shallow)]) rfl rfl ⟨⟨⟨⟨rfl, rfl⟩, trivial⟩, rfl, trivial⟩, ⟨rfl, rfl⟩, trivial⟩ ⟨⟨⟨rfl, rfl⟩, rfl⟩, .inl rfl, trivial⟩), he⟩
       ·skip
        refine And.intro hq1 ?_
        refine And.intro ?_ trivial
        refine And.intro ?_ trivial
        refine ⟨r13_, hq2, ?_⟩
        refine And.intro ?_ trivial
        have he := ok_some he
        exact ⟨rfl, _, _, (leads_ren [(900, 4), (901, 61901)] (l := [(4, .c (.ptr 900 0)), (5, .c (.bool r13_.1))]) (st' := [(900, .rc [.own 901 false, .int .i64 r13_.2.1]), (901, .sl 155 y1_ r13_.2.2 .shallow)]) rfl rfl ⟨⟨⟨⟨rfl, rfl⟩, trivial⟩, rfl, trivial⟩, ⟨rfl, rfl⟩, trivial⟩ ⟨⟨⟨rfl, rfl⟩, rfl⟩, .inl rfl, trivial⟩), he⟩
    ·refine go_if he (fun he => ?_) fun he => ?_
     ·refine go_bind he fun r14_ he => ?_
      have he := ok_some he
      exact ⟨rfl, _, _, (leads_ren [(900, 4), (901, 69901)] (l := [(4, .c (.ptr 900 0)), (5, .c (.bool r14_.1))]) (st' := [(900, .rc [.own 901 false, .int .i64 r14_.2.1]), (901, .sl 155 y1_ r14_.2.2 .shallow)]) rfl rfl ⟨⟨⟨⟨rfl, rfl⟩, trivial⟩, rfl, trivial⟩, ⟨rfl, rfl⟩, trivial⟩ ⟨⟨⟨rfl, rfl⟩, rfl⟩, .inl rfl, trivial⟩), he⟩
     ·refine go_if he (fun he => ?_) fun he => ?_
      ·refine go_bind he fun r15_ he => ?_
       have he := ok_some he
       exact ⟨rfl, _, _, (leads_ren [(900, 4), (901, 77901)] (l := [(4, .c (.ptr 900 0)), (5, .c (.bool r15_.1))]) (st' := [(900, .rc [.own 901 false, .int .i64 r15_.2.1]), (901, .sl 155 y1_ r15_.2.2 .shallow)]) rfl rfl ⟨⟨⟨⟨rfl, rfl⟩, trivial⟩, rfl, trivial⟩, ⟨rfl, rfl⟩, trivial⟩ ⟨⟨⟨rfl, rfl⟩, rfl⟩, .inl rfl, trivial⟩), he⟩
      ·refine go_if he (fun he => ?_) fun he => ?_
       ·refine go_bind he fun r16_ he => ?_
        have he := ok_some he
        exact ⟨rfl, _, _, (leads_ren [(900, 4), (901, 83901)] (l := [(4, .c (.ptr 900 0)), (5, .c (.bool r16_.1))]) (st' := [(900, .rc [.own 901 false, .int .i64 r16_.2.1]), (901, .sl 155 y1_ r16_.2.2 .shallow)]) rfl rfl ⟨⟨⟨⟨rfl, rfl⟩, trivial⟩, rfl, trivial⟩, ⟨rfl, rfl⟩, trivial⟩ ⟨⟨⟨rfl, rfl⟩, rfl⟩, .inl rfl, trivial⟩), he⟩
       ·refine go_bind he fun r17_ he => ?_
        have he := ok_some he
        exact ⟨rfl, _, _, (leads_ren [(900, 4), (901, 89901)] (l := [(4, .c (.ptr 900 0)), (5, .c (.bool r17_.1))]) (st' := [(900, .rc [.own 901 false, .int .i64 r17_.2.1]), (901, .sl 155 y1_ r17_.2.2 .shallow)]) rfl rfl ⟨⟨⟨⟨rfl, rfl⟩, trivial⟩, rfl, trivial⟩, ⟨rfl, rfl⟩, trivial⟩ ⟨⟨⟨rfl, rfl⟩, rfl⟩, .inl rfl, trivial⟩), he⟩

noncomputable def c_spec_l4Run : Con := fun args st => match args, st with
  | [.c (.imm (.pair (.sl (.pair (.int .i64) (.int .i64))) (.int .i64)) a0), .c (.imm (.pair (.int .i64) (.pair (.int .i64) (.pair (.int .i64) (.pair (.sl (.pair (.int .i64) (.int .i64))) (.int .i64))))) a1)], [] => .opt (Int × (List D2_) × (List Bool)) (spec_l4Run a0 a1) (fun r => .ret (.tup [.agg [.own 901 false, .own 902 false], .c (.int .i64 r.1)]) [(900, .rc [.own 901 false, .own 902 false]), (901, .sl 89 y2_ r.2.1 .shallow), (902, .sl 4 .bool r.2.2 .shallow)])
  | _, _ => .fail

noncomputable def C_spec_l4Run : Cfg := { y := tys, n := 70, h := 0, tab := [(150, c_spec_l4Parts), (151, c_spec_l4Live), (152, c_spec_l4Derive)], cut := [2, 6], hand := [], good := [], deep := [], sched := [(1, (.first 1 (.first 3 (.first 4 (.alt 0 (.alt 2 (.alt 5 (.alt 6 (.alt 7 (.alt 8 .done .stop) .stop) (.alt 7 (.alt 6 (.alt 8 .done .stop) .stop) .stop)) (.alt 7 (.alt 5 (.alt 6 (.alt 8 .done .stop) .stop) .stop) .stop)) (.alt 5 (.alt 2 (.alt 6 (.alt 7 (.alt 8 .done .stop) .stop) (.alt 7 (.alt 6 (.alt 8 .done .stop) .stop) .stop)) (.alt 7 (.alt 2 (.alt 6 (.alt 8 .done .stop) .stop) .stop) .stop)) (.alt 7 (.alt 2 (.alt 5 (.alt 6 (.alt 8 .done .stop) .stop) .stop) (.alt 5 (.alt 2 (.alt 6 (.alt 8 .done .stop) .stop) .stop) .stop)) .stop))) (.alt 5 (.alt 0 (.alt 2 (.alt 6 (.alt 7 (.alt 8 .done .stop) .stop) (.alt 7 (.alt 6 (.alt 8 .done .stop) .stop) .stop)) (.alt 7 (.alt 2 (.alt 6 (.alt 8 .done .stop) .stop) .stop) .stop)) (.alt 7 (.alt 0 (.alt 2 (.alt 6 (.alt 8 .done .stop) .stop) .stop) .stop) .stop)) (.alt 7 (.alt 0 (.alt 2 (.alt 5 (.alt 6 (.alt 8 .done .stop) .stop) .stop) (.alt 5 (.alt 2 (.alt 6 (.alt 8 .done .stop) .stop) .stop) .stop)) (.alt 5 (.alt 0 (.alt 2 (.alt 6 (.alt 8 .done .stop) .stop) .stop) .stop) .stop)) .stop)))))))] }

theorem t_spec_l4Run : TabOk Tryz.prog C_spec_l4Run := by
  refine tabOk_of ?_
  simp only [C_spec_l4Run, List.forall_mem_cons]
  exact ⟨k_spec_l4Parts, k_spec_l4Live, k_spec_l4Derive, fun p h => by cases h⟩

theorem k_spec_l4Run : Entry Tryz.prog 90 c_spec_l4Run := by
 refine entry_by (C := C_spec_l4Run) mixed tys_ok t_spec_l4Run (fn := Tryz.f90) (c := bd Tryz.f90) (by kernel_rfl) (by kernel_rfl) (by kernel_rfl) (by kernel_rfl) ?_
 intro args st k he
 unfold c_spec_l4Run at he
 split at he
 rotate_left
 ·exact he.elim
 rename_i a0 a1
 have he : Ok (spec_l4Run a0 a1) (fun r => k (.tup [.agg [.own 901 false, .own 902 false], .c (.int .i64 r.1)]) [(900, .rc [.own 901 false, .own 902 false]), (901, .sl 89 y2_ r.2.1 .shallow), (902, .sl 4 .bool r.2.2 .shallow)]) := he
 refine ⟨rfl, rfl, ?_⟩
 refine seq_model mixed tys_ok t_spec_l4Run (S := Unit) (I := (fun _ => (envOf [(1, .c (.imm y5_ a1)), (4, .c (.ptr 10000000 0)), (6, .c (.ptr 10000001 0))], [(10000000, .rc [.nil, .nil]), (10000001, .rc [.own 10000002 false, .own 10000003 false]), (10000002, .sl 89 y2_ (([] : List D2_) ++ a0) .shallow), (10000003, .sl 4 .bool (List.replicate (a0.length:Int).toNat false) .shallow)]))) (B := fun s => Ok (spec_l4Run_j1 a0 a1 s) (fun r => k (.tup [.agg [.own 901 false, .own 902 false], .c (.int .i64 r.1)]) [(900, .rc [.own 901 false, .own 902 false]), (901, .sl 89 y2_ r.2.1 .shallow), (902, .sl 4 .bool r.2.2 .shallow)])) ?_ ?_
 ·rintro ⟨⟩ he
  refine loop_model mixed tys_ok t_spec_l4Run (S := Int × (List D2_) × (List Bool)) (I := (fun (i, i_0, i_1) => (envOf [(1, .c (.imm y5_ a1)), (4, .c (.ptr 10001000 0)), (6, .c (.ptr 10001001 0)), (7, .c (.int .i64 i))], [(10001000, .rc [.nil, .nil]), (10001001, .rc [.own 10001002 false, .own 10001003 false]), (10001002, .sl 89 y2_ i_0 .shallow), (10001003, .sl 4 .bool i_1 .shallow)]))) (f := spec_l4Run_l1 a1) (K := (fun r => k (.tup [.agg [.own 901 false, .own 902 false], .c (.int .i64 r.1)]) [(900, .rc [.own 901 false, .own 902 false]), (901, .sl 89 y2_ r.2.1 .shallow), (902, .sl 4 .bool r.2.2 .shallow)])) he (leads_ren [(10001000, 10000000), (10001001, 10000001), (10001002, 10000002), (10001003, 10000003)] rfl rfl ⟨⟨rfl, rfl, trivial⟩, ⟨⟨⟨rfl, rfl⟩, trivial⟩, ⟨⟨rfl, rfl⟩, trivial⟩, trivial⟩, ⟨rfl, rfl⟩, ⟨rfl, rfl⟩, trivial⟩ ⟨.inl rfl, ⟨⟨rfl, rfl⟩, rfl⟩, ⟨⟨rfl, rfl⟩, rfl⟩, rfl, trivial⟩) ?_
  rintro ⟨i, i_0, i_1⟩ J1 he
  refine go_if he (fun he => ?_) fun he => ?_
  ·refine seq_model mixed tys_ok t_spec_l4Run (S := Unit) (I := (fun _ => (envOf [(1, .c (.imm y5_ a1)), (4, .c (.ptr 10003000 0)), (6, .c (.ptr 10003001 0)), (7, .c (.int .i64 i)), (8, .c (.iptr y5_ (a1.getD i.toNat (0, (0, (0, ([], 0))))) 0))], [(10003000, .rc [.nil, .nil]), (10003001, .rc [.own 10003002 false, .own 10003003 false]), (10003002, .sl 89 y2_ i_0 .shallow), (10003003, .sl 4 .bool i_1 .shallow)]))) (B := fun s => Ok (spec_l4Run_j2 a1 i i_0 i_1 s) (LK J1 (fun r => k (.tup [.agg [.own 901 false, .own 902 false], .c (.int .i64 r.1)]) [(900, .rc [.own 901 false, .own 902 false]), (901, .sl 89 y2_ r.2.1 .shallow), (902, .sl 4 .bool r.2.2 .shallow)]))) ?_ ?_
   ·rintro ⟨⟩ he
    refine go_bind he fun r4_ he => ?_
    refine go_if he (fun he => ?_) fun he => ?_
    ·have he := ok_some he
     exact ⟨rfl, _, _, (leads_ren [(900, 10003000), (901, 10003002), (902, 10003003)] (l := [(4, .c (.ptr 900 0)), (5, .c (.int .i64 i))]) (st' := [(900, .rc [.own 901 false, .own 902 false]), (901, .sl 89 y2_ i_0 .shallow), (902, .sl 4 .bool i_1 .shallow)]) rfl rfl ⟨⟨⟨⟨rfl, rfl⟩, trivial⟩, ⟨⟨rfl, rfl⟩, trivial⟩, trivial⟩, ⟨rfl, rfl⟩, ⟨rfl, rfl⟩, trivial⟩ ⟨⟨⟨rfl, rfl⟩, rfl⟩, rfl, trivial⟩), he⟩
    ·refine go_if he (fun he => ?_) fun he => ?_
     ·refine go_bind he fun r5_ he => ?_
      refine go_if he (fun he => ?_) fun he => ?_
      ·have he := ok_some he
       exact ⟨rfl, _, _, (leads_ren [(900, 10003000), (901, 10003002), (902, 10003003)] (l := [(4, .c (.ptr 900 0)), (5, .c (.int .i64 i))]) (st' := [(900, .rc [.own 901 false, .own 902 false]), (901, .sl 89 y2_ i_0 .shallow), (902, .sl 4 .bool i_1 .shallow)]) rfl rfl ⟨⟨⟨⟨rfl, rfl⟩, trivial⟩, ⟨⟨rfl, rfl⟩, trivial⟩, trivial⟩, ⟨rfl, rfl⟩, ⟨rfl, rfl⟩, trivial⟩ ⟨⟨⟨rfl, rfl⟩, rfl⟩, rfl, trivial⟩), he⟩
      ·refine go_rq he fun he => ?_
       refine go_rq he fun he => ?_
       have he := ok_some he
       exact ⟨((i + (1:Int)), i_0, (i_1.set (a1.getD i.toNat (0, (0, (0, ([], 0))))).2.1.toNat true)), he, (leads_ren [(10001000, 10003000), (10001001, 10003001), (10001002, 10003002), (10001003, 10003003)] rfl rfl ⟨⟨rfl, rfl, trivial⟩, ⟨⟨⟨rfl, rfl⟩, trivial⟩, ⟨⟨rfl, rfl⟩, trivial⟩, trivial⟩, ⟨rfl, rfl⟩, ⟨rfl, rfl⟩, trivial⟩ ⟨.inl rfl, ⟨⟨rfl, rfl⟩, rfl⟩, ⟨⟨rfl, rfl⟩, rfl⟩, rfl, trivial⟩)⟩
     ·refine go_bind he fun r6_ he => ?_
      refine go_if he (fun he => ?_) fun he => ?_
      ·have he := ok_some he
       exact ⟨rfl, _, _, (leads_ren [(900, 10003000), (901, 10003002), (902, 10003003)] (l := [(4, .c (.ptr 900 0)), (5, .c (.int .i64 i))]) (st' := [(900, .rc [.own 901 false, .own 902 false]), (901, .sl 89 y2_ i_0 .shallow), (902, .sl 4 .bool i_1 .shallow)]) rfl rfl ⟨⟨⟨⟨rfl, rfl⟩, trivial⟩, ⟨⟨rfl, rfl⟩, trivial⟩, trivial⟩, ⟨rfl, rfl⟩, ⟨rfl, rfl⟩, trivial⟩ ⟨⟨⟨rfl, rfl⟩, rfl⟩, rfl, trivial⟩), he⟩
      ·refine go_rq he fun he => ?_
       refine go_rq he fun he => ?_
       refine go_rq he fun he => ?_
       have he := ok_some he
       exact ⟨((i + (1:Int)), (i_0 ++ [(r6_.2.2, r6_.2.1)]), (i_1 ++ [false])), he, (leads_ren [(10001000, 10003000), (10001001, 10003001), (10001002, 62), (10001003, 67)] rfl rfl ⟨⟨rfl, rfl, trivial⟩, ⟨⟨⟨rfl, rfl⟩, trivial⟩, ⟨⟨rfl, rfl⟩, trivial⟩, trivial⟩, ⟨rfl, rfl⟩, ⟨rfl, rfl⟩, trivial⟩ ⟨.inl rfl, ⟨⟨rfl, rfl⟩, rfl⟩, ⟨⟨rfl, rfl⟩, rfl⟩, rfl, trivial⟩)⟩
   ·skip
    refine go_rq he fun he => ?_
    exact ⟨(), he, (leads_ren [(10003000, 10001000), (10003001, 10001001), (10003002, 10001002), (10003003, 10001003)] rfl rfl ⟨⟨rfl, rfl, trivial⟩, ⟨⟨⟨rfl, rfl⟩, trivial⟩, ⟨⟨rfl, rfl⟩, trivial⟩, trivial⟩, ⟨rfl, rfl⟩, ⟨rfl, rfl⟩, trivial⟩ ⟨.inl rfl, ⟨⟨rfl, rfl⟩, rfl⟩, ⟨⟨rfl, rfl⟩, rfl⟩, rfl, .inr ⟨8, rfl, ⟨rfl, by repeat (first | exact trivial | refine And.intro trivial ?_)⟩, rfl⟩, trivial⟩)⟩
  ·have he := ok_some he
   exact ⟨rfl, _, _, (leads_ren [(900, 10001000), (901, 10001002), (902, 10001003)] (l := [(4, .c (.ptr 900 0)), (5, .c (.int .i64 (-1:Int)))]) (st' := [(900, .rc [.own 901 false, .own 902 false]), (901, .sl 89 y2_ i_0 .shallow), (902, .sl 4 .bool i_1 .shallow)]) rfl rfl ⟨⟨⟨⟨rfl, rfl⟩, trivial⟩, ⟨⟨rfl, rfl⟩, trivial⟩, trivial⟩, ⟨rfl, rfl⟩, ⟨rfl, rfl⟩, trivial⟩ ⟨⟨⟨rfl, rfl⟩, rfl⟩, rfl, trivial⟩), he⟩
 ·skip
  refine And.intro (by kernel_rfl) ?_
  have he := ok_rq he
  have hq1 := he.1
  have he := he.2
  have he := ok_rq he
  have hq2 := he.1
  have he := he.2
  refine And.intro ?_ (And.intro ?_ (And.intro ?_ (trivial)))
  ·skip
   refine And.intro ?_ (And.intro ?_ (And.intro ?_ (trivial)))
   ·skip
    refine And.intro hq1 ?_
    refine And.intro ?_ (And.intro ?_ (trivial))
    ·skip
     refine And.intro hq2 ?_
     refine And.intro ?_ (And.intro ?_ (trivial))
     ·skip
      refine And.intro ?_ trivial
      refine And.intro ?_ trivial
      exact ⟨(), he, (leads_ren [(10000000, 4), (10000001, 6), (10000002, 13), (10000003, 16)] rfl rfl ⟨⟨rfl, rfl, trivial⟩, ⟨⟨⟨rfl, rfl⟩, trivial⟩, ⟨⟨rfl, rfl⟩, trivial⟩, trivial⟩, ⟨rfl, rfl⟩, ⟨rfl, rfl⟩, trivial⟩ ⟨.inl rfl, ⟨⟨rfl, rfl⟩, rfl⟩, ⟨⟨rfl, rfl⟩, rfl⟩, trivial⟩)⟩
     ·skip
      refine And.intro ?_ trivial
      refine And.intro ?_ trivial
      exact ⟨(), he, (leads_ren [(10000000, 4), (10000001, 6), (10000002, 13), (10000003, 16)] rfl rfl ⟨⟨rfl, rfl, trivial⟩, ⟨⟨⟨rfl, rfl⟩, trivial⟩, ⟨⟨rfl, rfl⟩, trivial⟩, trivial⟩, ⟨rfl, rfl⟩, ⟨rfl, rfl⟩, trivial⟩ ⟨.inl rfl, ⟨⟨rfl, rfl⟩, rfl⟩, ⟨⟨rfl, rfl⟩, rfl⟩, trivial⟩)⟩
    ·skip
     refine And.intro ?_ trivial
     refine And.intro hq2 ?_
     refine And.intro ?_ trivial
     refine And.intro ?_ trivial
     exact ⟨(), he, (leads_ren [(10000000, 4), (10000001, 6), (10000002, 13), (10000003, 16)] rfl rfl ⟨⟨rfl, rfl, trivial⟩, ⟨⟨⟨rfl, rfl⟩, trivial⟩, ⟨⟨rfl, rfl⟩, trivial⟩, trivial⟩, ⟨rfl, rfl⟩, ⟨rfl, rfl⟩, trivial⟩ ⟨.inl rfl, ⟨⟨rfl, rfl⟩, rfl⟩, ⟨⟨rfl, rfl⟩, rfl⟩, trivial⟩)⟩
   ·skip
    refine And.intro hq2 ?_
    refine And.intro ?_ (And.intro ?_ (trivial))
    ·skip
     refine And.intro hq1 ?_
     refine And.intro ?_ (And.intro ?_ (trivial))
     ·skip
      refine And.intro ?_ trivial
      refine And.intro ?_ trivial
      exact ⟨(), he, (leads_ren [(10000000, 4), (10000001, 6), (10000002, 13), (10000003, 16)] rfl rfl ⟨⟨rfl, rfl, trivial⟩, ⟨⟨⟨rfl, rfl⟩, trivial⟩, ⟨⟨rfl, rfl⟩, trivial⟩, trivial⟩, ⟨rfl, rfl⟩, ⟨rfl, rfl⟩, trivial⟩ ⟨.inl rfl, ⟨⟨rfl, rfl⟩, rfl⟩, ⟨⟨rfl, rfl⟩, rfl⟩, trivial⟩)⟩
     ·skip
      refine And.intro ?_ trivial
      refine And.intro ?_ trivial
      exact ⟨(), he, (leads_ren [(10000000, 4), (10000001, 6), (10000002, 13), (10000003, 16)] rfl rfl ⟨⟨rfl, rfl, trivial⟩, ⟨⟨⟨rfl, rfl⟩, trivial⟩, ⟨⟨rfl, rfl⟩, trivial⟩, trivial⟩, ⟨rfl, rfl⟩, ⟨rfl, rfl⟩, trivial⟩ ⟨.inl rfl, ⟨⟨rfl, rfl⟩, rfl⟩, ⟨⟨rfl, rfl⟩, rfl⟩, trivial⟩)⟩
    ·skip
     refine And.intro ?_ trivial
     refine And.intro hq1 ?_
     refine And.intro ?_ trivial
     refine And.intro ?_ trivial
     exact ⟨(), he, (leads_ren [(10000000, 4), (10000001, 6), (10000002, 13), (10000003, 16)] rfl rfl ⟨⟨rfl, rfl, trivial⟩, ⟨⟨⟨rfl, rfl⟩, trivial⟩, ⟨⟨rfl, rfl⟩, trivial⟩, trivial⟩, ⟨rfl, rfl⟩, ⟨rfl, rfl⟩, trivial⟩ ⟨.inl rfl, ⟨⟨rfl, rfl⟩, rfl⟩, ⟨⟨rfl, rfl⟩, rfl⟩, trivial⟩)⟩
   ·skip
    refine And.intro ?_ (And.intro ?_ (trivial))
    ·skip
     refine And.intro hq1 ?_
     refine And.intro ?_ trivial
     refine And.intro hq2 ?_
     refine And.intro ?_ trivial
     refine And.intro ?_ trivial
     exact ⟨(), he, (leads_ren [(10000000, 4), (10000001, 6), (10000002, 13), (10000003, 16)] rfl rfl ⟨⟨rfl, rfl, trivial⟩, ⟨⟨⟨rfl, rfl⟩, trivial⟩, ⟨⟨rfl, rfl⟩, trivial⟩, trivial⟩, ⟨rfl, rfl⟩, ⟨rfl, rfl⟩, trivial⟩ ⟨.inl rfl, ⟨⟨rfl, rfl⟩, rfl⟩, ⟨⟨rfl, rfl⟩, rfl⟩, trivial⟩)⟩
    ·skip
     refine And.intro hq2 ?_
     refine And.intro ?_ trivial
     refine And.intro hq1 ?_
     refine And.intro ?_ trivial
     refine And.intro ?_ trivial
     exact ⟨(), he, (leads_ren [(10000000, 4), (10000001, 6), (10000002, 13), (10000003, 16)] rfl rfl ⟨⟨rfl, rfl, trivial⟩, ⟨⟨⟨rfl, rfl⟩, trivial⟩, ⟨⟨rfl, rfl⟩, trivial⟩, trivial⟩, ⟨rfl, rfl⟩, ⟨rfl, rfl⟩, trivial⟩ ⟨.inl rfl, ⟨⟨rfl, rfl⟩, rfl⟩, ⟨⟨rfl, rfl⟩, rfl⟩, trivial⟩)⟩
  ·skip
   refine And.intro hq2 ?_
   refine And.intro ?_ (And.intro ?_ (trivial))
   ·skip
    refine And.intro ?_ (And.intro ?_ (trivial))
    ·skip
     refine And.intro hq1 ?_
     refine And.intro ?_ (And.intro ?_ (trivial))
     ·skip
      refine And.intro ?_ trivial
      refine And.intro ?_ trivial
      exact ⟨(), he, (leads_ren [(10000000, 4), (10000001, 6), (10000002, 13), (10000003, 16)] rfl rfl ⟨⟨rfl, rfl, trivial⟩, ⟨⟨⟨rfl, rfl⟩, trivial⟩, ⟨⟨rfl, rfl⟩, trivial⟩, trivial⟩, ⟨rfl, rfl⟩, ⟨rfl, rfl⟩, trivial⟩ ⟨.inl rfl, ⟨⟨rfl, rfl⟩, rfl⟩, ⟨⟨rfl, rfl⟩, rfl⟩, trivial⟩)⟩
     ·skip
      refine And.intro ?_ trivial
      refine And.intro ?_ trivial
      exact ⟨(), he, (leads_ren [(10000000, 4), (10000001, 6), (10000002, 13), (10000003, 16)] rfl rfl ⟨⟨rfl, rfl, trivial⟩, ⟨⟨⟨rfl, rfl⟩, trivial⟩, ⟨⟨rfl, rfl⟩, trivial⟩, trivial⟩, ⟨rfl, rfl⟩, ⟨rfl, rfl⟩, trivial⟩ ⟨.inl rfl, ⟨⟨rfl, rfl⟩, rfl⟩, ⟨⟨rfl, rfl⟩, rfl⟩, trivial⟩)⟩
    ·skip
     refine And.intro ?_ trivial
     refine And.intro hq1 ?_
     refine And.intro ?_ trivial
     refine And.intro ?_ trivial
     exact ⟨(), he, (leads_ren [(10000000, 4), (10000001, 6), (10000002, 13), (10000003, 16)] rfl rfl ⟨⟨rfl, rfl, trivial⟩, ⟨⟨⟨rfl, rfl⟩, trivial⟩, ⟨⟨rfl, rfl⟩, trivial⟩, trivial⟩, ⟨rfl, rfl⟩, ⟨rfl, rfl⟩, trivial⟩ ⟨.inl rfl, ⟨⟨rfl, rfl⟩, rfl⟩, ⟨⟨rfl, rfl⟩, rfl⟩, trivial⟩)⟩
   ·skip
    refine And.intro ?_ trivial
    refine And.intro ?_ trivial
    refine And.intro hq1 ?_
    refine And.intro ?_ trivial
    refine And.intro ?_ trivial
    exact ⟨(), he, (leads_ren [(10000000, 4), (10000001, 6), (10000002, 13), (10000003, 16)] rfl rfl ⟨⟨rfl, rfl, trivial⟩, ⟨⟨⟨rfl, rfl⟩, trivial⟩, ⟨⟨rfl, rfl⟩, trivial⟩, trivial⟩, ⟨rfl, rfl⟩, ⟨rfl, rfl⟩, trivial⟩ ⟨.inl rfl, ⟨⟨rfl, rfl⟩, rfl⟩, ⟨⟨rfl, rfl⟩, rfl⟩, trivial⟩)⟩
  ·skip
   refine And.intro ?_ (And.intro ?_ (trivial))
   ·skip
    refine And.intro ?_ (And.intro ?_ (trivial))
    ·skip
     refine And.intro hq1 ?_
     refine And.intro ?_ trivial
     refine And.intro hq2 ?_
     refine And.intro ?_ trivial
     refine And.intro ?_ trivial
     exact ⟨(), he, (leads_ren [(10000000, 4), (10000001, 6), (10000002, 13), (10000003, 16)] rfl rfl ⟨⟨rfl, rfl, trivial⟩, ⟨⟨⟨rfl, rfl⟩, trivial⟩, ⟨⟨rfl, rfl⟩, trivial⟩, trivial⟩, ⟨rfl, rfl⟩, ⟨rfl, rfl⟩, trivial⟩ ⟨.inl rfl, ⟨⟨rfl, rfl⟩, rfl⟩, ⟨⟨rfl, rfl⟩, rfl⟩, trivial⟩)⟩
    ·skip
     refine And.intro hq2 ?_
     refine And.intro ?_ trivial
     refine And.intro hq1 ?_
     refine And.intro ?_ trivial
     refine And.intro ?_ trivial
     exact ⟨(), he, (leads_ren [(10000000, 4), (10000001, 6), (10000002, 13), (10000003, 16)] rfl rfl ⟨⟨rfl, rfl, trivial⟩, ⟨⟨⟨rfl, rfl⟩, trivial⟩, ⟨⟨rfl, rfl⟩, trivial⟩, trivial⟩, ⟨rfl, rfl⟩, ⟨rfl, rfl⟩, trivial⟩ ⟨.inl rfl, ⟨⟨rfl, rfl⟩, rfl⟩, ⟨⟨rfl, rfl⟩, rfl⟩, trivial⟩)⟩
   ·skip
    refine And.intro hq2 ?_
    refine And.intro ?_ trivial
    refine And.intro ?_ trivial
    refine And.intro hq1 ?_
    refine And.intro ?_ trivial
    refine And.intro ?_ trivial
    exact ⟨(), he, (leads_ren [(10000000, 4), (10000001, 6), (10000002, 13), (10000003, 16)] rfl rfl ⟨⟨rfl, rfl, trivial⟩, ⟨⟨⟨rfl, rfl⟩, trivial⟩, ⟨⟨rfl, rfl⟩, trivial⟩, trivial⟩, ⟨rfl, rfl⟩, ⟨rfl, rfl⟩, trivial⟩ ⟨.inl rfl, ⟨⟨rfl, rfl⟩, rfl⟩, ⟨⟨rfl, rfl⟩, rfl⟩, trivial⟩)⟩

end Go.AE.Y
