/-
  Walks: each function keeps the contract that its model gives. No conditions.
-/
import Derived.Test.YtlniniagobanpaaGreatR6ZTab
import Derived.Test.YtlniniagobanpaaGreatR6ZW1
import Derived.Test.YtlniniagobanpaaGreatR6ZS
namespace Go.AE.Y
open Go Go.AE Go.Proofs
set_option linter.unusedVariables false
set_option maxHeartbeats 2000000
set_option maxRecDepth 100000

noncomputable def c_spec_l3Propagate : Con := fun args st => match args, st with
  | [.c (.imm (.pair (.sl (.pair (.int .i64) (.int .i64))) (.int .i64)) list_), .c (.own 0 false)], [(0, .sl 3 (.int .i64) p .shallow)] => .opt (Int × (List Int)) (spec_l3Propagate list_ p) (fun r => .ret (.c (.int .i64 r.1)) [(0, .sl 3 y0_ r.2 .shallow)])
  | _, _ => .fail

noncomputable def C_spec_l3Propagate : Cfg := { y := tys, n := 42, h := 1, tab := [(58, c_spec_l3Assign), (80, c_spec_l3Slack), (81, c_spec_l3Implied)], cut := [], hand := [(58, [0])], good := [], deep := [], sched := [] }

theorem t_spec_l3Propagate : TabOk Tryz.prog C_spec_l3Propagate := by
  refine tabOk_of ?_
  simp only [C_spec_l3Propagate, List.forall_mem_cons]
  exact ⟨k_spec_l3Assign, k_spec_l3Slack, k_spec_l3Implied, fun p h => by cases h⟩

theorem k_spec_l3Propagate : Entry Tryz.prog 59 c_spec_l3Propagate := by
 refine entry_by (C := C_spec_l3Propagate) mixed tys_ok t_spec_l3Propagate (fn := Tryz.f59) (c := bd Tryz.f59) (by kernel_rfl) (by kernel_rfl) (by kernel_rfl) (by kernel_rfl) ?_
 intro args st k he
 unfold c_spec_l3Propagate at he
 split at he
 rotate_left
 ·exact he.elim
 rename_i list_ p
 have he : Ok (spec_l3Propagate list_ p) (fun r => k (.c (.int .i64 r.1)) [(0, .sl 3 y0_ r.2 .shallow)]) := he
 refine ⟨rfl, rfl, ?_⟩
 refine loop_model mixed tys_ok t_spec_l3Propagate (S := Bool × (List Int)) (I := (fun (changed, p4) => (envOf [(0, .c (.imm y2_ list_)), (1, .c (.own 0 false)), (5, .c (.bool changed))], [(0, .sl 3 y0_ p4 .shallow)]))) (f := spec_l3Propagate_l1 list_) (K := (fun r => k (.c (.int .i64 r.1)) [(0, .sl 3 y0_ r.2 .shallow)])) he (leads_ren [] rfl rfl ⟨⟨rfl, rfl⟩, trivial⟩ ⟨.inl rfl, ⟨⟨rfl, rfl⟩, trivial⟩, .inr rfl, trivial⟩) ?_
 rintro ⟨changed, p4⟩ J1 he
 refine go_if he (fun he => ?_) fun he => ?_
 ·refine loop_model mixed tys_ok t_spec_l3Propagate (S := Bool × Int × (List Int)) (I := (fun (changed4, i1, p6) => (envOf [(0, .c (.imm y2_ list_)), (1, .c (.own 0 false)), (5, .c (.bool changed4)), (6, .c (.int .i64 i1))], [(0, .sl 3 y0_ p6 .shallow)]))) (f := spec_l3Propagate_l2 list_) (K := (LK J1 (fun r => k (.c (.int .i64 r.1)) [(0, .sl 3 y0_ r.2 .shallow)]))) he (leads_ren [] rfl rfl ⟨⟨rfl, rfl⟩, trivial⟩ ⟨.inl rfl, ⟨⟨rfl, rfl⟩, trivial⟩, .inr rfl, rfl, trivial⟩) ?_
  rintro ⟨changed4, i1, p6⟩ J2 he
  refine go_if he (fun he => ?_) fun he => ?_
  ·refine go_rq he fun he => ?_
   refine go_bind he fun r13_ he => ?_
   refine go_if he (fun he => ?_) fun he => ?_
   ·have he := ok_some he
    exact ⟨rfl, _, _, (leads_ren [] (l := [(4, .c (.int .i64 i1))]) (st' := [(0, .sl 3 y0_ p6 .shallow)]) rfl rfl ⟨⟨rfl, rfl⟩, trivial⟩ ⟨rfl, trivial⟩), he⟩
   ·refine go_rq he fun he => ?_
    refine go_bind he fun r14_ he => ?_
    refine loop_model mixed tys_ok t_spec_l3Propagate (S := Bool × Int × (List Int)) (I := (fun (changed6, k_3, p7) => (envOf [(0, .c (.imm y2_ list_)), (1, .c (.own 0 false)), (5, .c (.bool changed6)), (6, .c (.int .i64 i1)), (7, .c (.own 10006000 false)), (8, .c (.int .i64 k_3))], [(0, .sl 3 y0_ p7 .shallow), (10006000, .sl 3 y0_ r14_ .shallow)]))) (f := spec_l3Propagate_l3 i1 r14_) (K := (LK J2 (LK J1 (fun r => k (.c (.int .i64 r.1)) [(0, .sl 3 y0_ r.2 .shallow)])))) he (leads_ren [(10006000, 30900)] rfl rfl ⟨⟨rfl, rfl⟩, ⟨rfl, rfl⟩, trivial⟩ ⟨.inl rfl, ⟨⟨rfl, rfl⟩, trivial⟩, .inl rfl, rfl, ⟨⟨rfl, rfl⟩, trivial⟩, rfl, trivial⟩) ?_
    rintro ⟨changed6, k_3, p7⟩ J3 he
    refine go_if he (fun he => ?_) fun he => ?_
    ·refine go_rq he fun he => ?_
     refine go_bind he fun r16_ he => ?_
     refine go_rq he fun he => ?_
     have he := ok_some he
     exact ⟨(true, (k_3 + (1:Int)), r16_), he, (leads_ren [] rfl rfl ⟨⟨rfl, rfl⟩, ⟨rfl, rfl⟩, trivial⟩ ⟨.inl rfl, ⟨⟨rfl, rfl⟩, trivial⟩, .inr rfl, rfl, ⟨⟨rfl, rfl⟩, trivial⟩, rfl, trivial⟩)⟩
    ·refine go_rq he fun he => ?_
     have he := ok_some he
     exact ⟨(changed6, (i1 + (1:Int)), p7), he, (leads_ren [] rfl rfl ⟨⟨rfl, rfl⟩, trivial⟩ ⟨.inl rfl, ⟨⟨rfl, rfl⟩, trivial⟩, .inl rfl, rfl, trivial⟩)⟩
  ·have he := ok_some he
   exact ⟨(changed4, p6), he, (leads_ren [] rfl rfl ⟨⟨rfl, rfl⟩, trivial⟩ ⟨.inl rfl, ⟨⟨rfl, rfl⟩, trivial⟩, .inl rfl, trivial⟩)⟩
 ·have he := ok_some he
  exact ⟨rfl, _, _, (leads_ren [] (l := [(4, .c (.int .i64 (-1:Int)))]) (st' := [(0, .sl 3 y0_ p4 .shallow)]) rfl rfl ⟨⟨rfl, rfl⟩, trivial⟩ ⟨rfl, trivial⟩), he⟩

noncomputable def c_spec_ClauseOf : Con := fun args st => match args, st with
  | [.c (.imm (.int .i64) a0)], [] => .opt (Bool × Int × (List D1_)) (spec_ClauseOf a0) (fun r => .ret (.tup [.agg [.own 901 false, .int .i64 r.2.1], .c (.bool r.1)]) [(900, .rc [.own 901 false, .int .i64 r.2.1]), (901, .sl 76 y1_ r.2.2 .shallow)])
  | _, _ => .fail

noncomputable def C_spec_ClauseOf : Cfg := { y := tys, n := 71, h := 0, tab := [(56, c_spec_l1Lit), (57, c_spec_l1Abs)], cut := [13], hand := [], good := [], deep := [], sched := [(18, (.first 0 (.first 2 (.first 3 (.first 4 (.alt 1 (.alt 5 (.alt 6 (.alt 7 (.alt 8 (.first 9 (.alt 10 .done .stop)) .stop) .stop) .stop) .stop) (.alt 5 (.alt 1 (.alt 6 (.alt 7 (.alt 8 (.first 9 (.alt 10 .done .stop)) .stop) .stop) .stop) (.alt 6 (.alt 1 (.alt 7 (.alt 8 (.first 9 (.alt 10 .done .stop)) .stop) .stop) (.alt 7 (.alt 1 (.alt 8 (.first 9 (.alt 10 .done .stop)) .stop) .stop) .stop)) .stop)) .stop)))))))] }

theorem t_spec_ClauseOf : TabOk Tryz.prog C_spec_ClauseOf := by
  refine tabOk_of ?_
  simp only [C_spec_ClauseOf, List.forall_mem_cons]
  exact ⟨k_spec_l1Lit, k_spec_l1Abs, fun p h => by cases h⟩

theorem k_spec_ClauseOf : Entry Tryz.prog 63 c_spec_ClauseOf := by
 refine entry_by (C := C_spec_ClauseOf) mixed tys_ok t_spec_ClauseOf (fn := Tryz.f63) (c := bd Tryz.f63) (by kernel_rfl) (by kernel_rfl) (by kernel_rfl) (by kernel_rfl) ?_
 intro args st k he
 unfold c_spec_ClauseOf at he
 split at he
 rotate_left
 ·exact he.elim
 rename_i a0
 have he : Ok (spec_ClauseOf a0) (fun r => k (.tup [.agg [.own 901 false, .int .i64 r.2.1], .c (.bool r.1)]) [(900, .rc [.own 901 false, .int .i64 r.2.1]), (901, .sl 76 y1_ r.2.2 .shallow)]) := he
 refine ⟨rfl, rfl, ?_⟩
 refine go_rq he fun he => ?_
 refine go_if he (fun he => ?_) fun he => ?_
 ·have he := ok_some he
  exact ⟨rfl, _, _, (leads_ren [(900, 2)] (l := [(2, .c (.ptr 900 0)), (3, .c (.bool false))]) (st' := [(900, .rc [.own 901 false, .int .i64 (0:Int)]), (901, .sl 76 y1_ ([] : List D1_) .shallow)]) rfl rfl ⟨⟨⟨rfl, trivial⟩, rfl, trivial⟩, trivial, trivial⟩ ⟨⟨⟨rfl, rfl⟩, rfl⟩, .inr rfl, trivial⟩), he⟩
 ·refine seq_model mixed tys_ok t_spec_ClauseOf (S := (List Int)) (I := (fun i2 => (envOf [(2, .c (.ptr 10001000 0)), (4, .c (.own 10001001 false))], [(10001000, .rc [.nil, .int .i64 (0:Int)]), (10001001, .sl 3 y0_ i2 .shallow)]))) (B := fun s => Ok (spec_ClauseOf_j1 s) (fun r => k (.tup [.agg [.own 901 false, .int .i64 r.2.1], .c (.bool r.1)]) [(900, .rc [.own 901 false, .int .i64 r.2.1]), (901, .sl 76 y1_ r.2.2 .shallow)])) ?_ ?_
  ·rintro i2 he
   refine loop_model mixed tys_ok t_spec_ClauseOf (S := Int × (List D1_)) (I := (fun (i3, i_0) => (envOf [(2, .c (.ptr 10002000 0)), (4, .c (.own 10002001 false)), (7, .c (.ptr 10002002 0)), (8, .c (.int .i64 i3))], [(10002000, .rc [.nil, .int .i64 (0:Int)]), (10002001, .sl 3 y0_ i2 .shallow), (10002002, .rc [.own 10002003 false, .int .i64 (1:Int)]), (10002003, .sl 76 y1_ i_0 .shallow)]))) (f := spec_ClauseOf_l1 i2) (K := (fun r => k (.tup [.agg [.own 901 false, .int .i64 r.2.1], .c (.bool r.1)]) [(900, .rc [.own 901 false, .int .i64 r.2.1]), (901, .sl 76 y1_ r.2.2 .shallow)])) he (leads_ren [(10002000, 10001000), (10002001, 10001001), (10002002, 7)] rfl rfl ⟨⟨rfl, rfl, trivial⟩, ⟨rfl, rfl⟩, ⟨⟨rfl, trivial⟩, rfl, trivial⟩, trivial, trivial⟩ ⟨⟨⟨rfl, rfl⟩, rfl⟩, ⟨⟨rfl, rfl⟩, trivial⟩, ⟨⟨rfl, rfl⟩, rfl⟩, rfl, trivial⟩) ?_
   rintro ⟨i3, i_0⟩ J1 he
   refine go_if he (fun he => ?_) fun he => ?_
   ·refine go_rq he fun he => ?_
    refine go_if he (fun he => ?_) fun he => ?_
    ·refine And.intro (by kernel_rfl) ?_
     refine go_rq he fun he => ?_
     have he := ok_rq he
     have hq1 := he.1
     have he := he.2
     refine And.intro ?_ (And.intro ?_ (trivial))
     ·skip
      refine And.intro ?_ trivial
      refine And.intro ?_ trivial
      refine And.intro ?_ trivial
      refine And.intro ?_ trivial
      refine And.intro hq1 ?_
      refine And.intro ?_ trivial
      refine go_rq he fun he => ?_
      have he := ok_some he
      exact ⟨((i3 + (1:Int)), (i_0 ++ [((1:Int), (i2.getD i3.toNat 0))])), he, (leads_ren [(10002003, 68)] rfl rfl ⟨⟨rfl, rfl, trivial⟩, ⟨rfl, rfl⟩, ⟨⟨⟨rfl, rfl⟩, trivial⟩, rfl, trivial⟩, ⟨rfl, rfl⟩, trivial⟩ ⟨⟨⟨rfl, rfl⟩, rfl⟩, ⟨⟨rfl, rfl⟩, trivial⟩, ⟨⟨rfl, rfl⟩, rfl⟩, rfl, trivial⟩)⟩
     ·skip
      refine And.intro ?_ (And.intro ?_ (trivial))
      ·skip
       refine And.intro ?_ trivial
       refine And.intro ?_ trivial
       refine And.intro ?_ trivial
       refine And.intro hq1 ?_
       refine And.intro ?_ trivial
       refine go_rq he fun he => ?_
       have he := ok_some he
       exact ⟨((i3 + (1:Int)), (i_0 ++ [((1:Int), (i2.getD i3.toNat 0))])), he, (leads_ren [(10002003, 68)] rfl rfl ⟨⟨rfl, rfl, trivial⟩, ⟨rfl, rfl⟩, ⟨⟨⟨rfl, rfl⟩, trivial⟩, rfl, trivial⟩, ⟨rfl, rfl⟩, trivial⟩ ⟨⟨⟨rfl, rfl⟩, rfl⟩, ⟨⟨rfl, rfl⟩, trivial⟩, ⟨⟨rfl, rfl⟩, rfl⟩, rfl, trivial⟩)⟩
      ·skip
       refine And.intro ?_ (And.intro ?_ (trivial))
       ·skip
        refine And.intro ?_ trivial
        refine And.intro ?_ trivial
        refine And.intro hq1 ?_
        refine And.intro ?_ trivial
        refine go_rq he fun he => ?_
        have he := ok_some he
        exact ⟨((i3 + (1:Int)), (i_0 ++ [((1:Int), (i2.getD i3.toNat 0))])), he, (leads_ren [(10002003, 68)] rfl rfl ⟨⟨rfl, rfl, trivial⟩, ⟨rfl, rfl⟩, ⟨⟨⟨rfl, rfl⟩, trivial⟩, rfl, trivial⟩, ⟨rfl, rfl⟩, trivial⟩ ⟨⟨⟨rfl, rfl⟩, rfl⟩, ⟨⟨rfl, rfl⟩, trivial⟩, ⟨⟨rfl, rfl⟩, rfl⟩, rfl, trivial⟩)⟩
       ·skip
        refine And.intro ?_ trivial
        refine And.intro ?_ trivial
        refine And.intro hq1 ?_
        refine And.intro ?_ trivial
        refine go_rq he fun he => ?_
        have he := ok_some he
        exact ⟨((i3 + (1:Int)), (i_0 ++ [((1:Int), (i2.getD i3.toNat 0))])), he, (leads_ren [(10002003, 68)] rfl rfl ⟨⟨rfl, rfl, trivial⟩, ⟨rfl, rfl⟩, ⟨⟨⟨rfl, rfl⟩, trivial⟩, rfl, trivial⟩, ⟨rfl, rfl⟩, trivial⟩ ⟨⟨⟨rfl, rfl⟩, rfl⟩, ⟨⟨rfl, rfl⟩, trivial⟩, ⟨⟨rfl, rfl⟩, rfl⟩, rfl, trivial⟩)⟩
    ·refine go_rq he fun he => ?_
     have he := ok_some he
     exact ⟨((i3 + (1:Int)), i_0), he, (leads_ren [] rfl rfl ⟨⟨rfl, rfl, trivial⟩, ⟨rfl, rfl⟩, ⟨⟨⟨rfl, rfl⟩, trivial⟩, rfl, trivial⟩, ⟨rfl, rfl⟩, trivial⟩ ⟨⟨⟨rfl, rfl⟩, rfl⟩, ⟨⟨rfl, rfl⟩, trivial⟩, ⟨⟨rfl, rfl⟩, rfl⟩, rfl, trivial⟩)⟩
   ·have he := ok_some he
    exact ⟨rfl, _, _, (leads_ren [(900, 10002000), (901, 10002003)] (l := [(2, .c (.ptr 900 0)), (3, .c (.bool true))]) (st' := [(900, .rc [.own 901 false, .int .i64 (1:Int)]), (901, .sl 76 y1_ i_0 .shallow)]) rfl rfl ⟨⟨⟨⟨rfl, rfl⟩, trivial⟩, rfl, trivial⟩, ⟨rfl, rfl⟩, trivial⟩ ⟨⟨⟨rfl, rfl⟩, rfl⟩, .inr rfl, trivial⟩), he⟩
  ·skip
   refine loop_model mixed tys_ok t_spec_ClauseOf (S := Int × (List Int)) (I := (fun (i, i1) => (envOf [(0, .c (.imm y0_ a0)), (2, .c (.ptr 10000000 0)), (4, .c (.own 10000001 false)), (5, .c (.int .i64 i))], [(10000000, .rc [.nil, .int .i64 (0:Int)]), (10000001, .sl 3 y0_ i1 .shallow)]))) (f := spec_ClauseOf_l2 a0) (K := (fun r => k (.tup [.agg [.own 901 false, .int .i64 r.2.1], .c (.bool r.1)]) [(900, .rc [.own 901 false, .int .i64 r.2.1]), (901, .sl 76 y1_ r.2.2 .shallow)])) he (leads_ren [(10000000, 2), (10000001, 9)] rfl rfl ⟨⟨rfl, rfl, trivial⟩, ⟨rfl, rfl⟩, trivial⟩ ⟨.inl rfl, ⟨⟨rfl, rfl⟩, rfl⟩, ⟨⟨rfl, rfl⟩, trivial⟩, rfl, trivial⟩) ?_
   rintro ⟨i, i1⟩ J1 he
   refine go_if he (fun he => ?_) fun he => ?_
   ·refine go_rq he fun he => ?_
    refine go_bind he fun r3_ he => ?_
    refine go_if he (fun he => ?_) fun he => ?_
    ·have he := ok_some he
     exact ⟨rfl, _, _, (leads_ren [(900, 10000000)] (l := [(2, .c (.ptr 900 0)), (3, .c (.bool false))]) (st' := [(900, .rc [.own 901 false, .int .i64 (0:Int)]), (901, .sl 76 y1_ ([] : List D1_) .shallow)]) rfl rfl ⟨⟨⟨rfl, trivial⟩, rfl, trivial⟩, trivial, trivial⟩ ⟨⟨⟨rfl, rfl⟩, rfl⟩, .inr rfl, trivial⟩), he⟩
    ·refine go_rq he fun he => ?_
     refine go_bind he fun r4_ he => ?_
     refine And.intro (by kernel_rfl) ?_
     refine go_rq he fun he => ?_
     refine go_rq he fun he => ?_
     refine go_rq he fun he => ?_
     refine go_if he (fun he => ?_) fun he => ?_
     ·have he := ok_some he
      exact ⟨rfl, _, _, (leads_ren [(900, 10000000)] (l := [(2, .c (.ptr 900 0)), (3, .c (.bool false))]) (st' := [(900, .rc [.own 901 false, .int .i64 (0:Int)]), (901, .sl 76 y1_ ([] : List D1_) .shallow)]) rfl rfl ⟨⟨⟨rfl, trivial⟩, rfl, trivial⟩, trivial, trivial⟩ ⟨⟨⟨rfl, rfl⟩, rfl⟩, .inr rfl, trivial⟩), he⟩
     ·refine go_rq he fun he => ?_
      refine go_rq he fun he => ?_
      refine go_rq he fun he => ?_
      have he := ok_some he
      exact ⟨((i + (1:Int)), (i1.set r4_.toNat (a0.getD i.toNat 0))), he, (leads_ren [] rfl rfl ⟨⟨rfl, rfl, trivial⟩, ⟨rfl, rfl⟩, trivial⟩ ⟨.inl rfl, ⟨⟨rfl, rfl⟩, rfl⟩, ⟨⟨rfl, rfl⟩, trivial⟩, rfl, trivial⟩)⟩
   ·exact ⟨i1, ok_up he, (leads_ren [(10001000, 10000000), (10001001, 10000001)] rfl rfl ⟨⟨rfl, rfl, trivial⟩, ⟨rfl, rfl⟩, trivial⟩ ⟨⟨⟨rfl, rfl⟩, rfl⟩, ⟨⟨rfl, rfl⟩, trivial⟩, trivial⟩)⟩

noncomputable def c_spec_l5Learn__ss : Con := fun args st => match args, st with
  | [.agg [.own 0 false, .own 1 false, .int .i64 s_2], .c (.imm (.int .i64) decisions)], [(0, .sl 56 (.pair (.sl (.pair (.int .i64) (.int .i64))) (.int .i64)) o0 .shallow), (1, .sl 65 (.pair (.int .i64) (.pair (.int .i64) (.pair (.int .i64) (.pair (.sl (.pair (.int .i64) (.int .i64))) (.int .i64))))) o1 .shallow)] => .opt (Int × (List D2_) × (List D5_)) (spec_l5Learn__ss s_2 decisions o0 o1) (fun r => .ret (.agg [.own 901 false, .own 902 false, .int .i64 r.1]) [(0, .dead), (1, .dead), (900, .rc [.own 901 false, .own 902 false, .int .i64 r.1]), (901, .sl 56 y2_ r.2.1 .shallow), (902, .sl 65 y5_ r.2.2 .shallow)])
  | _, _ => .fail

noncomputable def C_spec_l5Learn__ss : Cfg := { y := tys, n := 43, h := 2, tab := [(63, c_spec_ClauseOf)], cut := [6], hand := [], good := [], deep := [], sched := [] }

theorem t_spec_l5Learn__ss : TabOk Tryz.prog C_spec_l5Learn__ss := by
  refine tabOk_of ?_
  simp only [C_spec_l5Learn__ss, List.forall_mem_cons]
  exact ⟨k_spec_ClauseOf, fun p h => by cases h⟩

theorem k_spec_l5Learn__ss : Entry Tryz.prog 60 c_spec_l5Learn__ss := by
 refine entry_by (C := C_spec_l5Learn__ss) mixed tys_ok t_spec_l5Learn__ss (fn := Tryz.f60) (c := bd Tryz.f60) (by kernel_rfl) (by kernel_rfl) (by kernel_rfl) (by kernel_rfl) ?_
 intro args st k he
 unfold c_spec_l5Learn__ss at he
 split at he
 rotate_left
 ·exact he.elim
 rename_i s_2 decisions o0 o1
 have he : Ok (spec_l5Learn__ss s_2 decisions o0 o1) (fun r => k (.agg [.own 901 false, .own 902 false, .int .i64 r.1]) [(0, .dead), (1, .dead), (900, .rc [.own 901 false, .own 902 false, .int .i64 r.1]), (901, .sl 56 y2_ r.2.1 .shallow), (902, .sl 65 y5_ r.2.2 .shallow)]) := he
 refine ⟨rfl, rfl, ?_⟩
 refine seq_model mixed tys_ok t_spec_l5Learn__ss (S := (List Int)) (I := (fun lits1 => (envOf [(2, .c (.ptr 10001000 0)), (4, .c (.ptr 10001001 0)), (5, .c (.own 10001002 false))], [(0, .sl 56 y2_ o0 .shallow), (1, .sl 65 y5_ o1 .shallow), (10001000, .rc [.own 0 false, .own 1 false, .int .i64 s_2]), (10001001, .rc [.nil, .nil, .int .i64 (0:Int)]), (10001002, .sl 3 y0_ lits1 .shallow)]))) (B := fun s => Ok (spec_l5Learn__ss_j1 s_2 o0 o1 s) (fun r => k (.agg [.own 901 false, .own 902 false, .int .i64 r.1]) [(0, .dead), (1, .dead), (900, .rc [.own 901 false, .own 902 false, .int .i64 r.1]), (901, .sl 56 y2_ r.2.1 .shallow), (902, .sl 65 y5_ r.2.2 .shallow)])) ?_ ?_
 ·rintro lits1 he
  refine go_bind he fun r1_ he => ?_
  refine go_rq he fun he => ?_
  refine go_rq he fun he => ?_
  have he := ok_some he
  exact ⟨rfl, _, _, (leads_ren [(900, 10001001), (901, 33), (902, 40)] (l := [(4, .c (.ptr 900 0))]) (st' := [(0, .dead), (1, .dead), (900, .rc [.own 901 false, .own 902 false, .int .i64 s_2]), (901, .sl 56 y2_ (o0 ++ [(r1_.2.2, r1_.2.1)]) .shallow), (902, .sl 65 y5_ (o1 ++ [((7:Int), ((0:Int), ((0:Int), (r1_.2.2, r1_.2.1))))]) .shallow)]) rfl rfl ⟨trivial, trivial, ⟨⟨⟨rfl, rfl⟩, trivial⟩, ⟨⟨rfl, rfl⟩, trivial⟩, rfl, trivial⟩, ⟨rfl, rfl⟩, ⟨rfl, rfl⟩, trivial⟩ ⟨⟨⟨rfl, rfl⟩, rfl⟩, trivial⟩), he⟩
 ·skip
  refine loop_model mixed tys_ok t_spec_l5Learn__ss (S := Int × (List Int)) (I := (fun (i, lits) => (envOf [(1, .c (.imm y0_ decisions)), (2, .c (.ptr 10000000 0)), (4, .c (.ptr 10000001 0)), (5, .c (.own 10000002 false)), (6, .c (.int .i64 i))], [(0, .sl 56 y2_ o0 .shallow), (1, .sl 65 y5_ o1 .shallow), (10000000, .rc [.own 0 false, .own 1 false, .int .i64 s_2]), (10000001, .rc [.nil, .nil, .int .i64 (0:Int)]), (10000002, .sl 3 y0_ lits .shallow)]))) (f := spec_l5Learn__ss_l1 s_2 decisions o0 o1) (K := (fun r => k (.agg [.own 901 false, .own 902 false, .int .i64 r.1]) [(0, .dead), (1, .dead), (900, .rc [.own 901 false, .own 902 false, .int .i64 r.1]), (901, .sl 56 y2_ r.2.1 .shallow), (902, .sl 65 y5_ r.2.2 .shallow)])) he (leads_ren [(10000000, 2), (10000001, 4), (10000002, 9)] rfl rfl ⟨⟨rfl, rfl⟩, ⟨rfl, rfl⟩, ⟨⟨⟨rfl, rfl⟩, trivial⟩, ⟨⟨rfl, rfl⟩, trivial⟩, rfl, trivial⟩, ⟨rfl, rfl, rfl, trivial⟩, ⟨rfl, rfl⟩, trivial⟩ ⟨.inl rfl, ⟨⟨rfl, rfl⟩, rfl⟩, ⟨⟨rfl, rfl⟩, rfl⟩, ⟨⟨rfl, rfl⟩, trivial⟩, rfl, trivial⟩) ?_
  rintro ⟨i, lits⟩ J1 he
  refine go_if he (fun he => ?_) fun he => ?_
  ·refine go_rq he fun he => ?_
   refine go_rq he fun he => ?_
   refine go_rq he fun he => ?_
   refine go_rq he fun he => ?_
   have he := ok_some he
   exact ⟨((i + (1:Int)), (lits ++ [(0 - (decisions.getD i.toNat 0))])), he, (leads_ren [(10000002, 23)] rfl rfl ⟨⟨rfl, rfl⟩, ⟨rfl, rfl⟩, ⟨⟨⟨rfl, rfl⟩, trivial⟩, ⟨⟨rfl, rfl⟩, trivial⟩, rfl, trivial⟩, ⟨rfl, rfl, rfl, trivial⟩, ⟨rfl, rfl⟩, trivial⟩ ⟨.inl rfl, ⟨⟨rfl, rfl⟩, rfl⟩, ⟨⟨rfl, rfl⟩, rfl⟩, ⟨⟨rfl, rfl⟩, trivial⟩, rfl, trivial⟩)⟩
  ·exact ⟨lits, ok_up he, (leads_ren [(10001000, 10000000), (10001001, 10000001), (10001002, 10000002)] rfl rfl ⟨⟨rfl, rfl⟩, ⟨rfl, rfl⟩, ⟨⟨⟨rfl, rfl⟩, trivial⟩, ⟨⟨rfl, rfl⟩, trivial⟩, rfl, trivial⟩, ⟨rfl, rfl, rfl, trivial⟩, ⟨rfl, rfl⟩, trivial⟩ ⟨⟨⟨rfl, rfl⟩, rfl⟩, ⟨⟨rfl, rfl⟩, rfl⟩, ⟨⟨rfl, rfl⟩, trivial⟩, trivial⟩)⟩

noncomputable def c_spec_l5Free : Con := fun args st => match args, st with
  | [.c (.imm (.int .i64) p)], [] => .opt (Int) (spec_l5Free p) (fun r => .ret (.c (.int .i64 r)) [])
  | _, _ => .fail

noncomputable def C_spec_l5Free : Cfg := { y := tys, n := 17, h := 0, tab := [], cut := [], hand := [], good := [], deep := [], sched := [] }

theorem t_spec_l5Free : TabOk Tryz.prog C_spec_l5Free := tabOk_of (fun p h => by cases h)

theorem k_spec_l5Free : Entry Tryz.prog 61 c_spec_l5Free := by
 refine entry_by (C := C_spec_l5Free) mixed tys_ok t_spec_l5Free (fn := Tryz.f61) (c := bd Tryz.f61) (by kernel_rfl) (by kernel_rfl) (by kernel_rfl) (by kernel_rfl) ?_
 intro args st k he
 unfold c_spec_l5Free at he
 split at he
 rotate_left
 ·exact he.elim
 rename_i p
 have he : Ok (spec_l5Free p) (fun r => k (.c (.int .i64 r)) []) := he
 refine ⟨rfl, rfl, ?_⟩
 refine loop_model mixed tys_ok t_spec_l5Free (S := Int) (I := (fun i => (envOf [(0, .c (.imm y0_ p)), (3, .c (.int .i64 i))], []))) (f := spec_l5Free_l1 p) (K := (fun r => k (.c (.int .i64 r)) [])) he (leads_ren [] rfl rfl trivial ⟨.inl rfl, rfl, trivial⟩) ?_
 rintro i J1 he
 refine go_if he (fun he => ?_) fun he => ?_
 ·refine go_rq he fun he => ?_
  refine go_if he (fun he => ?_) fun he => ?_
  ·refine go_rq he fun he => ?_
   have he := ok_some he
   exact ⟨rfl, _, _, Leads.refl _ _, he⟩
  ·refine go_rq he fun he => ?_
   have he := ok_some he
   exact ⟨(i + (1:Int)), he, (leads_ren [] rfl rfl trivial ⟨.inl rfl, rfl, trivial⟩)⟩
 ·have he := ok_some he
  exact ⟨rfl, _, _, Leads.refl _ _, he⟩

noncomputable def c_spec_l5Search__ss (n_ : Nat) : Con := fun args st => match args, st with
  | [.agg [.own 0 false, .own 1 false, .int .i64 a0_2], .c (.imm (.int .i64) a1)], [(0, .sl 56 (.pair (.sl (.pair (.int .i64) (.int .i64))) (.int .i64)) o0 .shallow), (1, .sl 65 (.pair (.int .i64) (.pair (.int .i64) (.pair (.int .i64) (.pair (.sl (.pair (.int .i64) (.int .i64))) (.int .i64))))) o1 .shallow)] => .opt (Int × Int × (List Bool) × (List D2_) × (List D5_)) (spec_l5Search__ss n_ a0_2 a1 o0 o1) (fun r => .ret (.tup [.agg [.own 902 false, .own 903 false, .int .i64 r.2.1], .c (.int .i64 r.1), .c (.own 901 false)]) [(0, .dead), (1, .dead), (900, .rc [.own 902 false, .own 903 false, .int .i64 r.2.1]), (901, .sl 4 .bool r.2.2.1 .shallow), (902, .sl 56 y2_ r.2.2.2.1 .shallow), (903, .sl 65 y5_ r.2.2.2.2 .shallow)])
  | _, _ => .fail

noncomputable def C_spec_l5Search__ss (n_ : Nat) : Cfg := { y := tys, n := 112, h := 2, tab := [(39, c_spec_l5Search__ss n_), (58, c_spec_l3Assign), (59, c_spec_l3Propagate), (60, c_spec_l5Learn__ss), (61, c_spec_l5Free)], cut := [9, 18, 25, 28], hand := [(39, [0]), (58, [0]), (59, [1]), (60, [0])], good := [], deep := [], sched := [(24, (.first 2 (.first 4 (.alt 0 (.alt 1 (.alt 3 (.alt 5 (.alt 6 (.alt 7 (.first 8 (.first 9 (.first 10 (.first 11 (.alt 12 (.first 13 (.first 14 .done)) .stop))))) .stop) .stop) .stop) (.alt 5 (.alt 3 (.alt 6 (.alt 7 (.first 8 (.first 9 (.first 10 (.first 11 (.alt 12 (.first 13 (.first 14 .done)) .stop))))) .stop) .stop) .stop) .stop)) (.alt 5 (.alt 1 (.alt 3 (.alt 6 (.alt 7 (.first 8 (.first 9 (.first 10 (.first 11 (.alt 12 (.first 13 (.first 14 .done)) .stop))))) .stop) .stop) .stop) .stop) .stop)) (.alt 1 (.alt 0 (.alt 3 (.alt 5 (.alt 6 (.alt 7 (.first 8 (.first 9 (.first 10 (.first 11 (.alt 12 (.first 13 (.first 14 .done)) .stop))))) .stop) .stop) .stop) (.alt 5 (.alt 3 (.alt 6 (.alt 7 (.first 8 (.first 9 (.first 10 (.first 11 (.alt 12 (.first 13 (.first 14 .done)) .stop))))) .stop) .stop) .stop) .stop)) (.alt 3 (.alt 0 (.alt 5 (.alt 6 (.alt 7 (.first 8 (.first 9 (.first 10 (.first 11 (.alt 12 (.first 13 (.first 14 .done)) .stop))))) .stop) .stop) .stop) (.alt 5 (.alt 0 (.alt 6 (.alt 7 (.first 8 (.first 9 (.first 10 (.first 11 (.alt 12 (.first 13 (.first 14 .done)) .stop))))) .stop) .stop) (.alt 6 (.alt 0 (.alt 7 (.first 8 (.first 9 (.first 10 (.first 11 (.alt 12 (.first 13 (.first 14 .done)) .stop))))) .stop) .stop) .stop)) .stop)) (.alt 5 (.alt 0 (.alt 3 (.alt 6 (.alt 7 (.first 8 (.first 9 (.first 10 (.first 11 (.alt 12 (.first 13 (.first 14 .done)) .stop))))) .stop) .stop) .stop) (.alt 3 (.alt 0 (.alt 6 (.alt 7 (.first 8 (.first 9 (.first 10 (.first 11 (.alt 12 (.first 13 (.first 14 .done)) .stop))))) .stop) .stop) (.alt 6 (.alt 0 (.alt 7 (.first 8 (.first 9 (.first 10 (.first 11 (.alt 12 (.first 13 (.first 14 .done)) .stop))))) .stop) .stop) .stop)) .stop)) .stop))) (.alt 5 (.alt 0 (.alt 1 (.alt 3 (.alt 6 (.alt 7 (.first 8 (.first 9 (.first 10 (.first 11 (.alt 12 (.first 13 (.first 14 .done)) .stop))))) .stop) .stop) .stop) .stop) (.alt 1 (.alt 0 (.alt 3 (.alt 6 (.alt 7 (.first 8 (.first 9 (.first 10 (.first 11 (.alt 12 (.first 13 (.first 14 .done)) .stop))))) .stop) .stop) .stop) (.alt 3 (.alt 0 (.alt 6 (.alt 7 (.first 8 (.first 9 (.first 10 (.first 11 (.alt 12 (.first 13 (.first 14 .done)) .stop))))) .stop) .stop) (.alt 6 (.alt 0 (.alt 7 (.first 8 (.first 9 (.first 10 (.first 11 (.alt 12 (.first 13 (.first 14 .done)) .stop))))) .stop) .stop) .stop)) .stop)) .stop)) .stop))))))], nils := [39, 60] }

theorem t_spec_l5Search__ss (n_ : Nat) (ih : Entry Tryz.prog 39 (c_spec_l5Search__ss n_)) : TabOk Tryz.prog (C_spec_l5Search__ss n_) := by
  refine tabOk_of ?_
  simp only [C_spec_l5Search__ss, List.forall_mem_cons]
  exact ⟨ih, k_spec_l3Assign, k_spec_l3Propagate, k_spec_l5Learn__ss, k_spec_l5Free, fun p h => by cases h⟩

theorem k_spec_l5Search__ss_step (n_ : Nat) (ih : Entry Tryz.prog 39 (c_spec_l5Search__ss n_)) : Entry Tryz.prog 39 (c_spec_l5Search__ss (n_ + 1)) := by
 refine entry_by (C := (C_spec_l5Search__ss n_)) mixed tys_ok (t_spec_l5Search__ss n_ ih) (fn := Tryz.f39) (c := bd Tryz.f39) (by kernel_rfl) (by kernel_rfl) (by kernel_rfl) (by kernel_rfl) ?_
 intro args st k he
 unfold c_spec_l5Search__ss at he
 split at he
 rotate_left
 ·exact he.elim
 rename_i a0_2 a1 o0 o1
 have he : Ok (spec_l5Search__ss_rec (spec_l5Search__ss n_) a0_2 a1 o0 o1) (fun r => k (.tup [.agg [.own 902 false, .own 903 false, .int .i64 r.2.1], .c (.int .i64 r.1), .c (.own 901 false)]) [(0, .dead), (1, .dead), (900, .rc [.own 902 false, .own 903 false, .int .i64 r.2.1]), (901, .sl 4 .bool r.2.2.1 .shallow), (902, .sl 56 y2_ r.2.2.2.1 .shallow), (903, .sl 65 y5_ r.2.2.2.2 .shallow)]) := he
 refine ⟨rfl, rfl, ?_⟩
 refine go_if2 he (fun he => ?_) fun he => ?_
 ·refine go_if he (fun he => ?_) fun he => ?_
  ·have he := ok_some he
   exact ⟨rfl, _, _, (leads_ren [(900, 4), (901, 26), (902, 0), (903, 1)] (l := [(4, .c (.ptr 900 0)), (5, .c (.int .i64 (0:Int))), (6, .c (.own 901 false))]) (st' := [(0, .dead), (1, .dead), (900, .rc [.own 902 false, .own 903 false, .int .i64 a0_2]), (901, .sl 4 .bool ([] : List Bool) .shallow), (902, .sl 56 y2_ o0 .shallow), (903, .sl 65 y5_ o1 .shallow)]) rfl rfl ⟨trivial, trivial, ⟨⟨⟨rfl, rfl⟩, trivial⟩, ⟨⟨rfl, rfl⟩, trivial⟩, rfl, trivial⟩, ⟨rfl, rfl⟩, ⟨rfl, rfl⟩, ⟨rfl, rfl⟩, trivial⟩ ⟨⟨⟨rfl, rfl⟩, rfl⟩, rfl, ⟨⟨rfl, rfl⟩, trivial⟩, trivial⟩), he⟩
  ·refine go_rq he fun he => ?_
   refine go_rq he fun he => ?_
   refine seq_model mixed tys_ok (t_spec_l5Search__ss n_ ih) (S := (List Int)) (I := (fun i2 => (envOf [(1, .c (.imm y0_ a1)), (2, .c (.ptr 10001000 0)), (4, .c (.ptr 10001001 0)), (7, .c (.own 10001002 false))], [(0, .sl 56 y2_ o0 .shallow), (1, .sl 65 y5_ o1 .shallow), (10001000, .rc [.own 0 false, .own 1 false, .int .i64 (a0_2 - (1:Int))]), (10001001, .rc [.nil, .nil, .int .i64 (0:Int)]), (10001002, .sl 3 y0_ i2 .shallow)]))) (B := fun s => Ok (spec_l5Search__ss_j1 a0_2 a1 o0 o1 (spec_l5Search__ss n_) s) (fun r => k (.tup [.agg [.own 902 false, .own 903 false, .int .i64 r.2.1], .c (.int .i64 r.1), .c (.own 901 false)]) [(0, .dead), (1, .dead), (900, .rc [.own 902 false, .own 903 false, .int .i64 r.2.1]), (901, .sl 4 .bool r.2.2.1 .shallow), (902, .sl 56 y2_ r.2.2.2.1 .shallow), (903, .sl 65 y5_ r.2.2.2.2 .shallow)])) ?_ ?_
   ·rintro i2 he
    refine go_bind he fun r3_ he => ?_
    refine go_if he (fun he => ?_) fun he => ?_
    ·refine go_bind he fun r4_ he => ?_
     have he := ok_some he
     exact ⟨rfl, _, _, (leads_ren [(900, 10001001), (901, 52), (902, 52901), (903, 52902)] (l := [(4, .c (.ptr 900 0)), (5, .c (.int .i64 (2:Int))), (6, .c (.own 901 false))]) (st' := [(0, .dead), (1, .dead), (900, .rc [.own 902 false, .own 903 false, .int .i64 r4_.1]), (901, .sl 4 .bool ([] : List Bool) .shallow), (902, .sl 56 y2_ r4_.2.1 .shallow), (903, .sl 65 y5_ r4_.2.2 .shallow)]) rfl rfl ⟨trivial, trivial, ⟨⟨⟨rfl, rfl⟩, trivial⟩, ⟨⟨rfl, rfl⟩, trivial⟩, rfl, trivial⟩, ⟨rfl, rfl⟩, ⟨rfl, rfl⟩, ⟨rfl, rfl⟩, trivial⟩ ⟨⟨⟨rfl, rfl⟩, rfl⟩, rfl, ⟨⟨rfl, rfl⟩, trivial⟩, trivial⟩), he⟩
    ·refine go_bind he fun r5_ he => ?_
     refine go_if he (fun he => ?_) fun he => ?_
     ·refine seq_model mixed tys_ok (t_spec_l5Search__ss n_ ih) (S := (List Bool)) (I := (fun i5 => (envOf [(2, .c (.ptr 10003000 0)), (4, .c (.ptr 10003001 0)), (10, .c (.own 10003002 false))], [(0, .sl 56 y2_ o0 .shallow), (1, .sl 65 y5_ o1 .shallow), (10003000, .rc [.own 0 false, .own 1 false, .int .i64 (a0_2 - (1:Int))]), (10003001, .rc [.nil, .nil, .int .i64 (0:Int)]), (10003002, .sl 4 .bool i5 .shallow)]))) (B := fun s => Ok (spec_l5Search__ss_j2 a0_2 o0 o1 s) (fun r => k (.tup [.agg [.own 902 false, .own 903 false, .int .i64 r.2.1], .c (.int .i64 r.1), .c (.own 901 false)]) [(0, .dead), (1, .dead), (900, .rc [.own 902 false, .own 903 false, .int .i64 r.2.1]), (901, .sl 4 .bool r.2.2.1 .shallow), (902, .sl 56 y2_ r.2.2.2.1 .shallow), (903, .sl 65 y5_ r.2.2.2.2 .shallow)])) ?_ ?_
      ·rintro i5 he
       have he := ok_some he
       exact ⟨rfl, _, _, (leads_ren [(900, 10003001), (901, 10003002), (902, 0), (903, 1)] (l := [(4, .c (.ptr 900 0)), (5, .c (.int .i64 (1:Int))), (6, .c (.own 901 false))]) (st' := [(0, .dead), (1, .dead), (900, .rc [.own 902 false, .own 903 false, .int .i64 (a0_2 - (1:Int))]), (901, .sl 4 .bool i5 .shallow), (902, .sl 56 y2_ o0 .shallow), (903, .sl 65 y5_ o1 .shallow)]) rfl rfl ⟨trivial, trivial, ⟨⟨⟨rfl, rfl⟩, trivial⟩, ⟨⟨rfl, rfl⟩, trivial⟩, rfl, trivial⟩, ⟨rfl, rfl⟩, ⟨rfl, rfl⟩, ⟨rfl, rfl⟩, trivial⟩ ⟨⟨⟨rfl, rfl⟩, rfl⟩, rfl, ⟨⟨rfl, rfl⟩, trivial⟩, trivial⟩), he⟩
      ·skip
       refine loop_model mixed tys_ok (t_spec_l5Search__ss n_ ih) (S := Int × (List Bool)) (I := (fun (i3, i4) => (envOf [(2, .c (.ptr 10002000 0)), (4, .c (.ptr 10002001 0)), (7, .c (.own 10002002 false)), (10, .c (.own 10002003 false)), (11, .c (.int .i64 i3))], [(0, .sl 56 y2_ o0 .shallow), (1, .sl 65 y5_ o1 .shallow), (10002000, .rc [.own 0 false, .own 1 false, .int .i64 (a0_2 - (1:Int))]), (10002001, .rc [.nil, .nil, .int .i64 (0:Int)]), (10002002, .sl 3 y0_ r3_.2 .shallow), (10002003, .sl 4 .bool i4 .shallow)]))) (f := spec_l5Search__ss_l1 a0_2 o0 o1 r3_) (K := (fun r => k (.tup [.agg [.own 902 false, .own 903 false, .int .i64 r.2.1], .c (.int .i64 r.1), .c (.own 901 false)]) [(0, .dead), (1, .dead), (900, .rc [.own 902 false, .own 903 false, .int .i64 r.2.1]), (901, .sl 4 .bool r.2.2.1 .shallow), (902, .sl 56 y2_ r.2.2.2.1 .shallow), (903, .sl 65 y5_ r.2.2.2.2 .shallow)])) he (leads_ren [(10002000, 10001000), (10002001, 10001001), (10002002, 10001002), (10002003, 57)] rfl rfl ⟨⟨rfl, rfl⟩, ⟨rfl, rfl⟩, ⟨⟨⟨rfl, rfl⟩, trivial⟩, ⟨⟨rfl, rfl⟩, trivial⟩, rfl, trivial⟩, ⟨rfl, rfl, rfl, trivial⟩, ⟨rfl, rfl⟩, ⟨rfl, rfl⟩, trivial⟩ ⟨⟨⟨rfl, rfl⟩, rfl⟩, ⟨⟨rfl, rfl⟩, rfl⟩, ⟨⟨rfl, rfl⟩, trivial⟩, ⟨⟨rfl, rfl⟩, trivial⟩, rfl, trivial⟩) ?_
       rintro ⟨i3, i4⟩ J1 he
       refine go_if he (fun he => ?_) fun he => ?_
       ·refine go_rq he fun he => ?_
        refine go_rq he fun he => ?_
        refine go_rq he fun he => ?_
        have he := ok_some he
        exact ⟨((i3 + (1:Int)), (i4 ++ [(decide ((0:Int) < (r3_.2.getD i3.toNat 0)))])), he, (leads_ren [(10002003, 71)] rfl rfl ⟨⟨rfl, rfl⟩, ⟨rfl, rfl⟩, ⟨⟨⟨rfl, rfl⟩, trivial⟩, ⟨⟨rfl, rfl⟩, trivial⟩, rfl, trivial⟩, ⟨rfl, rfl, rfl, trivial⟩, ⟨rfl, rfl⟩, ⟨rfl, rfl⟩, trivial⟩ ⟨⟨⟨rfl, rfl⟩, rfl⟩, ⟨⟨rfl, rfl⟩, rfl⟩, ⟨⟨rfl, rfl⟩, trivial⟩, ⟨⟨rfl, rfl⟩, trivial⟩, rfl, trivial⟩)⟩
       ·exact ⟨i4, ok_up he, (leads_ren [(10003000, 10002000), (10003001, 10002001), (10003002, 10002003)] rfl rfl ⟨⟨rfl, rfl⟩, ⟨rfl, rfl⟩, ⟨⟨⟨rfl, rfl⟩, trivial⟩, ⟨⟨rfl, rfl⟩, trivial⟩, rfl, trivial⟩, ⟨rfl, rfl, rfl, trivial⟩, ⟨rfl, rfl⟩, trivial⟩ ⟨⟨⟨rfl, rfl⟩, rfl⟩, ⟨⟨rfl, rfl⟩, rfl⟩, ⟨⟨rfl, rfl⟩, trivial⟩, trivial⟩)⟩
     ·refine seq_model mixed tys_ok (t_spec_l5Search__ss n_ ih) (S := Int × (List D2_) × (List D5_)) (I := (fun (i_23, i_03, i_13) => (envOf [(1, .c (.imm y0_ a1)), (2, .c (.ptr 10007000 0)), (4, .c (.ptr 10007001 0))], [(0, .dead), (1, .dead), (10007000, .rc [.own 10007002 false, .own 10007003 false, .int .i64 i_23]), (10007001, .rc [.nil, .nil, .int .i64 (0:Int)]), (10007002, .sl 56 y2_ i_03 .shallow), (10007003, .sl 65 y5_ i_13 .shallow)]))) (B := fun s => Ok (spec_l5Search__ss_j3 a1 s) (fun r => k (.tup [.agg [.own 902 false, .own 903 false, .int .i64 r.2.1], .c (.int .i64 r.1), .c (.own 901 false)]) [(0, .dead), (1, .dead), (900, .rc [.own 902 false, .own 903 false, .int .i64 r.2.1]), (901, .sl 4 .bool r.2.2.1 .shallow), (902, .sl 56 y2_ r.2.2.2.1 .shallow), (903, .sl 65 y5_ r.2.2.2.2 .shallow)])) ?_ ?_
      ·rintro ⟨i_23, i_03, i_13⟩ he
       refine go_if he (fun he => ?_) fun he => ?_
       ·have he := ok_some he
        exact ⟨rfl, _, _, (leads_ren [(900, 10007001), (901, 107), (902, 10007002), (903, 10007003)] (l := [(4, .c (.ptr 900 0)), (5, .c (.int .i64 (0:Int))), (6, .c (.own 901 false))]) (st' := [(0, .dead), (1, .dead), (900, .rc [.own 902 false, .own 903 false, .int .i64 i_23]), (901, .sl 4 .bool ([] : List Bool) .shallow), (902, .sl 56 y2_ i_03 .shallow), (903, .sl 65 y5_ i_13 .shallow)]) rfl rfl ⟨trivial, trivial, ⟨⟨⟨rfl, rfl⟩, trivial⟩, ⟨⟨rfl, rfl⟩, trivial⟩, rfl, trivial⟩, ⟨rfl, rfl⟩, ⟨rfl, rfl⟩, ⟨rfl, rfl⟩, trivial⟩ ⟨⟨⟨rfl, rfl⟩, rfl⟩, rfl, ⟨⟨rfl, rfl⟩, trivial⟩, trivial⟩), he⟩
       ·refine go_bind he fun r9_ he => ?_
        have he := ok_some he
        exact ⟨rfl, _, _, (leads_ren [(900, 10007001), (901, 111), (902, 111901), (903, 111902)] (l := [(4, .c (.ptr 900 0)), (5, .c (.int .i64 (2:Int))), (6, .c (.own 901 false))]) (st' := [(0, .dead), (1, .dead), (900, .rc [.own 902 false, .own 903 false, .int .i64 r9_.1]), (901, .sl 4 .bool ([] : List Bool) .shallow), (902, .sl 56 y2_ r9_.2.1 .shallow), (903, .sl 65 y5_ r9_.2.2 .shallow)]) rfl rfl ⟨trivial, trivial, ⟨⟨⟨rfl, rfl⟩, trivial⟩, ⟨⟨rfl, rfl⟩, trivial⟩, rfl, trivial⟩, ⟨rfl, rfl⟩, ⟨rfl, rfl⟩, ⟨rfl, rfl⟩, trivial⟩ ⟨⟨⟨rfl, rfl⟩, rfl⟩, rfl, ⟨⟨rfl, rfl⟩, trivial⟩, trivial⟩), he⟩
      ·skip
       refine go_rq he fun he => ?_
       refine loop_model mixed tys_ok (t_spec_l5Search__ss n_ ih) (S := Int × Int × (List D2_) × (List D5_)) (I := (fun (i6, i_21, i_01, i_11) => (envOf [(1, .c (.imm y0_ a1)), (2, .c (.ptr 10004000 0)), (4, .c (.ptr 10004001 0)), (77, .c (.own 10004002 false)), (78, .c (.int .i64 ([r5_, (0 - r5_)].length:Int))), (79, .c (.int .i64 i6))], [(0, .dead), (1, .dead), (10004000, .rc [.own 10004003 false, .own 10004004 false, .int .i64 i_21]), (10004001, .rc [.nil, .nil, .int .i64 (0:Int)]), (10004002, .sl 3 y0_ [r5_, (0 - r5_)] .shallow), (10004003, .sl 56 y2_ i_01 .shallow), (10004004, .sl 65 y5_ i_11 .shallow)]))) (f := spec_l5Search__ss_l2 a1 r5_ (spec_l5Search__ss n_)) (K := (fun r => k (.tup [.agg [.own 902 false, .own 903 false, .int .i64 r.2.1], .c (.int .i64 r.1), .c (.own 901 false)]) [(0, .dead), (1, .dead), (900, .rc [.own 902 false, .own 903 false, .int .i64 r.2.1]), (901, .sl 4 .bool r.2.2.1 .shallow), (902, .sl 56 y2_ r.2.2.2.1 .shallow), (903, .sl 65 y5_ r.2.2.2.2 .shallow)])) he (leads_ren [(10004000, 10001000), (10004001, 10001001), (10004002, 77), (10004003, 0), (10004004, 1)] rfl rfl ⟨trivial, trivial, ⟨⟨⟨rfl, rfl⟩, trivial⟩, ⟨⟨rfl, rfl⟩, trivial⟩, rfl, trivial⟩, ⟨rfl, rfl, rfl, trivial⟩, ⟨rfl, rfl⟩, ⟨rfl, rfl⟩, ⟨rfl, rfl⟩, trivial⟩ ⟨.inl rfl, ⟨⟨rfl, rfl⟩, rfl⟩, ⟨⟨rfl, rfl⟩, rfl⟩, ⟨⟨rfl, rfl⟩, trivial⟩, rfl, rfl, trivial⟩) ?_
       rintro ⟨i6, i_21, i_01, i_11⟩ J1 he
       refine go_if he (fun he => ?_) fun he => ?_
       ·refine go_rq he fun he => ?_
        refine seq_model mixed tys_ok (t_spec_l5Search__ss n_ ih) (S := Int × Int × (List Bool) × (List D2_) × (List D5_)) (I := (fun (i9, i_22, i10, i_02, i_12) => (envOf [(1, .c (.imm y0_ a1)), (2, .c (.ptr 10006000 0)), (4, .c (.ptr 10006001 0)), (14, .c (.int .i64 i9)), (15, .c (.own 10006002 false)), (77, .c (.own 10006003 false)), (78, .c (.int .i64 ([r5_, (0 - r5_)].length:Int))), (79, .c (.int .i64 i6))], [(0, .dead), (1, .dead), (10006000, .rc [.own 10006004 false, .own 10006005 false, .int .i64 i_22]), (10006001, .rc [.nil, .nil, .int .i64 (0:Int)]), (10006002, .sl 4 .bool i10 .shallow), (10006003, .sl 3 y0_ [r5_, (0 - r5_)] .shallow), (10006004, .sl 56 y2_ i_02 .shallow), (10006005, .sl 65 y5_ i_12 .shallow)]))) (B := fun s => Ok (spec_l5Search__ss_j4 i6 s) (LK J1 (fun r => k (.tup [.agg [.own 902 false, .own 903 false, .int .i64 r.2.1], .c (.int .i64 r.1), .c (.own 901 false)]) [(0, .dead), (1, .dead), (900, .rc [.own 902 false, .own 903 false, .int .i64 r.2.1]), (901, .sl 4 .bool r.2.2.1 .shallow), (902, .sl 56 y2_ r.2.2.2.1 .shallow), (903, .sl 65 y5_ r.2.2.2.2 .shallow)]))) ?_ ?_
        ·rintro ⟨i9, i_22, i10, i_02, i_12⟩ he
         refine go_if he (fun he => ?_) fun he => ?_
         ·have he := ok_some he
          exact ⟨rfl, _, _, (leads_ren [(900, 10006001), (901, 10006002), (902, 10006004), (903, 10006005)] (l := [(4, .c (.ptr 900 0)), (5, .c (.int .i64 i9)), (6, .c (.own 901 false))]) (st' := [(0, .dead), (1, .dead), (900, .rc [.own 902 false, .own 903 false, .int .i64 i_22]), (901, .sl 4 .bool i10 .shallow), (902, .sl 56 y2_ i_02 .shallow), (903, .sl 65 y5_ i_12 .shallow)]) rfl rfl ⟨trivial, trivial, ⟨⟨⟨rfl, rfl⟩, trivial⟩, ⟨⟨rfl, rfl⟩, trivial⟩, rfl, trivial⟩, ⟨rfl, rfl⟩, ⟨rfl, rfl⟩, ⟨rfl, rfl⟩, trivial⟩ ⟨⟨⟨rfl, rfl⟩, rfl⟩, rfl, ⟨⟨rfl, rfl⟩, trivial⟩, trivial⟩), he⟩
         ·refine go_rq he fun he => ?_
          have he := ok_some he
          exact ⟨((i6 + (1:Int)), i_22, i_02, i_12), he, (leads_ren [(10004000, 10006000), (10004001, 10006001), (10004002, 10006003), (10004003, 10006004), (10004004, 10006005)] rfl rfl ⟨trivial, trivial, ⟨⟨⟨rfl, rfl⟩, trivial⟩, ⟨⟨rfl, rfl⟩, trivial⟩, rfl, trivial⟩, ⟨rfl, rfl, rfl, trivial⟩, ⟨rfl, rfl⟩, ⟨rfl, rfl⟩, ⟨rfl, rfl⟩, trivial⟩ ⟨.inl rfl, ⟨⟨rfl, rfl⟩, rfl⟩, ⟨⟨rfl, rfl⟩, rfl⟩, ⟨⟨rfl, rfl⟩, trivial⟩, rfl, rfl, trivial⟩)⟩
        ·skip
         refine And.intro (by kernel_rfl) ?_
         have he := ok_rq he
         have hq1 := he.1
         have he := he.2
         have he := ok_rq he
         have hq2 := he.1
         have he := he.2
         obtain ⟨r8_, hq3, he⟩ := ok_bind he
         refine And.intro ?_ (And.intro ?_ (And.intro ?_ (trivial)))
         ·skip
          refine And.intro ?_ (And.intro ?_ (trivial))
          ·skip
           refine And.intro ?_ (And.intro ?_ (trivial))
           ·skip
            refine And.intro hq1 ?_
            refine And.intro ?_ trivial
            refine And.intro ?_ trivial
            refine And.intro hq2 ?_
            refine And.intro ?_ trivial
            refine ⟨r8_, hq3, ?_⟩
            refine And.intro ?_ trivial
            exact ⟨(r8_.1, r8_.2.1, r8_.2.2.1, r8_.2.2.2.1, r8_.2.2.2.2), he, (leads_ren [(10006000, 10004000), (10006001, 10004001), (10006002, 93901), (10006003, 10004002), (10006004, 93902), (10006005, 93903)] rfl rfl ⟨trivial, trivial, ⟨⟨⟨rfl, rfl⟩, trivial⟩, ⟨⟨rfl, rfl⟩, trivial⟩, rfl, trivial⟩, ⟨rfl, rfl, rfl, trivial⟩, ⟨rfl, rfl⟩, ⟨rfl, rfl⟩, ⟨rfl, rfl⟩, ⟨rfl, rfl⟩, trivial⟩ ⟨.inl rfl, ⟨⟨rfl, rfl⟩, rfl⟩, ⟨⟨rfl, rfl⟩, rfl⟩, rfl, ⟨⟨rfl, rfl⟩, trivial⟩, ⟨⟨rfl, rfl⟩, trivial⟩, rfl, rfl, trivial⟩)⟩
           ·skip
            refine And.intro ?_ trivial
            refine And.intro hq1 ?_
            refine And.intro ?_ trivial
            refine And.intro hq2 ?_
            refine And.intro ?_ trivial
            refine ⟨r8_, hq3, ?_⟩
            refine And.intro ?_ trivial
            exact ⟨(r8_.1, r8_.2.1, r8_.2.2.1, r8_.2.2.2.1, r8_.2.2.2.2), he, (leads_ren [(10006000, 10004000), (10006001, 10004001), (10006002, 93901), (10006003, 10004002), (10006004, 93902), (10006005, 93903)] rfl rfl ⟨trivial, trivial, ⟨⟨⟨rfl, rfl⟩, trivial⟩, ⟨⟨rfl, rfl⟩, trivial⟩, rfl, trivial⟩, ⟨rfl, rfl, rfl, trivial⟩, ⟨rfl, rfl⟩, ⟨rfl, rfl⟩, ⟨rfl, rfl⟩, ⟨rfl, rfl⟩, trivial⟩ ⟨.inl rfl, ⟨⟨rfl, rfl⟩, rfl⟩, ⟨⟨rfl, rfl⟩, rfl⟩, rfl, ⟨⟨rfl, rfl⟩, trivial⟩, ⟨⟨rfl, rfl⟩, trivial⟩, rfl, rfl, trivial⟩)⟩
          ·skip
           refine And.intro ?_ trivial
           refine And.intro ?_ trivial
           refine And.intro hq1 ?_
           refine And.intro ?_ trivial
           refine And.intro hq2 ?_
           refine And.intro ?_ trivial
           refine ⟨r8_, hq3, ?_⟩
           refine And.intro ?_ trivial
           exact ⟨(r8_.1, r8_.2.1, r8_.2.2.1, r8_.2.2.2.1, r8_.2.2.2.2), he, (leads_ren [(10006000, 10004000), (10006001, 10004001), (10006002, 93901), (10006003, 10004002), (10006004, 93902), (10006005, 93903)] rfl rfl ⟨trivial, trivial, ⟨⟨⟨rfl, rfl⟩, trivial⟩, ⟨⟨rfl, rfl⟩, trivial⟩, rfl, trivial⟩, ⟨rfl, rfl, rfl, trivial⟩, ⟨rfl, rfl⟩, ⟨rfl, rfl⟩, ⟨rfl, rfl⟩, ⟨rfl, rfl⟩, trivial⟩ ⟨.inl rfl, ⟨⟨rfl, rfl⟩, rfl⟩, ⟨⟨rfl, rfl⟩, rfl⟩, rfl, ⟨⟨rfl, rfl⟩, trivial⟩, ⟨⟨rfl, rfl⟩, trivial⟩, rfl, rfl, trivial⟩)⟩
         ·skip
          refine And.intro ?_ (And.intro ?_ (And.intro ?_ (trivial)))
          ·skip
           refine And.intro ?_ (And.intro ?_ (trivial))
           ·skip
            refine And.intro hq1 ?_
            refine And.intro ?_ trivial
            refine And.intro ?_ trivial
            refine And.intro hq2 ?_
            refine And.intro ?_ trivial
            refine ⟨r8_, hq3, ?_⟩
            refine And.intro ?_ trivial
            exact ⟨(r8_.1, r8_.2.1, r8_.2.2.1, r8_.2.2.2.1, r8_.2.2.2.2), he, (leads_ren [(10006000, 10004000), (10006001, 10004001), (10006002, 93901), (10006003, 10004002), (10006004, 93902), (10006005, 93903)] rfl rfl ⟨trivial, trivial, ⟨⟨⟨rfl, rfl⟩, trivial⟩, ⟨⟨rfl, rfl⟩, trivial⟩, rfl, trivial⟩, ⟨rfl, rfl, rfl, trivial⟩, ⟨rfl, rfl⟩, ⟨rfl, rfl⟩, ⟨rfl, rfl⟩, ⟨rfl, rfl⟩, trivial⟩ ⟨.inl rfl, ⟨⟨rfl, rfl⟩, rfl⟩, ⟨⟨rfl, rfl⟩, rfl⟩, rfl, ⟨⟨rfl, rfl⟩, trivial⟩, ⟨⟨rfl, rfl⟩, trivial⟩, rfl, rfl, trivial⟩)⟩
           ·skip
            refine And.intro ?_ trivial
            refine And.intro hq1 ?_
            refine And.intro ?_ trivial
            refine And.intro hq2 ?_
            refine And.intro ?_ trivial
            refine ⟨r8_, hq3, ?_⟩
            refine And.intro ?_ trivial
            exact ⟨(r8_.1, r8_.2.1, r8_.2.2.1, r8_.2.2.2.1, r8_.2.2.2.2), he, (leads_ren [(10006000, 10004000), (10006001, 10004001), (10006002, 93901), (10006003, 10004002), (10006004, 93902), (10006005, 93903)] rfl rfl ⟨trivial, trivial, ⟨⟨⟨rfl, rfl⟩, trivial⟩, ⟨⟨rfl, rfl⟩, trivial⟩, rfl, trivial⟩, ⟨rfl, rfl, rfl, trivial⟩, ⟨rfl, rfl⟩, ⟨rfl, rfl⟩, ⟨rfl, rfl⟩, ⟨rfl, rfl⟩, trivial⟩ ⟨.inl rfl, ⟨⟨rfl, rfl⟩, rfl⟩, ⟨⟨rfl, rfl⟩, rfl⟩, rfl, ⟨⟨rfl, rfl⟩, trivial⟩, ⟨⟨rfl, rfl⟩, trivial⟩, rfl, rfl, trivial⟩)⟩
          ·skip
           refine And.intro hq1 ?_
           refine And.intro ?_ (And.intro ?_ (trivial))
           ·skip
            refine And.intro ?_ trivial
            refine And.intro ?_ trivial
            refine And.intro hq2 ?_
            refine And.intro ?_ trivial
            refine ⟨r8_, hq3, ?_⟩
            refine And.intro ?_ trivial
            exact ⟨(r8_.1, r8_.2.1, r8_.2.2.1, r8_.2.2.2.1, r8_.2.2.2.2), he, (leads_ren [(10006000, 10004000), (10006001, 10004001), (10006002, 93901), (10006003, 10004002), (10006004, 93902), (10006005, 93903)] rfl rfl ⟨trivial, trivial, ⟨⟨⟨rfl, rfl⟩, trivial⟩, ⟨⟨rfl, rfl⟩, trivial⟩, rfl, trivial⟩, ⟨rfl, rfl, rfl, trivial⟩, ⟨rfl, rfl⟩, ⟨rfl, rfl⟩, ⟨rfl, rfl⟩, ⟨rfl, rfl⟩, trivial⟩ ⟨.inl rfl, ⟨⟨rfl, rfl⟩, rfl⟩, ⟨⟨rfl, rfl⟩, rfl⟩, rfl, ⟨⟨rfl, rfl⟩, trivial⟩, ⟨⟨rfl, rfl⟩, trivial⟩, rfl, rfl, trivial⟩)⟩
           ·skip
            refine And.intro ?_ (And.intro ?_ (trivial))
            ·skip
             refine And.intro ?_ trivial
             refine And.intro hq2 ?_
             refine And.intro ?_ trivial
             refine ⟨r8_, hq3, ?_⟩
             refine And.intro ?_ trivial
             exact ⟨(r8_.1, r8_.2.1, r8_.2.2.1, r8_.2.2.2.1, r8_.2.2.2.2), he, (leads_ren [(10006000, 10004000), (10006001, 10004001), (10006002, 93901), (10006003, 10004002), (10006004, 93902), (10006005, 93903)] rfl rfl ⟨trivial, trivial, ⟨⟨⟨rfl, rfl⟩, trivial⟩, ⟨⟨rfl, rfl⟩, trivial⟩, rfl, trivial⟩, ⟨rfl, rfl, rfl, trivial⟩, ⟨rfl, rfl⟩, ⟨rfl, rfl⟩, ⟨rfl, rfl⟩, ⟨rfl, rfl⟩, trivial⟩ ⟨.inl rfl, ⟨⟨rfl, rfl⟩, rfl⟩, ⟨⟨rfl, rfl⟩, rfl⟩, rfl, ⟨⟨rfl, rfl⟩, trivial⟩, ⟨⟨rfl, rfl⟩, trivial⟩, rfl, rfl, trivial⟩)⟩
            ·skip
             refine And.intro hq2 ?_
             refine And.intro ?_ trivial
             refine And.intro ?_ trivial
             refine ⟨r8_, hq3, ?_⟩
             refine And.intro ?_ trivial
             exact ⟨(r8_.1, r8_.2.1, r8_.2.2.1, r8_.2.2.2.1, r8_.2.2.2.2), he, (leads_ren [(10006000, 10004000), (10006001, 10004001), (10006002, 93901), (10006003, 10004002), (10006004, 93902), (10006005, 93903)] rfl rfl ⟨trivial, trivial, ⟨⟨⟨rfl, rfl⟩, trivial⟩, ⟨⟨rfl, rfl⟩, trivial⟩, rfl, trivial⟩, ⟨rfl, rfl, rfl, trivial⟩, ⟨rfl, rfl⟩, ⟨rfl, rfl⟩, ⟨rfl, rfl⟩, ⟨rfl, rfl⟩, trivial⟩ ⟨.inl rfl, ⟨⟨rfl, rfl⟩, rfl⟩, ⟨⟨rfl, rfl⟩, rfl⟩, rfl, ⟨⟨rfl, rfl⟩, trivial⟩, ⟨⟨rfl, rfl⟩, trivial⟩, rfl, rfl, trivial⟩)⟩
          ·skip
           refine And.intro ?_ (And.intro ?_ (trivial))
           ·skip
            refine And.intro ?_ trivial
            refine And.intro hq1 ?_
            refine And.intro ?_ trivial
            refine And.intro hq2 ?_
            refine And.intro ?_ trivial
            refine ⟨r8_, hq3, ?_⟩
            refine And.intro ?_ trivial
            exact ⟨(r8_.1, r8_.2.1, r8_.2.2.1, r8_.2.2.2.1, r8_.2.2.2.2), he, (leads_ren [(10006000, 10004000), (10006001, 10004001), (10006002, 93901), (10006003, 10004002), (10006004, 93902), (10006005, 93903)] rfl rfl ⟨trivial, trivial, ⟨⟨⟨rfl, rfl⟩, trivial⟩, ⟨⟨rfl, rfl⟩, trivial⟩, rfl, trivial⟩, ⟨rfl, rfl, rfl, trivial⟩, ⟨rfl, rfl⟩, ⟨rfl, rfl⟩, ⟨rfl, rfl⟩, ⟨rfl, rfl⟩, trivial⟩ ⟨.inl rfl, ⟨⟨rfl, rfl⟩, rfl⟩, ⟨⟨rfl, rfl⟩, rfl⟩, rfl, ⟨⟨rfl, rfl⟩, trivial⟩, ⟨⟨rfl, rfl⟩, trivial⟩, rfl, rfl, trivial⟩)⟩
           ·skip
            refine And.intro hq1 ?_
            refine And.intro ?_ (And.intro ?_ (trivial))
            ·skip
             refine And.intro ?_ trivial
             refine And.intro hq2 ?_
             refine And.intro ?_ trivial
             refine ⟨r8_, hq3, ?_⟩
             refine And.intro ?_ trivial
             exact ⟨(r8_.1, r8_.2.1, r8_.2.2.1, r8_.2.2.2.1, r8_.2.2.2.2), he, (leads_ren [(10006000, 10004000), (10006001, 10004001), (10006002, 93901), (10006003, 10004002), (10006004, 93902), (10006005, 93903)] rfl rfl ⟨trivial, trivial, ⟨⟨⟨rfl, rfl⟩, trivial⟩, ⟨⟨rfl, rfl⟩, trivial⟩, rfl, trivial⟩, ⟨rfl, rfl, rfl, trivial⟩, ⟨rfl, rfl⟩, ⟨rfl, rfl⟩, ⟨rfl, rfl⟩, ⟨rfl, rfl⟩, trivial⟩ ⟨.inl rfl, ⟨⟨rfl, rfl⟩, rfl⟩, ⟨⟨rfl, rfl⟩, rfl⟩, rfl, ⟨⟨rfl, rfl⟩, trivial⟩, ⟨⟨rfl, rfl⟩, trivial⟩, rfl, rfl, trivial⟩)⟩
            ·skip
             refine And.intro hq2 ?_
             refine And.intro ?_ trivial
             refine And.intro ?_ trivial
             refine ⟨r8_, hq3, ?_⟩
             refine And.intro ?_ trivial
             exact ⟨(r8_.1, r8_.2.1, r8_.2.2.1, r8_.2.2.2.1, r8_.2.2.2.2), he, (leads_ren [(10006000, 10004000), (10006001, 10004001), (10006002, 93901), (10006003, 10004002), (10006004, 93902), (10006005, 93903)] rfl rfl ⟨trivial, trivial, ⟨⟨⟨rfl, rfl⟩, trivial⟩, ⟨⟨rfl, rfl⟩, trivial⟩, rfl, trivial⟩, ⟨rfl, rfl, rfl, trivial⟩, ⟨rfl, rfl⟩, ⟨rfl, rfl⟩, ⟨rfl, rfl⟩, ⟨rfl, rfl⟩, trivial⟩ ⟨.inl rfl, ⟨⟨rfl, rfl⟩, rfl⟩, ⟨⟨rfl, rfl⟩, rfl⟩, rfl, ⟨⟨rfl, rfl⟩, trivial⟩, ⟨⟨rfl, rfl⟩, trivial⟩, rfl, rfl, trivial⟩)⟩
         ·skip
          refine And.intro ?_ (And.intro ?_ (trivial))
          ·skip
           refine And.intro ?_ trivial
           refine And.intro ?_ trivial
           refine And.intro hq1 ?_
           refine And.intro ?_ trivial
           refine And.intro hq2 ?_
           refine And.intro ?_ trivial
           refine ⟨r8_, hq3, ?_⟩
           refine And.intro ?_ trivial
           exact ⟨(r8_.1, r8_.2.1, r8_.2.2.1, r8_.2.2.2.1, r8_.2.2.2.2), he, (leads_ren [(10006000, 10004000), (10006001, 10004001), (10006002, 93901), (10006003, 10004002), (10006004, 93902), (10006005, 93903)] rfl rfl ⟨trivial, trivial, ⟨⟨⟨rfl, rfl⟩, trivial⟩, ⟨⟨rfl, rfl⟩, trivial⟩, rfl, trivial⟩, ⟨rfl, rfl, rfl, trivial⟩, ⟨rfl, rfl⟩, ⟨rfl, rfl⟩, ⟨rfl, rfl⟩, ⟨rfl, rfl⟩, trivial⟩ ⟨.inl rfl, ⟨⟨rfl, rfl⟩, rfl⟩, ⟨⟨rfl, rfl⟩, rfl⟩, rfl, ⟨⟨rfl, rfl⟩, trivial⟩, ⟨⟨rfl, rfl⟩, trivial⟩, rfl, rfl, trivial⟩)⟩
          ·skip
           refine And.intro ?_ (And.intro ?_ (trivial))
           ·skip
            refine And.intro ?_ trivial
            refine And.intro hq1 ?_
            refine And.intro ?_ trivial
            refine And.intro hq2 ?_
            refine And.intro ?_ trivial
            refine ⟨r8_, hq3, ?_⟩
            refine And.intro ?_ trivial
            exact ⟨(r8_.1, r8_.2.1, r8_.2.2.1, r8_.2.2.2.1, r8_.2.2.2.2), he, (leads_ren [(10006000, 10004000), (10006001, 10004001), (10006002, 93901), (10006003, 10004002), (10006004, 93902), (10006005, 93903)] rfl rfl ⟨trivial, trivial, ⟨⟨⟨rfl, rfl⟩, trivial⟩, ⟨⟨rfl, rfl⟩, trivial⟩, rfl, trivial⟩, ⟨rfl, rfl, rfl, trivial⟩, ⟨rfl, rfl⟩, ⟨rfl, rfl⟩, ⟨rfl, rfl⟩, ⟨rfl, rfl⟩, trivial⟩ ⟨.inl rfl, ⟨⟨rfl, rfl⟩, rfl⟩, ⟨⟨rfl, rfl⟩, rfl⟩, rfl, ⟨⟨rfl, rfl⟩, trivial⟩, ⟨⟨rfl, rfl⟩, trivial⟩, rfl, rfl, trivial⟩)⟩
           ·skip
            refine And.intro hq1 ?_
            refine And.intro ?_ (And.intro ?_ (trivial))
            ·skip
             refine And.intro ?_ trivial
             refine And.intro hq2 ?_
             refine And.intro ?_ trivial
             refine ⟨r8_, hq3, ?_⟩
             refine And.intro ?_ trivial
             exact ⟨(r8_.1, r8_.2.1, r8_.2.2.1, r8_.2.2.2.1, r8_.2.2.2.2), he, (leads_ren [(10006000, 10004000), (10006001, 10004001), (10006002, 93901), (10006003, 10004002), (10006004, 93902), (10006005, 93903)] rfl rfl ⟨trivial, trivial, ⟨⟨⟨rfl, rfl⟩, trivial⟩, ⟨⟨rfl, rfl⟩, trivial⟩, rfl, trivial⟩, ⟨rfl, rfl, rfl, trivial⟩, ⟨rfl, rfl⟩, ⟨rfl, rfl⟩, ⟨rfl, rfl⟩, ⟨rfl, rfl⟩, trivial⟩ ⟨.inl rfl, ⟨⟨rfl, rfl⟩, rfl⟩, ⟨⟨rfl, rfl⟩, rfl⟩, rfl, ⟨⟨rfl, rfl⟩, trivial⟩, ⟨⟨rfl, rfl⟩, trivial⟩, rfl, rfl, trivial⟩)⟩
            ·skip
             refine And.intro hq2 ?_
             refine And.intro ?_ trivial
             refine And.intro ?_ trivial
             refine ⟨r8_, hq3, ?_⟩
             refine And.intro ?_ trivial
             exact ⟨(r8_.1, r8_.2.1, r8_.2.2.1, r8_.2.2.2.1, r8_.2.2.2.2), he, (leads_ren [(10006000, 10004000), (10006001, 10004001), (10006002, 93901), (10006003, 10004002), (10006004, 93902), (10006005, 93903)] rfl rfl ⟨trivial, trivial, ⟨⟨⟨rfl, rfl⟩, trivial⟩, ⟨⟨rfl, rfl⟩, trivial⟩, rfl, trivial⟩, ⟨rfl, rfl, rfl, trivial⟩, ⟨rfl, rfl⟩, ⟨rfl, rfl⟩, ⟨rfl, rfl⟩, ⟨rfl, rfl⟩, trivial⟩ ⟨.inl rfl, ⟨⟨rfl, rfl⟩, rfl⟩, ⟨⟨rfl, rfl⟩, rfl⟩, rfl, ⟨⟨rfl, rfl⟩, trivial⟩, ⟨⟨rfl, rfl⟩, trivial⟩, rfl, rfl, trivial⟩)⟩
       ·exact ⟨(i_21, i_01, i_11), ok_up he, (leads_ren [(10007000, 10004000), (10007001, 10004001), (10007002, 10004003), (10007003, 10004004)] rfl rfl ⟨trivial, trivial, ⟨⟨⟨rfl, rfl⟩, trivial⟩, ⟨⟨rfl, rfl⟩, trivial⟩, rfl, trivial⟩, ⟨rfl, rfl, rfl, trivial⟩, ⟨rfl, rfl⟩, ⟨rfl, rfl⟩, trivial⟩ ⟨.inl rfl, ⟨⟨rfl, rfl⟩, rfl⟩, ⟨⟨rfl, rfl⟩, rfl⟩, trivial⟩)⟩
   ·skip
    refine loop_model mixed tys_ok (t_spec_l5Search__ss n_ ih) (S := Int × (List Int)) (I := (fun (i, i1) => (envOf [(1, .c (.imm y0_ a1)), (2, .c (.ptr 10000000 0)), (4, .c (.ptr 10000001 0)), (7, .c (.own 10000002 false)), (8, .c (.int .i64 i))], [(0, .sl 56 y2_ o0 .shallow), (1, .sl 65 y5_ o1 .shallow), (10000000, .rc [.own 0 false, .own 1 false, .int .i64 (a0_2 - (1:Int))]), (10000001, .rc [.nil, .nil, .int .i64 (0:Int)]), (10000002, .sl 3 y0_ i1 .shallow)]))) (f := spec_l5Search__ss_l3 a0_2 a1 o0 o1 (spec_l5Search__ss n_)) (K := (fun r => k (.tup [.agg [.own 902 false, .own 903 false, .int .i64 r.2.1], .c (.int .i64 r.1), .c (.own 901 false)]) [(0, .dead), (1, .dead), (900, .rc [.own 902 false, .own 903 false, .int .i64 r.2.1]), (901, .sl 4 .bool r.2.2.1 .shallow), (902, .sl 56 y2_ r.2.2.2.1 .shallow), (903, .sl 65 y5_ r.2.2.2.2 .shallow)])) he (leads_ren [(10000000, 2), (10000001, 4), (10000002, 31)] rfl rfl ⟨⟨rfl, rfl⟩, ⟨rfl, rfl⟩, ⟨⟨⟨rfl, rfl⟩, trivial⟩, ⟨⟨rfl, rfl⟩, trivial⟩, rfl, trivial⟩, ⟨rfl, rfl, rfl, trivial⟩, ⟨rfl, rfl⟩, trivial⟩ ⟨.inl rfl, ⟨⟨rfl, rfl⟩, rfl⟩, ⟨⟨rfl, rfl⟩, rfl⟩, ⟨⟨rfl, rfl⟩, trivial⟩, rfl, trivial⟩) ?_
    rintro ⟨i, i1⟩ J1 he
    refine go_if he (fun he => ?_) fun he => ?_
    ·refine go_rq he fun he => ?_
     refine go_bind he fun r2_ he => ?_
     refine go_rq he fun he => ?_
     have he := ok_some he
     exact ⟨((i + (1:Int)), r2_), he, (leads_ren [] rfl rfl ⟨⟨rfl, rfl⟩, ⟨rfl, rfl⟩, ⟨⟨⟨rfl, rfl⟩, trivial⟩, ⟨⟨rfl, rfl⟩, trivial⟩, rfl, trivial⟩, ⟨rfl, rfl, rfl, trivial⟩, ⟨rfl, rfl⟩, trivial⟩ ⟨.inl rfl, ⟨⟨rfl, rfl⟩, rfl⟩, ⟨⟨rfl, rfl⟩, rfl⟩, ⟨⟨rfl, rfl⟩, trivial⟩, rfl, trivial⟩)⟩
    ·exact ⟨i1, ok_up he, (leads_ren [(10001000, 10000000), (10001001, 10000001), (10001002, 10000002)] rfl rfl ⟨⟨rfl, rfl⟩, ⟨rfl, rfl⟩, ⟨⟨⟨rfl, rfl⟩, trivial⟩, ⟨⟨rfl, rfl⟩, trivial⟩, rfl, trivial⟩, ⟨rfl, rfl, rfl, trivial⟩, ⟨rfl, rfl⟩, trivial⟩ ⟨.inl rfl, ⟨⟨rfl, rfl⟩, rfl⟩, ⟨⟨rfl, rfl⟩, rfl⟩, ⟨⟨rfl, rfl⟩, trivial⟩, trivial⟩)⟩
 ·have he := ok_some he
  exact ⟨rfl, _, _, (leads_ren [(900, 4), (901, 26), (902, 0), (903, 1)] (l := [(4, .c (.ptr 900 0)), (5, .c (.int .i64 (0:Int))), (6, .c (.own 901 false))]) (st' := [(0, .dead), (1, .dead), (900, .rc [.own 902 false, .own 903 false, .int .i64 a0_2]), (901, .sl 4 .bool ([] : List Bool) .shallow), (902, .sl 56 y2_ o0 .shallow), (903, .sl 65 y5_ o1 .shallow)]) rfl rfl ⟨trivial, trivial, ⟨⟨⟨rfl, rfl⟩, trivial⟩, ⟨⟨rfl, rfl⟩, trivial⟩, rfl, trivial⟩, ⟨rfl, rfl⟩, ⟨rfl, rfl⟩, ⟨rfl, rfl⟩, trivial⟩ ⟨⟨⟨rfl, rfl⟩, rfl⟩, rfl, ⟨⟨rfl, rfl⟩, trivial⟩, trivial⟩), he⟩

theorem k_spec_l5Search__ss : ∀ n_, Entry Tryz.prog 39 (c_spec_l5Search__ss n_)
  | 0 => by
    refine entry_by (C := { y := tys, n := 112, h := 2, tab := [], cut := [], hand := [], good := [], deep := [], sched := [] }) mixed tys_ok (tabOk_of (fun p h => by cases h)) (fn := Tryz.f39) (c := bd Tryz.f39) (by kernel_rfl) (by kernel_rfl) (by kernel_rfl) (by kernel_rfl) ?_
    intro args st k he
    unfold c_spec_l5Search__ss at he
    split at he
    · obtain ⟨x, hx, _⟩ := he
      cases hx
    · exact he.elim
  | n_ + 1 => k_spec_l5Search__ss_step n_ (k_spec_l5Search__ss n_)

noncomputable def c_spec_l5Search__s : Con := fun args st => match args, st with
  | [.agg [.own 0 false, .nil, .int .i64 a0_2], .c (.imm (.int .i64) a1)], [(0, .sl 56 (.pair (.sl (.pair (.int .i64) (.int .i64))) (.int .i64)) o0 .shallow)] => .opt (Int × Int × (List Bool) × (List D2_) × (List D5_)) (spec_l5Search__s a0_2 a1 o0) (fun r => .ret (.tup [.agg [.own 902 false, .own 903 false, .int .i64 r.2.1], .c (.int .i64 r.1), .c (.own 901 false)]) [(0, .dead), (900, .rc [.own 902 false, .own 903 false, .int .i64 r.2.1]), (901, .sl 4 .bool r.2.2.1 .shallow), (902, .sl 56 y2_ r.2.2.2.1 .shallow), (903, .sl 65 y5_ r.2.2.2.2 .shallow)])
  | _, _ => .fail

noncomputable def C_spec_l5Search__s : Cfg := { y := tys, n := 112, h := 1, tab := [(39, (c_spec_l5Search__ss 64)), (58, c_spec_l3Assign), (59, c_spec_l3Propagate), (60, c_spec_l5Learn__ss), (61, c_spec_l5Free)], cut := [9, 18, 25, 28], hand := [(39, [0]), (58, [0]), (59, [1]), (60, [0])], good := [], deep := [], sched := [(24, (.first 2 (.first 4 (.alt 0 (.alt 1 (.alt 3 (.alt 5 (.alt 6 (.alt 7 (.first 8 (.first 9 (.first 10 (.first 11 (.alt 12 (.first 13 (.first 14 .done)) .stop))))) .stop) .stop) .stop) (.alt 5 (.alt 3 (.alt 6 (.alt 7 (.first 8 (.first 9 (.first 10 (.first 11 (.alt 12 (.first 13 (.first 14 .done)) .stop))))) .stop) .stop) .stop) .stop)) (.alt 5 (.alt 1 (.alt 3 (.alt 6 (.alt 7 (.first 8 (.first 9 (.first 10 (.first 11 (.alt 12 (.first 13 (.first 14 .done)) .stop))))) .stop) .stop) .stop) .stop) .stop)) (.alt 1 (.alt 0 (.alt 3 (.alt 5 (.alt 6 (.alt 7 (.first 8 (.first 9 (.first 10 (.first 11 (.alt 12 (.first 13 (.first 14 .done)) .stop))))) .stop) .stop) .stop) (.alt 5 (.alt 3 (.alt 6 (.alt 7 (.first 8 (.first 9 (.first 10 (.first 11 (.alt 12 (.first 13 (.first 14 .done)) .stop))))) .stop) .stop) .stop) .stop)) (.alt 3 (.alt 0 (.alt 5 (.alt 6 (.alt 7 (.first 8 (.first 9 (.first 10 (.first 11 (.alt 12 (.first 13 (.first 14 .done)) .stop))))) .stop) .stop) .stop) (.alt 5 (.alt 0 (.alt 6 (.alt 7 (.first 8 (.first 9 (.first 10 (.first 11 (.alt 12 (.first 13 (.first 14 .done)) .stop))))) .stop) .stop) (.alt 6 (.alt 0 (.alt 7 (.first 8 (.first 9 (.first 10 (.first 11 (.alt 12 (.first 13 (.first 14 .done)) .stop))))) .stop) .stop) .stop)) .stop)) (.alt 5 (.alt 0 (.alt 3 (.alt 6 (.alt 7 (.first 8 (.first 9 (.first 10 (.first 11 (.alt 12 (.first 13 (.first 14 .done)) .stop))))) .stop) .stop) .stop) (.alt 3 (.alt 0 (.alt 6 (.alt 7 (.first 8 (.first 9 (.first 10 (.first 11 (.alt 12 (.first 13 (.first 14 .done)) .stop))))) .stop) .stop) (.alt 6 (.alt 0 (.alt 7 (.first 8 (.first 9 (.first 10 (.first 11 (.alt 12 (.first 13 (.first 14 .done)) .stop))))) .stop) .stop) .stop)) .stop)) .stop))) (.alt 5 (.alt 0 (.alt 1 (.alt 3 (.alt 6 (.alt 7 (.first 8 (.first 9 (.first 10 (.first 11 (.alt 12 (.first 13 (.first 14 .done)) .stop))))) .stop) .stop) .stop) .stop) (.alt 1 (.alt 0 (.alt 3 (.alt 6 (.alt 7 (.first 8 (.first 9 (.first 10 (.first 11 (.alt 12 (.first 13 (.first 14 .done)) .stop))))) .stop) .stop) .stop) (.alt 3 (.alt 0 (.alt 6 (.alt 7 (.first 8 (.first 9 (.first 10 (.first 11 (.alt 12 (.first 13 (.first 14 .done)) .stop))))) .stop) .stop) (.alt 6 (.alt 0 (.alt 7 (.first 8 (.first 9 (.first 10 (.first 11 (.alt 12 (.first 13 (.first 14 .done)) .stop))))) .stop) .stop) .stop)) .stop)) .stop)) .stop))))))], nils := [39, 60] }

theorem t_spec_l5Search__s : TabOk Tryz.prog C_spec_l5Search__s := by
  refine tabOk_of ?_
  simp only [C_spec_l5Search__s, List.forall_mem_cons]
  exact ⟨(k_spec_l5Search__ss 64), k_spec_l3Assign, k_spec_l3Propagate, k_spec_l5Learn__ss, k_spec_l5Free, fun p h => by cases h⟩

theorem k_spec_l5Search__s : Entry Tryz.prog 39 c_spec_l5Search__s := by
 refine entry_by (C := C_spec_l5Search__s) mixed tys_ok t_spec_l5Search__s (fn := Tryz.f39) (c := bd Tryz.f39) (by kernel_rfl) (by kernel_rfl) (by kernel_rfl) (by kernel_rfl) ?_
 intro args st k he
 unfold c_spec_l5Search__s at he
 split at he
 rotate_left
 ·exact he.elim
 rename_i a0_2 a1 o0
 have he : Ok (spec_l5Search__s a0_2 a1 o0) (fun r => k (.tup [.agg [.own 902 false, .own 903 false, .int .i64 r.2.1], .c (.int .i64 r.1), .c (.own 901 false)]) [(0, .dead), (900, .rc [.own 902 false, .own 903 false, .int .i64 r.2.1]), (901, .sl 4 .bool r.2.2.1 .shallow), (902, .sl 56 y2_ r.2.2.2.1 .shallow), (903, .sl 65 y5_ r.2.2.2.2 .shallow)]) := he
 refine ⟨rfl, rfl, ?_⟩
 refine go_if2 he (fun he => ?_) fun he => ?_
 ·refine go_if he (fun he => ?_) fun he => ?_
  ·have he := ok_some he
   exact ⟨rfl, _, _, (leads_ren [(900, 4), (901, 26), (902, 0)] (l := [(4, .c (.ptr 900 0)), (5, .c (.int .i64 (0:Int))), (6, .c (.own 901 false))]) (st' := [(0, .dead), (900, .rc [.own 902 false, .own 903 false, .int .i64 a0_2]), (901, .sl 4 .bool ([] : List Bool) .shallow), (902, .sl 56 y2_ o0 .shallow), (903, .sl 65 y5_ ([] : List D5_) .shallow)]) rfl rfl ⟨trivial, ⟨⟨⟨rfl, rfl⟩, trivial⟩, ⟨rfl, trivial⟩, rfl, trivial⟩, ⟨rfl, rfl⟩, ⟨rfl, rfl⟩, trivial, trivial⟩ ⟨⟨⟨rfl, rfl⟩, rfl⟩, rfl, ⟨⟨rfl, rfl⟩, trivial⟩, trivial⟩), he⟩
  ·refine go_rq he fun he => ?_
   refine go_rq he fun he => ?_
   refine seq_model mixed tys_ok t_spec_l5Search__s (S := (List Int)) (I := (fun i2 => (envOf [(1, .c (.imm y0_ a1)), (2, .c (.ptr 10001000 0)), (4, .c (.ptr 10001001 0)), (7, .c (.own 10001002 false))], [(0, .sl 56 y2_ o0 .shallow), (10001000, .rc [.own 0 false, .own 10001003 false, .int .i64 (a0_2 - (1:Int))]), (10001001, .rc [.nil, .nil, .int .i64 (0:Int)]), (10001002, .sl 3 y0_ i2 .shallow), (10001003, .sl 65 y5_ ([] : List D5_) .shallow)]))) (B := fun s => Ok (spec_l5Search__s_j1 a0_2 a1 o0 s) (fun r => k (.tup [.agg [.own 902 false, .own 903 false, .int .i64 r.2.1], .c (.int .i64 r.1), .c (.own 901 false)]) [(0, .dead), (900, .rc [.own 902 false, .own 903 false, .int .i64 r.2.1]), (901, .sl 4 .bool r.2.2.1 .shallow), (902, .sl 56 y2_ r.2.2.2.1 .shallow), (903, .sl 65 y5_ r.2.2.2.2 .shallow)])) ?_ ?_
   ·rintro i2 he
    refine go_bind he fun r3_ he => ?_
    refine go_if he (fun he => ?_) fun he => ?_
    ·refine go_bind he fun r4_ he => ?_
     have he := ok_some he
     exact ⟨rfl, _, _, (leads_ren [(900, 10001001), (901, 52), (902, 52901), (903, 52902)] (l := [(4, .c (.ptr 900 0)), (5, .c (.int .i64 (2:Int))), (6, .c (.own 901 false))]) (st' := [(0, .dead), (900, .rc [.own 902 false, .own 903 false, .int .i64 r4_.1]), (901, .sl 4 .bool ([] : List Bool) .shallow), (902, .sl 56 y2_ r4_.2.1 .shallow), (903, .sl 65 y5_ r4_.2.2 .shallow)]) rfl rfl ⟨trivial, ⟨⟨⟨rfl, rfl⟩, trivial⟩, ⟨⟨rfl, rfl⟩, trivial⟩, rfl, trivial⟩, ⟨rfl, rfl⟩, ⟨rfl, rfl⟩, ⟨rfl, rfl⟩, trivial⟩ ⟨⟨⟨rfl, rfl⟩, rfl⟩, rfl, ⟨⟨rfl, rfl⟩, trivial⟩, trivial⟩), he⟩
    ·refine go_bind he fun r5_ he => ?_
     refine go_if he (fun he => ?_) fun he => ?_
     ·refine seq_model mixed tys_ok t_spec_l5Search__s (S := (List Bool)) (I := (fun i5 => (envOf [(2, .c (.ptr 10003000 0)), (4, .c (.ptr 10003001 0)), (10, .c (.own 10003002 false))], [(0, .sl 56 y2_ o0 .shallow), (10003000, .rc [.own 0 false, .own 10003003 false, .int .i64 (a0_2 - (1:Int))]), (10003001, .rc [.nil, .nil, .int .i64 (0:Int)]), (10003002, .sl 4 .bool i5 .shallow), (10003003, .sl 65 y5_ ([] : List D5_) .shallow)]))) (B := fun s => Ok (spec_l5Search__s_j2 a0_2 o0 s) (fun r => k (.tup [.agg [.own 902 false, .own 903 false, .int .i64 r.2.1], .c (.int .i64 r.1), .c (.own 901 false)]) [(0, .dead), (900, .rc [.own 902 false, .own 903 false, .int .i64 r.2.1]), (901, .sl 4 .bool r.2.2.1 .shallow), (902, .sl 56 y2_ r.2.2.2.1 .shallow), (903, .sl 65 y5_ r.2.2.2.2 .shallow)])) ?_ ?_
      ·rintro i5 he
       have he := ok_some he
       exact ⟨rfl, _, _, (leads_ren [(900, 10003001), (901, 10003002), (902, 0), (903, 10003003)] (l := [(4, .c (.ptr 900 0)), (5, .c (.int .i64 (1:Int))), (6, .c (.own 901 false))]) (st' := [(0, .dead), (900, .rc [.own 902 false, .own 903 false, .int .i64 (a0_2 - (1:Int))]), (901, .sl 4 .bool i5 .shallow), (902, .sl 56 y2_ o0 .shallow), (903, .sl 65 y5_ ([] : List D5_) .shallow)]) rfl rfl ⟨trivial, ⟨⟨⟨rfl, rfl⟩, trivial⟩, ⟨⟨rfl, rfl⟩, trivial⟩, rfl, trivial⟩, ⟨rfl, rfl⟩, ⟨rfl, rfl⟩, ⟨rfl, rfl⟩, trivial⟩ ⟨⟨⟨rfl, rfl⟩, rfl⟩, rfl, ⟨⟨rfl, rfl⟩, trivial⟩, trivial⟩), he⟩
      ·skip
       refine loop_model mixed tys_ok t_spec_l5Search__s (S := Int × (List Bool)) (I := (fun (i3, i4) => (envOf [(2, .c (.ptr 10002000 0)), (4, .c (.ptr 10002001 0)), (7, .c (.own 10002002 false)), (10, .c (.own 10002003 false)), (11, .c (.int .i64 i3))], [(0, .sl 56 y2_ o0 .shallow), (10002000, .rc [.own 0 false, .own 10002004 false, .int .i64 (a0_2 - (1:Int))]), (10002001, .rc [.nil, .nil, .int .i64 (0:Int)]), (10002002, .sl 3 y0_ r3_.2 .shallow), (10002003, .sl 4 .bool i4 .shallow), (10002004, .sl 65 y5_ ([] : List D5_) .shallow)]))) (f := spec_l5Search__s_l1 a0_2 o0 r3_) (K := (fun r => k (.tup [.agg [.own 902 false, .own 903 false, .int .i64 r.2.1], .c (.int .i64 r.1), .c (.own 901 false)]) [(0, .dead), (900, .rc [.own 902 false, .own 903 false, .int .i64 r.2.1]), (901, .sl 4 .bool r.2.2.1 .shallow), (902, .sl 56 y2_ r.2.2.2.1 .shallow), (903, .sl 65 y5_ r.2.2.2.2 .shallow)])) he (leads_ren [(10002000, 10001000), (10002001, 10001001), (10002002, 10001002), (10002003, 57), (10002004, 10001003)] rfl rfl ⟨⟨rfl, rfl⟩, ⟨⟨⟨rfl, rfl⟩, trivial⟩, ⟨⟨rfl, rfl⟩, trivial⟩, rfl, trivial⟩, ⟨rfl, rfl, rfl, trivial⟩, ⟨rfl, rfl⟩, ⟨rfl, rfl⟩, ⟨rfl, rfl⟩, trivial⟩ ⟨⟨⟨rfl, rfl⟩, rfl⟩, ⟨⟨rfl, rfl⟩, rfl⟩, ⟨⟨rfl, rfl⟩, trivial⟩, ⟨⟨rfl, rfl⟩, trivial⟩, rfl, trivial⟩) ?_
       rintro ⟨i3, i4⟩ J1 he
       refine go_if he (fun he => ?_) fun he => ?_
       ·refine go_rq he fun he => ?_
        refine go_rq he fun he => ?_
        refine go_rq he fun he => ?_
        have he := ok_some he
        exact ⟨((i3 + (1:Int)), (i4 ++ [(decide ((0:Int) < (r3_.2.getD i3.toNat 0)))])), he, (leads_ren [(10002003, 71)] rfl rfl ⟨⟨rfl, rfl⟩, ⟨⟨⟨rfl, rfl⟩, trivial⟩, ⟨⟨rfl, rfl⟩, trivial⟩, rfl, trivial⟩, ⟨rfl, rfl, rfl, trivial⟩, ⟨rfl, rfl⟩, ⟨rfl, rfl⟩, ⟨rfl, rfl⟩, trivial⟩ ⟨⟨⟨rfl, rfl⟩, rfl⟩, ⟨⟨rfl, rfl⟩, rfl⟩, ⟨⟨rfl, rfl⟩, trivial⟩, ⟨⟨rfl, rfl⟩, trivial⟩, rfl, trivial⟩)⟩
       ·exact ⟨i4, ok_up he, (leads_ren [(10003000, 10002000), (10003001, 10002001), (10003002, 10002003), (10003003, 10002004)] rfl rfl ⟨⟨rfl, rfl⟩, ⟨⟨⟨rfl, rfl⟩, trivial⟩, ⟨⟨rfl, rfl⟩, trivial⟩, rfl, trivial⟩, ⟨rfl, rfl, rfl, trivial⟩, ⟨rfl, rfl⟩, ⟨rfl, rfl⟩, trivial⟩ ⟨⟨⟨rfl, rfl⟩, rfl⟩, ⟨⟨rfl, rfl⟩, rfl⟩, ⟨⟨rfl, rfl⟩, trivial⟩, trivial⟩)⟩
     ·refine seq_model mixed tys_ok t_spec_l5Search__s (S := Int × (List D2_) × (List D5_)) (I := (fun (i_23, i_03, i_13) => (envOf [(1, .c (.imm y0_ a1)), (2, .c (.ptr 10007000 0)), (4, .c (.ptr 10007001 0))], [(0, .dead), (10007000, .rc [.own 10007002 false, .own 10007003 false, .int .i64 i_23]), (10007001, .rc [.nil, .nil, .int .i64 (0:Int)]), (10007002, .sl 56 y2_ i_03 .shallow), (10007003, .sl 65 y5_ i_13 .shallow)]))) (B := fun s => Ok (spec_l5Search__s_j3 a1 s) (fun r => k (.tup [.agg [.own 902 false, .own 903 false, .int .i64 r.2.1], .c (.int .i64 r.1), .c (.own 901 false)]) [(0, .dead), (900, .rc [.own 902 false, .own 903 false, .int .i64 r.2.1]), (901, .sl 4 .bool r.2.2.1 .shallow), (902, .sl 56 y2_ r.2.2.2.1 .shallow), (903, .sl 65 y5_ r.2.2.2.2 .shallow)])) ?_ ?_
      ·rintro ⟨i_23, i_03, i_13⟩ he
       refine go_if he (fun he => ?_) fun he => ?_
       ·have he := ok_some he
        exact ⟨rfl, _, _, (leads_ren [(900, 10007001), (901, 107), (902, 10007002), (903, 10007003)] (l := [(4, .c (.ptr 900 0)), (5, .c (.int .i64 (0:Int))), (6, .c (.own 901 false))]) (st' := [(0, .dead), (900, .rc [.own 902 false, .own 903 false, .int .i64 i_23]), (901, .sl 4 .bool ([] : List Bool) .shallow), (902, .sl 56 y2_ i_03 .shallow), (903, .sl 65 y5_ i_13 .shallow)]) rfl rfl ⟨trivial, ⟨⟨⟨rfl, rfl⟩, trivial⟩, ⟨⟨rfl, rfl⟩, trivial⟩, rfl, trivial⟩, ⟨rfl, rfl⟩, ⟨rfl, rfl⟩, ⟨rfl, rfl⟩, trivial⟩ ⟨⟨⟨rfl, rfl⟩, rfl⟩, rfl, ⟨⟨rfl, rfl⟩, trivial⟩, trivial⟩), he⟩
       ·refine go_bind he fun r9_ he => ?_
        have he := ok_some he
        exact ⟨rfl, _, _, (leads_ren [(900, 10007001), (901, 111), (902, 111901), (903, 111902)] (l := [(4, .c (.ptr 900 0)), (5, .c (.int .i64 (2:Int))), (6, .c (.own 901 false))]) (st' := [(0, .dead), (900, .rc [.own 902 false, .own 903 false, .int .i64 r9_.1]), (901, .sl 4 .bool ([] : List Bool) .shallow), (902, .sl 56 y2_ r9_.2.1 .shallow), (903, .sl 65 y5_ r9_.2.2 .shallow)]) rfl rfl ⟨trivial, ⟨⟨⟨rfl, rfl⟩, trivial⟩, ⟨⟨rfl, rfl⟩, trivial⟩, rfl, trivial⟩, ⟨rfl, rfl⟩, ⟨rfl, rfl⟩, ⟨rfl, rfl⟩, trivial⟩ ⟨⟨⟨rfl, rfl⟩, rfl⟩, rfl, ⟨⟨rfl, rfl⟩, trivial⟩, trivial⟩), he⟩
      ·skip
       refine go_rq he fun he => ?_
       refine loop_model mixed tys_ok t_spec_l5Search__s (S := Int × Int × (List D2_) × (List D5_)) (I := (fun (i6, i_21, i_01, i_11) => (envOf [(1, .c (.imm y0_ a1)), (2, .c (.ptr 10004000 0)), (4, .c (.ptr 10004001 0)), (77, .c (.own 10004002 false)), (78, .c (.int .i64 ([r5_, (0 - r5_)].length:Int))), (79, .c (.int .i64 i6))], [(0, .dead), (10004000, .rc [.own 10004003 false, .own 10004004 false, .int .i64 i_21]), (10004001, .rc [.nil, .nil, .int .i64 (0:Int)]), (10004002, .sl 3 y0_ [r5_, (0 - r5_)] .shallow), (10004003, .sl 56 y2_ i_01 .shallow), (10004004, .sl 65 y5_ i_11 .shallow)]))) (f := spec_l5Search__s_l2 a1 r5_) (K := (fun r => k (.tup [.agg [.own 902 false, .own 903 false, .int .i64 r.2.1], .c (.int .i64 r.1), .c (.own 901 false)]) [(0, .dead), (900, .rc [.own 902 false, .own 903 false, .int .i64 r.2.1]), (901, .sl 4 .bool r.2.2.1 .shallow), (902, .sl 56 y2_ r.2.2.2.1 .shallow), (903, .sl 65 y5_ r.2.2.2.2 .shallow)])) he (leads_ren [(10004000, 10001000), (10004001, 10001001), (10004002, 77), (10004003, 0), (10004004, 10001003)] rfl rfl ⟨trivial, ⟨⟨⟨rfl, rfl⟩, trivial⟩, ⟨⟨rfl, rfl⟩, trivial⟩, rfl, trivial⟩, ⟨rfl, rfl, rfl, trivial⟩, ⟨rfl, rfl⟩, ⟨rfl, rfl⟩, ⟨rfl, rfl⟩, trivial⟩ ⟨.inl rfl, ⟨⟨rfl, rfl⟩, rfl⟩, ⟨⟨rfl, rfl⟩, rfl⟩, ⟨⟨rfl, rfl⟩, trivial⟩, rfl, rfl, trivial⟩) ?_
       rintro ⟨i6, i_21, i_01, i_11⟩ J1 he
       refine go_if he (fun he => ?_) fun he => ?_
       ·refine go_rq he fun he => ?_
        refine seq_model mixed tys_ok t_spec_l5Search__s (S := Int × Int × (List Bool) × (List D2_) × (List D5_)) (I := (fun (i9, i_22, i10, i_02, i_12) => (envOf [(1, .c (.imm y0_ a1)), (2, .c (.ptr 10006000 0)), (4, .c (.ptr 10006001 0)), (14, .c (.int .i64 i9)), (15, .c (.own 10006002 false)), (77, .c (.own 10006003 false)), (78, .c (.int .i64 ([r5_, (0 - r5_)].length:Int))), (79, .c (.int .i64 i6))], [(0, .dead), (10006000, .rc [.own 10006004 false, .own 10006005 false, .int .i64 i_22]), (10006001, .rc [.nil, .nil, .int .i64 (0:Int)]), (10006002, .sl 4 .bool i10 .shallow), (10006003, .sl 3 y0_ [r5_, (0 - r5_)] .shallow), (10006004, .sl 56 y2_ i_02 .shallow), (10006005, .sl 65 y5_ i_12 .shallow)]))) (B := fun s => Ok (spec_l5Search__s_j4 i6 s) (LK J1 (fun r => k (.tup [.agg [.own 902 false, .own 903 false, .int .i64 r.2.1], .c (.int .i64 r.1), .c (.own 901 false)]) [(0, .dead), (900, .rc [.own 902 false, .own 903 false, .int .i64 r.2.1]), (901, .sl 4 .bool r.2.2.1 .shallow), (902, .sl 56 y2_ r.2.2.2.1 .shallow), (903, .sl 65 y5_ r.2.2.2.2 .shallow)]))) ?_ ?_
        ·rintro ⟨i9, i_22, i10, i_02, i_12⟩ he
         refine go_if he (fun he => ?_) fun he => ?_
         ·have he := ok_some he
          exact ⟨rfl, _, _, (leads_ren [(900, 10006001), (901, 10006002), (902, 10006004), (903, 10006005)] (l := [(4, .c (.ptr 900 0)), (5, .c (.int .i64 i9)), (6, .c (.own 901 false))]) (st' := [(0, .dead), (900, .rc [.own 902 false, .own 903 false, .int .i64 i_22]), (901, .sl 4 .bool i10 .shallow), (902, .sl 56 y2_ i_02 .shallow), (903, .sl 65 y5_ i_12 .shallow)]) rfl rfl ⟨trivial, ⟨⟨⟨rfl, rfl⟩, trivial⟩, ⟨⟨rfl, rfl⟩, trivial⟩, rfl, trivial⟩, ⟨rfl, rfl⟩, ⟨rfl, rfl⟩, ⟨rfl, rfl⟩, trivial⟩ ⟨⟨⟨rfl, rfl⟩, rfl⟩, rfl, ⟨⟨rfl, rfl⟩, trivial⟩, trivial⟩), he⟩
         ·refine go_rq he fun he => ?_
          have he := ok_some he
          exact ⟨((i6 + (1:Int)), i_22, i_02, i_12), he, (leads_ren [(10004000, 10006000), (10004001, 10006001), (10004002, 10006003), (10004003, 10006004), (10004004, 10006005)] rfl rfl ⟨trivial, ⟨⟨⟨rfl, rfl⟩, trivial⟩, ⟨⟨rfl, rfl⟩, trivial⟩, rfl, trivial⟩, ⟨rfl, rfl, rfl, trivial⟩, ⟨rfl, rfl⟩, ⟨rfl, rfl⟩, ⟨rfl, rfl⟩, trivial⟩ ⟨.inl rfl, ⟨⟨rfl, rfl⟩, rfl⟩, ⟨⟨rfl, rfl⟩, rfl⟩, ⟨⟨rfl, rfl⟩, trivial⟩, rfl, rfl, trivial⟩)⟩
        ·skip
         refine And.intro (by kernel_rfl) ?_
         have he := ok_rq he
         have hq1 := he.1
         have he := he.2
         have he := ok_rq he
         have hq2 := he.1
         have he := he.2
         obtain ⟨r8_, hq3, he⟩ := ok_bind he
         refine And.intro ?_ (And.intro ?_ (And.intro ?_ (trivial)))
         ·skip
          refine And.intro ?_ (And.intro ?_ (trivial))
          ·skip
           refine And.intro ?_ (And.intro ?_ (trivial))
           ·skip
            refine And.intro hq1 ?_
            refine And.intro ?_ trivial
            refine And.intro ?_ trivial
            refine And.intro hq2 ?_
            refine And.intro ?_ trivial
            refine ⟨r8_, hq3, ?_⟩
            refine And.intro ?_ trivial
            exact ⟨(r8_.1, r8_.2.1, r8_.2.2.1, r8_.2.2.2.1, r8_.2.2.2.2), he, (leads_ren [(10006000, 10004000), (10006001, 10004001), (10006002, 93901), (10006003, 10004002), (10006004, 93902), (10006005, 93903)] rfl rfl ⟨trivial, ⟨⟨⟨rfl, rfl⟩, trivial⟩, ⟨⟨rfl, rfl⟩, trivial⟩, rfl, trivial⟩, ⟨rfl, rfl, rfl, trivial⟩, ⟨rfl, rfl⟩, ⟨rfl, rfl⟩, ⟨rfl, rfl⟩, ⟨rfl, rfl⟩, trivial⟩ ⟨.inl rfl, ⟨⟨rfl, rfl⟩, rfl⟩, ⟨⟨rfl, rfl⟩, rfl⟩, rfl, ⟨⟨rfl, rfl⟩, trivial⟩, ⟨⟨rfl, rfl⟩, trivial⟩, rfl, rfl, trivial⟩)⟩
           ·skip
            refine And.intro ?_ trivial
            refine And.intro hq1 ?_
            refine And.intro ?_ trivial
            refine And.intro hq2 ?_
            refine And.intro ?_ trivial
            refine ⟨r8_, hq3, ?_⟩
            refine And.intro ?_ trivial
            exact ⟨(r8_.1, r8_.2.1, r8_.2.2.1, r8_.2.2.2.1, r8_.2.2.2.2), he, (leads_ren [(10006000, 10004000), (10006001, 10004001), (10006002, 93901), (10006003, 10004002), (10006004, 93902), (10006005, 93903)] rfl rfl ⟨trivial, ⟨⟨⟨rfl, rfl⟩, trivial⟩, ⟨⟨rfl, rfl⟩, trivial⟩, rfl, trivial⟩, ⟨rfl, rfl, rfl, trivial⟩, ⟨rfl, rfl⟩, ⟨rfl, rfl⟩, ⟨rfl, rfl⟩, ⟨rfl, rfl⟩, trivial⟩ ⟨.inl rfl, ⟨⟨rfl, rfl⟩, rfl⟩, ⟨⟨rfl, rfl⟩, rfl⟩, rfl, ⟨⟨rfl, rfl⟩, trivial⟩, ⟨⟨rfl, rfl⟩, trivial⟩, rfl, rfl, trivial⟩)⟩
          ·skip
           refine And.intro ?_ trivial
           refine And.intro ?_ trivial
           refine And.intro hq1 ?_
           refine And.intro ?_ trivial
           refine And.intro hq2 ?_
           refine And.intro ?_ trivial
           refine ⟨r8_, hq3, ?_⟩
           refine And.intro ?_ trivial
           exact ⟨(r8_.1, r8_.2.1, r8_.2.2.1, r8_.2.2.2.1, r8_.2.2.2.2), he, (leads_ren [(10006000, 10004000), (10006001, 10004001), (10006002, 93901), (10006003, 10004002), (10006004, 93902), (10006005, 93903)] rfl rfl ⟨trivial, ⟨⟨⟨rfl, rfl⟩, trivial⟩, ⟨⟨rfl, rfl⟩, trivial⟩, rfl, trivial⟩, ⟨rfl, rfl, rfl, trivial⟩, ⟨rfl, rfl⟩, ⟨rfl, rfl⟩, ⟨rfl, rfl⟩, ⟨rfl, rfl⟩, trivial⟩ ⟨.inl rfl, ⟨⟨rfl, rfl⟩, rfl⟩, ⟨⟨rfl, rfl⟩, rfl⟩, rfl, ⟨⟨rfl, rfl⟩, trivial⟩, ⟨⟨rfl, rfl⟩, trivial⟩, rfl, rfl, trivial⟩)⟩
         ·skip
          refine And.intro ?_ (And.intro ?_ (And.intro ?_ (trivial)))
          ·skip
           refine And.intro ?_ (And.intro ?_ (trivial))
           ·skip
            refine And.intro hq1 ?_
            refine And.intro ?_ trivial
            refine And.intro ?_ trivial
            refine And.intro hq2 ?_
            refine And.intro ?_ trivial
            refine ⟨r8_, hq3, ?_⟩
            refine And.intro ?_ trivial
            exact ⟨(r8_.1, r8_.2.1, r8_.2.2.1, r8_.2.2.2.1, r8_.2.2.2.2), he, (leads_ren [(10006000, 10004000), (10006001, 10004001), (10006002, 93901), (10006003, 10004002), (10006004, 93902), (10006005, 93903)] rfl rfl ⟨trivial, ⟨⟨⟨rfl, rfl⟩, trivial⟩, ⟨⟨rfl, rfl⟩, trivial⟩, rfl, trivial⟩, ⟨rfl, rfl, rfl, trivial⟩, ⟨rfl, rfl⟩, ⟨rfl, rfl⟩, ⟨rfl, rfl⟩, ⟨rfl, rfl⟩, trivial⟩ ⟨.inl rfl, ⟨⟨rfl, rfl⟩, rfl⟩, ⟨⟨rfl, rfl⟩, rfl⟩, rfl, ⟨⟨rfl, rfl⟩, trivial⟩, ⟨⟨rfl, rfl⟩, trivial⟩, rfl, rfl, trivial⟩)⟩
           ·skip
            refine And.intro ?_ trivial
            refine And.intro hq1 ?_
            refine And.intro ?_ trivial
            refine And.intro hq2 ?_
            refine And.intro ?_ trivial
            refine ⟨r8_, hq3, ?_⟩
            refine And.intro ?_ trivial
            exact ⟨(r8_.1, r8_.2.1, r8_.2.2.1, r8_.2.2.2.1, r8_.2.2.2.2), he, (leads_ren [(10006000, 10004000), (10006001, 10004001), (10006002, 93901), (10006003, 10004002), (10006004, 93902), (10006005, 93903)] rfl rfl ⟨trivial, ⟨⟨⟨rfl, rfl⟩, trivial⟩, ⟨⟨rfl, rfl⟩, trivial⟩, rfl, trivial⟩, ⟨rfl, rfl, rfl, trivial⟩, ⟨rfl, rfl⟩, ⟨rfl, rfl⟩, ⟨rfl, rfl⟩, ⟨rfl, rfl⟩, trivial⟩ ⟨.inl rfl, ⟨⟨rfl, rfl⟩, rfl⟩, ⟨⟨rfl, rfl⟩, rfl⟩, rfl, ⟨⟨rfl, rfl⟩, trivial⟩, ⟨⟨rfl, rfl⟩, trivial⟩, rfl, rfl, trivial⟩)⟩
          ·skip
           refine And.intro hq1 ?_
           refine And.intro ?_ (And.intro ?_ (trivial))
           ·skip
            refine And.intro ?_ trivial
            refine And.intro ?_ trivial
            refine And.intro hq2 ?_
            refine And.intro ?_ trivial
            refine ⟨r8_, hq3, ?_⟩
            refine And.intro ?_ trivial
            exact ⟨(r8_.1, r8_.2.1, r8_.2.2.1, r8_.2.2.2.1, r8_.2.2.2.2), he, (leads_ren [(10006000, 10004000), (10006001, 10004001), (10006002, 93901), (10006003, 10004002), (10006004, 93902), (10006005, 93903)] rfl rfl ⟨trivial, ⟨⟨⟨rfl, rfl⟩, trivial⟩, ⟨⟨rfl, rfl⟩, trivial⟩, rfl, trivial⟩, ⟨rfl, rfl, rfl, trivial⟩, ⟨rfl, rfl⟩, ⟨rfl, rfl⟩, ⟨rfl, rfl⟩, ⟨rfl, rfl⟩, trivial⟩ ⟨.inl rfl, ⟨⟨rfl, rfl⟩, rfl⟩, ⟨⟨rfl, rfl⟩, rfl⟩, rfl, ⟨⟨rfl, rfl⟩, trivial⟩, ⟨⟨rfl, rfl⟩, trivial⟩, rfl, rfl, trivial⟩)⟩
           ·skip
            refine And.intro ?_ (And.intro ?_ (trivial))
            ·skip
             refine And.intro ?_ trivial
             refine And.intro hq2 ?_
             refine And.intro ?_ trivial
             refine ⟨r8_, hq3, ?_⟩
             refine And.intro ?_ trivial
             exact ⟨(r8_.1, r8_.2.1, r8_.2.2.1, r8_.2.2.2.1, r8_.2.2.2.2), he, (leads_ren [(10006000, 10004000), (10006001, 10004001), (10006002, 93901), (10006003, 10004002), (10006004, 93902), (10006005, 93903)] rfl rfl ⟨trivial, ⟨⟨⟨rfl, rfl⟩, trivial⟩, ⟨⟨rfl, rfl⟩, trivial⟩, rfl, trivial⟩, ⟨rfl, rfl, rfl, trivial⟩, ⟨rfl, rfl⟩, ⟨rfl, rfl⟩, ⟨rfl, rfl⟩, ⟨rfl, rfl⟩, trivial⟩ ⟨.inl rfl, ⟨⟨rfl, rfl⟩, rfl⟩, ⟨⟨rfl, rfl⟩, rfl⟩, rfl, ⟨⟨rfl, rfl⟩, trivial⟩, ⟨⟨rfl, rfl⟩, trivial⟩, rfl, rfl, trivial⟩)⟩
            ·skip
             refine And.intro hq2 ?_
             refine And.intro ?_ trivial
             refine And.intro ?_ trivial
             refine ⟨r8_, hq3, ?_⟩
             refine And.intro ?_ trivial
             exact ⟨(r8_.1, r8_.2.1, r8_.2.2.1, r8_.2.2.2.1, r8_.2.2.2.2), he, (leads_ren [(10006000, 10004000), (10006001, 10004001), (10006002, 93901), (10006003, 10004002), (10006004, 93902), (10006005, 93903)] rfl rfl ⟨trivial, ⟨⟨⟨rfl, rfl⟩, trivial⟩, ⟨⟨rfl, rfl⟩, trivial⟩, rfl, trivial⟩, ⟨rfl, rfl, rfl, trivial⟩, ⟨rfl, rfl⟩, ⟨rfl, rfl⟩, ⟨rfl, rfl⟩, ⟨rfl, rfl⟩, trivial⟩ ⟨.inl rfl, ⟨⟨rfl, rfl⟩, rfl⟩, ⟨⟨rfl, rfl⟩, rfl⟩, rfl, ⟨⟨rfl, rfl⟩, trivial⟩, ⟨⟨rfl, rfl⟩, trivial⟩, rfl, rfl, trivial⟩)⟩
          ·skip
           refine And.intro ?_ (And.intro ?_ (trivial))
           ·skip
            refine And.intro ?_ trivial
            refine And.intro hq1 ?_
            refine And.intro ?_ trivial
            refine And.intro hq2 ?_
            refine And.intro ?_ trivial
            refine ⟨r8_, hq3, ?_⟩
            refine And.intro ?_ trivial
            exact ⟨(r8_.1, r8_.2.1, r8_.2.2.1, r8_.2.2.2.1, r8_.2.2.2.2), he, (leads_ren [(10006000, 10004000), (10006001, 10004001), (10006002, 93901), (10006003, 10004002), (10006004, 93902), (10006005, 93903)] rfl rfl ⟨trivial, ⟨⟨⟨rfl, rfl⟩, trivial⟩, ⟨⟨rfl, rfl⟩, trivial⟩, rfl, trivial⟩, ⟨rfl, rfl, rfl, trivial⟩, ⟨rfl, rfl⟩, ⟨rfl, rfl⟩, ⟨rfl, rfl⟩, ⟨rfl, rfl⟩, trivial⟩ ⟨.inl rfl, ⟨⟨rfl, rfl⟩, rfl⟩, ⟨⟨rfl, rfl⟩, rfl⟩, rfl, ⟨⟨rfl, rfl⟩, trivial⟩, ⟨⟨rfl, rfl⟩, trivial⟩, rfl, rfl, trivial⟩)⟩
           ·skip
            refine And.intro hq1 ?_
            refine And.intro ?_ (And.intro ?_ (trivial))
            ·skip
             refine And.intro ?_ trivial
             refine And.intro hq2 ?_
             refine And.intro ?_ trivial
             refine ⟨r8_, hq3, ?_⟩
             refine And.intro ?_ trivial
             exact ⟨(r8_.1, r8_.2.1, r8_.2.2.1, r8_.2.2.2.1, r8_.2.2.2.2), he, (leads_ren [(10006000, 10004000), (10006001, 10004001), (10006002, 93901), (10006003, 10004002), (10006004, 93902), (10006005, 93903)] rfl rfl ⟨trivial, ⟨⟨⟨rfl, rfl⟩, trivial⟩, ⟨⟨rfl, rfl⟩, trivial⟩, rfl, trivial⟩, ⟨rfl, rfl, rfl, trivial⟩, ⟨rfl, rfl⟩, ⟨rfl, rfl⟩, ⟨rfl, rfl⟩, ⟨rfl, rfl⟩, trivial⟩ ⟨.inl rfl, ⟨⟨rfl, rfl⟩, rfl⟩, ⟨⟨rfl, rfl⟩, rfl⟩, rfl, ⟨⟨rfl, rfl⟩, trivial⟩, ⟨⟨rfl, rfl⟩, trivial⟩, rfl, rfl, trivial⟩)⟩
            ·skip
             refine And.intro hq2 ?_
             refine And.intro ?_ trivial
             refine And.intro ?_ trivial
             refine ⟨r8_, hq3, ?_⟩
             refine And.intro ?_ trivial
             exact ⟨(r8_.1, r8_.2.1, r8_.2.2.1, r8_.2.2.2.1, r8_.2.2.2.2), he, (leads_ren [(10006000, 10004000), (10006001, 10004001), (10006002, 93901), (10006003, 10004002), (10006004, 93902), (10006005, 93903)] rfl rfl ⟨trivial, ⟨⟨⟨rfl, rfl⟩, trivial⟩, ⟨⟨rfl, rfl⟩, trivial⟩, rfl, trivial⟩, ⟨rfl, rfl, rfl, trivial⟩, ⟨rfl, rfl⟩, ⟨rfl, rfl⟩, ⟨rfl, rfl⟩, ⟨rfl, rfl⟩, trivial⟩ ⟨.inl rfl, ⟨⟨rfl, rfl⟩, rfl⟩, ⟨⟨rfl, rfl⟩, rfl⟩, rfl, ⟨⟨rfl, rfl⟩, trivial⟩, ⟨⟨rfl, rfl⟩, trivial⟩, rfl, rfl, trivial⟩)⟩
         ·skip
          refine And.intro ?_ (And.intro ?_ (trivial))
          ·skip
           refine And.intro ?_ trivial
           refine And.intro ?_ trivial
           refine And.intro hq1 ?_
           refine And.intro ?_ trivial
           refine And.intro hq2 ?_
           refine And.intro ?_ trivial
           refine ⟨r8_, hq3, ?_⟩
           refine And.intro ?_ trivial
           exact ⟨(r8_.1, r8_.2.1, r8_.2.2.1, r8_.2.2.2.1, r8_.2.2.2.2), he, (leads_ren [(10006000, 10004000), (10006001, 10004001), (10006002, 93901), (10006003, 10004002), (10006004, 93902), (10006005, 93903)] rfl rfl ⟨trivial, ⟨⟨⟨rfl, rfl⟩, trivial⟩, ⟨⟨rfl, rfl⟩, trivial⟩, rfl, trivial⟩, ⟨rfl, rfl, rfl, trivial⟩, ⟨rfl, rfl⟩, ⟨rfl, rfl⟩, ⟨rfl, rfl⟩, ⟨rfl, rfl⟩, trivial⟩ ⟨.inl rfl, ⟨⟨rfl, rfl⟩, rfl⟩, ⟨⟨rfl, rfl⟩, rfl⟩, rfl, ⟨⟨rfl, rfl⟩, trivial⟩, ⟨⟨rfl, rfl⟩, trivial⟩, rfl, rfl, trivial⟩)⟩
          ·skip
           refine And.intro ?_ (And.intro ?_ (trivial))
           ·skip
            refine And.intro ?_ trivial
            refine And.intro hq1 ?_
            refine And.intro ?_ trivial
            refine And.intro hq2 ?_
            refine And.intro ?_ trivial
            refine ⟨r8_, hq3, ?_⟩
            refine And.intro ?_ trivial
            exact ⟨(r8_.1, r8_.2.1, r8_.2.2.1, r8_.2.2.2.1, r8_.2.2.2.2), he, (leads_ren [(10006000, 10004000), (10006001, 10004001), (10006002, 93901), (10006003, 10004002), (10006004, 93902), (10006005, 93903)] rfl rfl ⟨trivial, ⟨⟨⟨rfl, rfl⟩, trivial⟩, ⟨⟨rfl, rfl⟩, trivial⟩, rfl, trivial⟩, ⟨rfl, rfl, rfl, trivial⟩, ⟨rfl, rfl⟩, ⟨rfl, rfl⟩, ⟨rfl, rfl⟩, ⟨rfl, rfl⟩, trivial⟩ ⟨.inl rfl, ⟨⟨rfl, rfl⟩, rfl⟩, ⟨⟨rfl, rfl⟩, rfl⟩, rfl, ⟨⟨rfl, rfl⟩, trivial⟩, ⟨⟨rfl, rfl⟩, trivial⟩, rfl, rfl, trivial⟩)⟩
           ·skip
            refine And.intro hq1 ?_
            refine And.intro ?_ (And.intro ?_ (trivial))
            ·skip
             refine And.intro ?_ trivial
             refine And.intro hq2 ?_
             refine And.intro ?_ trivial
             refine ⟨r8_, hq3, ?_⟩
             refine And.intro ?_ trivial
             exact ⟨(r8_.1, r8_.2.1, r8_.2.2.1, r8_.2.2.2.1, r8_.2.2.2.2), he, (leads_ren [(10006000, 10004000), (10006001, 10004001), (10006002, 93901), (10006003, 10004002), (10006004, 93902), (10006005, 93903)] rfl rfl ⟨trivial, ⟨⟨⟨rfl, rfl⟩, trivial⟩, ⟨⟨rfl, rfl⟩, trivial⟩, rfl, trivial⟩, ⟨rfl, rfl, rfl, trivial⟩, ⟨rfl, rfl⟩, ⟨rfl, rfl⟩, ⟨rfl, rfl⟩, ⟨rfl, rfl⟩, trivial⟩ ⟨.inl rfl, ⟨⟨rfl, rfl⟩, rfl⟩, ⟨⟨rfl, rfl⟩, rfl⟩, rfl, ⟨⟨rfl, rfl⟩, trivial⟩, ⟨⟨rfl, rfl⟩, trivial⟩, rfl, rfl, trivial⟩)⟩
            ·skip
             refine And.intro hq2 ?_
             refine And.intro ?_ trivial
             refine And.intro ?_ trivial
             refine ⟨r8_, hq3, ?_⟩
             refine And.intro ?_ trivial
             exact ⟨(r8_.1, r8_.2.1, r8_.2.2.1, r8_.2.2.2.1, r8_.2.2.2.2), he, (leads_ren [(10006000, 10004000), (10006001, 10004001), (10006002, 93901), (10006003, 10004002), (10006004, 93902), (10006005, 93903)] rfl rfl ⟨trivial, ⟨⟨⟨rfl, rfl⟩, trivial⟩, ⟨⟨rfl, rfl⟩, trivial⟩, rfl, trivial⟩, ⟨rfl, rfl, rfl, trivial⟩, ⟨rfl, rfl⟩, ⟨rfl, rfl⟩, ⟨rfl, rfl⟩, ⟨rfl, rfl⟩, trivial⟩ ⟨.inl rfl, ⟨⟨rfl, rfl⟩, rfl⟩, ⟨⟨rfl, rfl⟩, rfl⟩, rfl, ⟨⟨rfl, rfl⟩, trivial⟩, ⟨⟨rfl, rfl⟩, trivial⟩, rfl, rfl, trivial⟩)⟩
       ·exact ⟨(i_21, i_01, i_11), ok_up he, (leads_ren [(10007000, 10004000), (10007001, 10004001), (10007002, 10004003), (10007003, 10004004)] rfl rfl ⟨trivial, ⟨⟨⟨rfl, rfl⟩, trivial⟩, ⟨⟨rfl, rfl⟩, trivial⟩, rfl, trivial⟩, ⟨rfl, rfl, rfl, trivial⟩, ⟨rfl, rfl⟩, ⟨rfl, rfl⟩, trivial⟩ ⟨.inl rfl, ⟨⟨rfl, rfl⟩, rfl⟩, ⟨⟨rfl, rfl⟩, rfl⟩, trivial⟩)⟩
   ·skip
    refine loop_model mixed tys_ok t_spec_l5Search__s (S := Int × (List Int)) (I := (fun (i, i1) => (envOf [(1, .c (.imm y0_ a1)), (2, .c (.ptr 10000000 0)), (4, .c (.ptr 10000001 0)), (7, .c (.own 10000002 false)), (8, .c (.int .i64 i))], [(0, .sl 56 y2_ o0 .shallow), (10000000, .rc [.own 0 false, .own 10000003 false, .int .i64 (a0_2 - (1:Int))]), (10000001, .rc [.nil, .nil, .int .i64 (0:Int)]), (10000002, .sl 3 y0_ i1 .shallow), (10000003, .sl 65 y5_ ([] : List D5_) .shallow)]))) (f := spec_l5Search__s_l3 a0_2 a1 o0) (K := (fun r => k (.tup [.agg [.own 902 false, .own 903 false, .int .i64 r.2.1], .c (.int .i64 r.1), .c (.own 901 false)]) [(0, .dead), (900, .rc [.own 902 false, .own 903 false, .int .i64 r.2.1]), (901, .sl 4 .bool r.2.2.1 .shallow), (902, .sl 56 y2_ r.2.2.2.1 .shallow), (903, .sl 65 y5_ r.2.2.2.2 .shallow)])) he (leads_ren [(10000000, 2), (10000001, 4), (10000002, 31)] rfl rfl ⟨⟨rfl, rfl⟩, ⟨⟨⟨rfl, rfl⟩, trivial⟩, ⟨rfl, trivial⟩, rfl, trivial⟩, ⟨rfl, rfl, rfl, trivial⟩, ⟨rfl, rfl⟩, trivial, trivial⟩ ⟨.inl rfl, ⟨⟨rfl, rfl⟩, rfl⟩, ⟨⟨rfl, rfl⟩, rfl⟩, ⟨⟨rfl, rfl⟩, trivial⟩, rfl, trivial⟩) ?_
    rintro ⟨i, i1⟩ J1 he
    refine go_if he (fun he => ?_) fun he => ?_
    ·refine go_rq he fun he => ?_
     refine go_bind he fun r2_ he => ?_
     refine go_rq he fun he => ?_
     have he := ok_some he
     exact ⟨((i + (1:Int)), r2_), he, (leads_ren [] rfl rfl ⟨⟨rfl, rfl⟩, ⟨⟨⟨rfl, rfl⟩, trivial⟩, ⟨⟨rfl, rfl⟩, trivial⟩, rfl, trivial⟩, ⟨rfl, rfl, rfl, trivial⟩, ⟨rfl, rfl⟩, ⟨rfl, rfl⟩, trivial⟩ ⟨.inl rfl, ⟨⟨rfl, rfl⟩, rfl⟩, ⟨⟨rfl, rfl⟩, rfl⟩, ⟨⟨rfl, rfl⟩, trivial⟩, rfl, trivial⟩)⟩
    ·exact ⟨i1, ok_up he, (leads_ren [(10001000, 10000000), (10001001, 10000001), (10001002, 10000002), (10001003, 10000003)] rfl rfl ⟨⟨rfl, rfl⟩, ⟨⟨⟨rfl, rfl⟩, trivial⟩, ⟨⟨rfl, rfl⟩, trivial⟩, rfl, trivial⟩, ⟨rfl, rfl, rfl, trivial⟩, ⟨rfl, rfl⟩, ⟨rfl, rfl⟩, trivial⟩ ⟨.inl rfl, ⟨⟨rfl, rfl⟩, rfl⟩, ⟨⟨rfl, rfl⟩, rfl⟩, ⟨⟨rfl, rfl⟩, trivial⟩, trivial⟩)⟩
 ·have he := ok_some he
  exact ⟨rfl, _, _, (leads_ren [(900, 4), (901, 26), (902, 0)] (l := [(4, .c (.ptr 900 0)), (5, .c (.int .i64 (0:Int))), (6, .c (.own 901 false))]) (st' := [(0, .dead), (900, .rc [.own 902 false, .own 903 false, .int .i64 a0_2]), (901, .sl 4 .bool ([] : List Bool) .shallow), (902, .sl 56 y2_ o0 .shallow), (903, .sl 65 y5_ ([] : List D5_) .shallow)]) rfl rfl ⟨trivial, ⟨⟨⟨rfl, rfl⟩, trivial⟩, ⟨rfl, trivial⟩, rfl, trivial⟩, ⟨rfl, rfl⟩, ⟨rfl, rfl⟩, trivial, trivial⟩ ⟨⟨⟨rfl, rfl⟩, rfl⟩, rfl, ⟨⟨rfl, rfl⟩, trivial⟩, trivial⟩), he⟩

noncomputable def c_spec_SolveProblem : Con := fun args st => match args, st with
  | [.c (.imm (.pair (.sl (.pair (.int .i64) (.int .i64))) (.int .i64)) a0), .c (.int .i64 a1)], [] => .opt (Int × (List Bool) × (List D5_)) (spec_SolveProblem a0 a1) (fun r => .ret (.tup [.c (.int .i64 r.1), .c (.own 900 false), .c (.own 901 false)]) [(900, .sl 4 .bool r.2.1 .shallow), (901, .sl 65 y5_ r.2.2 (.deep true .no))])
  | _, _ => .fail

noncomputable def C_spec_SolveProblem : Cfg := { y := tys, n := 65, h := 0, tab := [(20, c_spec_ProblemValid), (39, c_spec_l5Search__s), (40, c_spec_l1Copy)], cut := [13], hand := [(39, [0])], good := [], deep := [25, 40, 41, 60], sched := [], nils := [39] }

theorem t_spec_SolveProblem : TabOk Tryz.prog C_spec_SolveProblem := by
  refine tabOk_of ?_
  simp only [C_spec_SolveProblem, List.forall_mem_cons]
  exact ⟨k_spec_ProblemValid, k_spec_l5Search__s, k_spec_l1Copy, fun p h => by cases h⟩

theorem k_spec_SolveProblem : Entry Tryz.prog 23 c_spec_SolveProblem := by
 refine entry_by (C := C_spec_SolveProblem) mixed tys_ok t_spec_SolveProblem (fn := Tryz.f23) (c := bd Tryz.f23) (by kernel_rfl) (by kernel_rfl) (by kernel_rfl) (by kernel_rfl) ?_
 intro args st k he
 unfold c_spec_SolveProblem at he
 split at he
 rotate_left
 ·exact he.elim
 rename_i a0 a1
 have he : Ok (spec_SolveProblem a0 a1) (fun r => k (.tup [.c (.int .i64 r.1), .c (.own 900 false), .c (.own 901 false)]) [(900, .sl 4 .bool r.2.1 .shallow), (901, .sl 65 y5_ r.2.2 (.deep true .no))]) := he
 refine ⟨rfl, rfl, ?_⟩
 refine go_bind he fun r1_ he => ?_
 refine go_if2 he (fun he => ?_) fun he => ?_
 ·refine go_if2 he (fun he => ?_) fun he => ?_
  ·refine go_if he (fun he => ?_) fun he => ?_
   ·have he := ok_some he
    exact ⟨rfl, _, _, (leads_ren [(900, 24), (901, 25)] (l := [(4, .c (.int .i64 (3:Int))), (5, .c (.own 900 false)), (6, .c (.own 901 false))]) (st' := [(900, .sl 4 .bool ([] : List Bool) .shallow), (901, .sl 65 y5_ ([] : List D5_) (.deep true .no))]) rfl rfl ⟨⟨rfl, rfl⟩, ⟨rfl, rfl⟩, trivial⟩ ⟨rfl, ⟨⟨rfl, rfl⟩, trivial⟩, ⟨⟨rfl, rfl⟩, trivial⟩, trivial⟩), he⟩
   ·refine go_rq he fun he => ?_
    refine go_bind he fun r2_ he => ?_
    refine go_if he (fun he => ?_) fun he => ?_
    ·have he := ok_some he
     exact ⟨rfl, _, _, (leads_ren [(900, 33901), (901, 40)] (l := [(4, .c (.int .i64 r2_.1)), (5, .c (.own 900 false)), (6, .c (.own 901 false))]) (st' := [(900, .sl 4 .bool r2_.2.2.1 .shallow), (901, .sl 65 y5_ ([] : List D5_) (.deep true .no))]) rfl rfl ⟨⟨rfl, rfl⟩, ⟨rfl, rfl⟩, trivial⟩ ⟨rfl, ⟨⟨rfl, rfl⟩, trivial⟩, ⟨⟨rfl, rfl⟩, trivial⟩, trivial⟩), he⟩
    ·refine seq_model mixed tys_ok t_spec_SolveProblem (S := (List D5_)) (I := (fun i2 => (envOf [(8, .c (.int .i64 r2_.1)), (10, .c (.own 10001000 false))], [(10001000, .sl 65 y5_ i2 (.deep true .no))]))) (B := fun s => Ok (spec_SolveProblem_j1 r2_ s) (fun r => k (.tup [.c (.int .i64 r.1), .c (.own 900 false), .c (.own 901 false)]) [(900, .sl 4 .bool r.2.1 .shallow), (901, .sl 65 y5_ r.2.2 (.deep true .no))])) ?_ ?_
     ·rintro i2 he
      have he := ok_some he
      exact ⟨rfl, _, _, (leads_ren [(900, 63), (901, 10001000)] (l := [(4, .c (.int .i64 r2_.1)), (5, .c (.own 900 false)), (6, .c (.own 901 false))]) (st' := [(900, .sl 4 .bool ([] : List Bool) .shallow), (901, .sl 65 y5_ i2 (.deep true .no))]) rfl rfl ⟨⟨rfl, rfl⟩, ⟨rfl, rfl⟩, trivial⟩ ⟨rfl, ⟨⟨rfl, rfl⟩, trivial⟩, ⟨⟨rfl, rfl⟩, trivial⟩, trivial⟩), he⟩
     ·skip
      refine loop_model mixed tys_ok t_spec_SolveProblem (S := Int × (List D5_)) (I := (fun (i, i1) => (envOf [(7, .c (.ptr 10000000 0)), (8, .c (.int .i64 r2_.1)), (10, .c (.own 10000001 false)), (11, .c (.int .i64 i))], [(10000000, .rc [.own 10000002 false, .own 10000003 false, .int .i64 r2_.2.1]), (10000001, .sl 65 y5_ i1 (.deep true .no)), (10000002, .sl 56 y2_ r2_.2.2.2.1 .shallow), (10000003, .sl 65 y5_ r2_.2.2.2.2 .shallow)]))) (f := spec_SolveProblem_l1 r2_) (K := (fun r => k (.tup [.c (.int .i64 r.1), .c (.own 900 false), .c (.own 901 false)]) [(900, .sl 4 .bool r.2.1 .shallow), (901, .sl 65 y5_ r.2.2 (.deep true .no))])) he (leads_ren [(10000000, 7), (10000001, 41), (10000002, 33902), (10000003, 33903)] rfl rfl ⟨⟨⟨⟨rfl, rfl⟩, trivial⟩, ⟨⟨rfl, rfl⟩, trivial⟩, rfl, trivial⟩, ⟨rfl, rfl⟩, ⟨rfl, rfl⟩, ⟨rfl, rfl⟩, trivial⟩ ⟨⟨⟨rfl, rfl⟩, rfl⟩, rfl, ⟨⟨rfl, rfl⟩, trivial⟩, rfl, trivial⟩) ?_
      rintro ⟨i, i1⟩ J1 he
      refine go_if he (fun he => ?_) fun he => ?_
      ·refine go_rq he fun he => ?_
       refine go_bind he fun r4_ he => ?_
       refine go_rq he fun he => ?_
       refine go_rq he fun he => ?_
       have he := ok_some he
       exact ⟨((i + (1:Int)), (i1 ++ [((r2_.2.2.2.2.getD i.toNat (0, (0, (0, ([], 0))))).1, ((r2_.2.2.2.2.getD i.toNat (0, (0, (0, ([], 0))))).2.1, ((r2_.2.2.2.2.getD i.toNat (0, (0, (0, ([], 0))))).2.2.1, (r4_.2, r4_.1))))])), he, (leads_ren [(10000001, 61)] rfl rfl ⟨⟨⟨⟨rfl, rfl⟩, trivial⟩, ⟨⟨rfl, rfl⟩, trivial⟩, rfl, trivial⟩, ⟨rfl, rfl⟩, ⟨rfl, rfl⟩, ⟨rfl, rfl⟩, trivial⟩ ⟨⟨⟨rfl, rfl⟩, rfl⟩, rfl, ⟨⟨rfl, rfl⟩, trivial⟩, rfl, trivial⟩)⟩
      ·exact ⟨i1, ok_up he, (leads_ren [(10001000, 10000001)] rfl rfl ⟨⟨rfl, rfl⟩, trivial⟩ ⟨rfl, ⟨⟨rfl, rfl⟩, trivial⟩, trivial⟩)⟩
  ·have he := ok_some he
   exact ⟨rfl, _, _, (leads_ren [(900, 24), (901, 25)] (l := [(4, .c (.int .i64 (3:Int))), (5, .c (.own 900 false)), (6, .c (.own 901 false))]) (st' := [(900, .sl 4 .bool ([] : List Bool) .shallow), (901, .sl 65 y5_ ([] : List D5_) (.deep true .no))]) rfl rfl ⟨⟨rfl, rfl⟩, ⟨rfl, rfl⟩, trivial⟩ ⟨rfl, ⟨⟨rfl, rfl⟩, trivial⟩, ⟨⟨rfl, rfl⟩, trivial⟩, trivial⟩), he⟩
 ·have he := ok_some he
  exact ⟨rfl, _, _, (leads_ren [(900, 24), (901, 25)] (l := [(4, .c (.int .i64 (3:Int))), (5, .c (.own 900 false)), (6, .c (.own 901 false))]) (st' := [(900, .sl 4 .bool ([] : List Bool) .shallow), (901, .sl 65 y5_ ([] : List D5_) (.deep true .no))]) rfl rfl ⟨⟨rfl, rfl⟩, ⟨rfl, rfl⟩, trivial⟩ ⟨rfl, ⟨⟨rfl, rfl⟩, trivial⟩, ⟨⟨rfl, rfl⟩, trivial⟩, trivial⟩), he⟩

noncomputable def c_spec_l12Clause : Con := fun args st => match args, st with
  | [.agg [.imm (.pair (.int .i64) (.int .i64)) c__0, .int .i64 c__1]], [] => .opt (Bool × (List Int)) (spec_l12Clause (c__0, c__1)) (fun r => .ret (.tup [.c (.own 900 false), .c (.bool r.1)]) [(900, .sl 3 y0_ r.2 .shallow)])
  | _, _ => .fail

noncomputable def C_spec_l12Clause : Cfg := { y := tys, n := 39, h := 0, tab := [(38, c_spec_ConstraintValid)], cut := [8], hand := [], good := [], deep := [], sched := [(8, (.first 0 (.alt 1 (.alt 2 (.first 3 (.first 4 (.first 8 (.alt 5 (.first 6 (.first 7 (.first 9 .done))) .stop)))) .stop) .stop)))] }

theorem t_spec_l12Clause : TabOk Tryz.prog C_spec_l12Clause := by
  refine tabOk_of ?_
  simp only [C_spec_l12Clause, List.forall_mem_cons]
  exact ⟨k_spec_ConstraintValid, fun p h => by cases h⟩

theorem k_spec_l12Clause : Entry Tryz.prog 62 c_spec_l12Clause := by
 refine entry_by (C := C_spec_l12Clause) mixed tys_ok t_spec_l12Clause (fn := Tryz.f62) (c := bd Tryz.f62) (by kernel_rfl) (by kernel_rfl) (by kernel_rfl) (by kernel_rfl) ?_
 intro args st k he
 unfold c_spec_l12Clause at he
 split at he
 rotate_left
 ·exact he.elim
 rename_i c__0 c__1
 have he : Ok (spec_l12Clause (c__0, c__1)) (fun r => k (.tup [.c (.own 900 false), .c (.bool r.1)]) [(900, .sl 3 y0_ r.2 .shallow)]) := he
 refine ⟨rfl, rfl, ?_⟩
 refine seq_model mixed tys_ok t_spec_l12Clause (S := (List Int)) (I := (fun out1 => (envOf [(1, .c (.ptr 10001000 0)), (4, .c (.own 10001001 false))], [(10001000, .rc [.imm y1_ (c__0, c__1).1, .int .i64 (c__0, c__1).2]), (10001001, .sl 3 y0_ out1 .shallow)]))) (B := fun s => Ok (spec_l12Clause_j1 (c__0, c__1) s) (fun r => k (.tup [.c (.own 900 false), .c (.bool r.1)]) [(900, .sl 3 y0_ r.2 .shallow)])) ?_ ?_
 ·rintro out1 he
  refine And.intro (by kernel_rfl) ?_
  refine And.intro ?_ trivial
  refine And.intro ?_ trivial
  refine go_bind he fun r2_ he => ?_
  refine go_if he (fun he => ?_) fun he => ?_
  ·refine And.intro ?_ trivial
   have he := ok_some he
   exact ⟨rfl, _, _, (leads_ren [(900, 10001001)] (l := [(2, .c (.own 900 false)), (3, .c (.bool ((c__0, c__1).2 == (1:Int))))]) (st' := [(900, .sl 3 y0_ out1 .shallow)]) rfl rfl ⟨⟨rfl, rfl⟩, trivial⟩ ⟨⟨⟨rfl, rfl⟩, trivial⟩, .inl rfl, trivial⟩), he⟩
  ·refine And.intro ?_ trivial
   have he := ok_some he
   exact ⟨rfl, _, _, (leads_ren [(900, 10001001)] (l := [(2, .c (.own 900 false)), (3, .c (.bool false))]) (st' := [(900, .sl 3 y0_ out1 .shallow)]) rfl rfl ⟨⟨rfl, rfl⟩, trivial⟩ ⟨⟨⟨rfl, rfl⟩, trivial⟩, .inr rfl, trivial⟩), he⟩
 ·skip
  refine loop_model mixed tys_ok t_spec_l12Clause (S := Int × (List Int)) (I := (fun (i, out) => (envOf [(1, .c (.ptr 10000000 0)), (4, .c (.own 10000001 false)), (5, .c (.int .i64 i))], [(10000000, .rc [.imm y1_ (c__0, c__1).1, .int .i64 (c__0, c__1).2]), (10000001, .sl 3 y0_ out .shallow)]))) (f := spec_l12Clause_l1 (c__0, c__1)) (K := (fun r => k (.tup [.c (.own 900 false), .c (.bool r.1)]) [(900, .sl 3 y0_ r.2 .shallow)])) he (leads_ren [(10000000, 1), (10000001, 6)] rfl rfl ⟨⟨.inl rfl, rfl, trivial⟩, ⟨rfl, rfl⟩, trivial⟩ ⟨⟨⟨rfl, rfl⟩, rfl⟩, ⟨⟨rfl, rfl⟩, trivial⟩, rfl, trivial⟩) ?_
  rintro ⟨i, out⟩ J1 he
  refine go_if he (fun he => ?_) fun he => ?_
  ·refine go_rq he fun he => ?_
   refine go_if he (fun he => ?_) fun he => ?_
   ·have he := ok_some he
    exact ⟨rfl, _, _, (leads_ren [(900, 21)] (l := [(2, .c (.own 900 false)), (3, .c (.bool false))]) (st' := [(900, .sl 3 y0_ ([] : List Int) .shallow)]) rfl rfl ⟨⟨rfl, rfl⟩, trivial⟩ ⟨⟨⟨rfl, rfl⟩, trivial⟩, .inr rfl, trivial⟩), he⟩
   ·refine go_rq he fun he => ?_
    refine go_rq he fun he => ?_
    refine go_rq he fun he => ?_
    have he := ok_some he
    exact ⟨((i + (1:Int)), (out ++ [((c__0, c__1).1.getD i.toNat (0, 0)).2])), he, (leads_ren [(10000001, 30)] rfl rfl ⟨⟨.inl rfl, rfl, trivial⟩, ⟨rfl, rfl⟩, trivial⟩ ⟨⟨⟨rfl, rfl⟩, rfl⟩, ⟨⟨rfl, rfl⟩, trivial⟩, rfl, trivial⟩)⟩
  ·exact ⟨out, ok_up he, (leads_ren [(10001000, 10000000), (10001001, 10000001)] rfl rfl ⟨⟨.inl rfl, rfl, trivial⟩, ⟨rfl, rfl⟩, trivial⟩ ⟨⟨⟨rfl, rfl⟩, rfl⟩, ⟨⟨rfl, rfl⟩, trivial⟩, trivial⟩)⟩

noncomputable def c_spec_l12Lift : Con := fun args st => match args, st with
  | [.agg [.int .i64 s__0, .int .i64 s__1, .int .i64 s__2, .imm (.pair (.int .i64) (.int .i64)) s__3, .int .i64 s__4], .c (.imm (.int .i64) cube)], [] => .opt (Bool × Int × Int × Int × Int × (List D1_)) (spec_l12Lift (s__0, (s__1, (s__2, (s__3, s__4)))) cube) (fun r => .ret (.tup [.agg [.int .i64 r.2.1, .int .i64 r.2.2.1, .int .i64 r.2.2.2.1, .own 901 false, .int .i64 r.2.2.2.2.1], .c (.bool r.1)]) [(900, .rc [.int .i64 r.2.1, .int .i64 r.2.2.1, .int .i64 r.2.2.2.1, .own 901 false, .int .i64 r.2.2.2.2.1]), (901, .sl 76 y1_ r.2.2.2.2.2 .shallow)])
  | _, _ => .fail

noncomputable def C_spec_l12Lift : Cfg := { y := tys, n := 59, h := 0, tab := [(62, c_spec_l12Clause), (63, c_spec_ClauseOf)], cut := [8], hand := [], good := [], deep := [], sched := [] }

theorem t_spec_l12Lift : TabOk Tryz.prog C_spec_l12Lift := by
  refine tabOk_of ?_
  simp only [C_spec_l12Lift, List.forall_mem_cons]
  exact ⟨k_spec_l12Clause, k_spec_ClauseOf, fun p h => by cases h⟩

theorem k_spec_l12Lift : Entry Tryz.prog 41 c_spec_l12Lift := by
 refine entry_by (C := C_spec_l12Lift) mixed tys_ok t_spec_l12Lift (fn := Tryz.f41) (c := bd Tryz.f41) (by kernel_rfl) (by kernel_rfl) (by kernel_rfl) (by kernel_rfl) ?_
 intro args st k he
 unfold c_spec_l12Lift at he
 split at he
 rotate_left
 ·exact he.elim
 rename_i s__0 s__1 s__2 s__3 s__4 cube
 have he : Ok (spec_l12Lift (s__0, (s__1, (s__2, (s__3, s__4)))) cube) (fun r => k (.tup [.agg [.int .i64 r.2.1, .int .i64 r.2.2.1, .int .i64 r.2.2.2.1, .own 901 false, .int .i64 r.2.2.2.2.1], .c (.bool r.1)]) [(900, .rc [.int .i64 r.2.1, .int .i64 r.2.2.1, .int .i64 r.2.2.2.1, .own 901 false, .int .i64 r.2.2.2.2.1]), (901, .sl 76 y1_ r.2.2.2.2.2 .shallow)]) := he
 refine ⟨rfl, rfl, ?_⟩
 refine go_bind he fun r1_ he => ?_
 refine go_if2 he (fun he => ?_) fun he => ?_
 ·refine go_if2 he (fun he => ?_) fun he => ?_
  ·refine go_if2 he (fun he => ?_) fun he => ?_
   ·refine go_if he (fun he => ?_) fun he => ?_
    ·have he := ok_some he
     exact ⟨rfl, _, _, (leads_ren [(900, 4)] (l := [(4, .c (.ptr 900 0)), (5, .c (.bool false))]) (st' := [(900, .rc [.int .i64 (0:Int), .int .i64 (0:Int), .int .i64 (0:Int), .own 901 false, .int .i64 (0:Int)]), (901, .sl 76 y1_ ([] : List D1_) .shallow)]) rfl rfl ⟨⟨rfl, rfl, rfl, ⟨rfl, trivial⟩, rfl, trivial⟩, trivial, trivial⟩ ⟨⟨⟨rfl, rfl⟩, rfl⟩, .inr rfl, trivial⟩), he⟩
    ·refine seq_model mixed tys_ok t_spec_l12Lift (S := (List Int)) (I := (fun lits1 => (envOf [(4, .c (.ptr 10001000 0)), (6, .c (.own 10001001 false))], [(10001000, .rc [.int .i64 (0:Int), .int .i64 (0:Int), .int .i64 (0:Int), .nil, .int .i64 (0:Int)]), (10001001, .sl 3 y0_ lits1 .shallow)]))) (B := fun s => Ok (spec_l12Lift_j1 s) (fun r => k (.tup [.agg [.int .i64 r.2.1, .int .i64 r.2.2.1, .int .i64 r.2.2.2.1, .own 901 false, .int .i64 r.2.2.2.2.1], .c (.bool r.1)]) [(900, .rc [.int .i64 r.2.1, .int .i64 r.2.2.1, .int .i64 r.2.2.2.1, .own 901 false, .int .i64 r.2.2.2.2.1]), (901, .sl 76 y1_ r.2.2.2.2.2 .shallow)])) ?_ ?_
     ·rintro lits1 he
      refine go_bind he fun r2_ he => ?_
      refine go_if he (fun he => ?_) fun he => ?_
      ·have he := ok_some he
       exact ⟨rfl, _, _, (leads_ren [(900, 10001000)] (l := [(4, .c (.ptr 900 0)), (5, .c (.bool false))]) (st' := [(900, .rc [.int .i64 (0:Int), .int .i64 (0:Int), .int .i64 (0:Int), .own 901 false, .int .i64 (0:Int)]), (901, .sl 76 y1_ ([] : List D1_) .shallow)]) rfl rfl ⟨⟨rfl, rfl, rfl, ⟨rfl, trivial⟩, rfl, trivial⟩, trivial, trivial⟩ ⟨⟨⟨rfl, rfl⟩, rfl⟩, .inr rfl, trivial⟩), he⟩
      ·have he := ok_some he
       exact ⟨rfl, _, _, (leads_ren [(900, 10001000), (901, 52901)] (l := [(4, .c (.ptr 900 0)), (5, .c (.bool true))]) (st' := [(900, .rc [.int .i64 (7:Int), .int .i64 (0:Int), .int .i64 (0:Int), .own 901 false, .int .i64 r2_.2.1]), (901, .sl 76 y1_ r2_.2.2 .shallow)]) rfl rfl ⟨⟨rfl, rfl, rfl, ⟨⟨rfl, rfl⟩, trivial⟩, rfl, trivial⟩, ⟨rfl, rfl⟩, trivial⟩ ⟨⟨⟨rfl, rfl⟩, rfl⟩, .inr rfl, trivial⟩), he⟩
     ·skip
      refine loop_model mixed tys_ok t_spec_l12Lift (S := Int × (List Int)) (I := (fun (i, lits) => (envOf [(1, .c (.imm y0_ cube)), (4, .c (.ptr 10000000 0)), (6, .c (.own 10000001 false)), (8, .c (.int .i64 i))], [(10000000, .rc [.int .i64 (0:Int), .int .i64 (0:Int), .int .i64 (0:Int), .nil, .int .i64 (0:Int)]), (10000001, .sl 3 y0_ lits .shallow)]))) (f := spec_l12Lift_l1 cube) (K := (fun r => k (.tup [.agg [.int .i64 r.2.1, .int .i64 r.2.2.1, .int .i64 r.2.2.2.1, .own 901 false, .int .i64 r.2.2.2.2.1], .c (.bool r.1)]) [(900, .rc [.int .i64 r.2.1, .int .i64 r.2.2.1, .int .i64 r.2.2.2.1, .own 901 false, .int .i64 r.2.2.2.2.1]), (901, .sl 76 y1_ r.2.2.2.2.2 .shallow)])) he (leads_ren [(10000000, 4), (10000001, 15900)] rfl rfl ⟨⟨rfl, rfl, rfl, rfl, rfl, trivial⟩, ⟨rfl, rfl⟩, trivial⟩ ⟨.inl rfl, ⟨⟨rfl, rfl⟩, rfl⟩, ⟨⟨rfl, rfl⟩, trivial⟩, rfl, trivial⟩) ?_
      rintro ⟨i, lits⟩ J1 he
      refine go_if he (fun he => ?_) fun he => ?_
      ·refine go_rq he fun he => ?_
       refine go_rq he fun he => ?_
       refine go_rq he fun he => ?_
       refine go_rq he fun he => ?_
       have he := ok_some he
       exact ⟨((i + (1:Int)), (lits ++ [(0 - (cube.getD i.toNat 0))])), he, (leads_ren [(10000001, 48)] rfl rfl ⟨⟨rfl, rfl, rfl, rfl, rfl, trivial⟩, ⟨rfl, rfl⟩, trivial⟩ ⟨.inl rfl, ⟨⟨rfl, rfl⟩, rfl⟩, ⟨⟨rfl, rfl⟩, trivial⟩, rfl, trivial⟩)⟩
      ·exact ⟨lits, ok_up he, (leads_ren [(10001000, 10000000), (10001001, 10000001)] rfl rfl ⟨⟨rfl, rfl, rfl, rfl, rfl, trivial⟩, ⟨rfl, rfl⟩, trivial⟩ ⟨⟨⟨rfl, rfl⟩, rfl⟩, ⟨⟨rfl, rfl⟩, trivial⟩, trivial⟩)⟩
   ·have he := ok_some he
    exact ⟨rfl, _, _, (leads_ren [(900, 4)] (l := [(4, .c (.ptr 900 0)), (5, .c (.bool false))]) (st' := [(900, .rc [.int .i64 (0:Int), .int .i64 (0:Int), .int .i64 (0:Int), .own 901 false, .int .i64 (0:Int)]), (901, .sl 76 y1_ ([] : List D1_) .shallow)]) rfl rfl ⟨⟨rfl, rfl, rfl, ⟨rfl, trivial⟩, rfl, trivial⟩, trivial, trivial⟩ ⟨⟨⟨rfl, rfl⟩, rfl⟩, .inr rfl, trivial⟩), he⟩
  ·have he := ok_some he
   exact ⟨rfl, _, _, (leads_ren [(900, 4)] (l := [(4, .c (.ptr 900 0)), (5, .c (.bool false))]) (st' := [(900, .rc [.int .i64 (0:Int), .int .i64 (0:Int), .int .i64 (0:Int), .own 901 false, .int .i64 (0:Int)]), (901, .sl 76 y1_ ([] : List D1_) .shallow)]) rfl rfl ⟨⟨rfl, rfl, rfl, ⟨rfl, trivial⟩, rfl, trivial⟩, trivial, trivial⟩ ⟨⟨⟨rfl, rfl⟩, rfl⟩, .inr rfl, trivial⟩), he⟩
 ·have he := ok_some he
  exact ⟨rfl, _, _, (leads_ren [(900, 4)] (l := [(4, .c (.ptr 900 0)), (5, .c (.bool false))]) (st' := [(900, .rc [.int .i64 (0:Int), .int .i64 (0:Int), .int .i64 (0:Int), .own 901 false, .int .i64 (0:Int)]), (901, .sl 76 y1_ ([] : List D1_) .shallow)]) rfl rfl ⟨⟨rfl, rfl, rfl, ⟨rfl, trivial⟩, rfl, trivial⟩, trivial, trivial⟩ ⟨⟨⟨rfl, rfl⟩, rfl⟩, .inr rfl, trivial⟩), he⟩

noncomputable def c_spec_l12Join : Con := fun args st => match args, st with
  | [.c (.own 0 false), .c (.imm (.int .i64) vars)], [(0, .sl 65 (.pair (.int .i64) (.pair (.int .i64) (.pair (.int .i64) (.pair (.sl (.pair (.int .i64) (.int .i64))) (.int .i64))))) out (.deep true .no))] => .opt ((List D5_)) (spec_l12Join vars out) (fun r => .ret (.c (.own 900 false)) [(0, .dead), (900, .sl 65 y5_ r (.deep true .no))])
  | _, _ => .fail

noncomputable def C_spec_l12Join : Cfg := { y := tys, n := 42, h := 1, tab := [(22, c_spec_l12Cubes), (41, c_spec_l12Lift)], cut := [], hand := [], good := [], deep := [39], sched := [] }

theorem t_spec_l12Join : TabOk Tryz.prog C_spec_l12Join := by
  refine tabOk_of ?_
  simp only [C_spec_l12Join, List.forall_mem_cons]
  exact ⟨k_spec_l12Cubes, k_spec_l12Lift, fun p h => by cases h⟩

theorem k_spec_l12Join : Entry Tryz.prog 42 c_spec_l12Join := by
 refine entry_by (C := C_spec_l12Join) mixed tys_ok t_spec_l12Join (fn := Tryz.f42) (c := bd Tryz.f42) (by kernel_rfl) (by kernel_rfl) (by kernel_rfl) (by kernel_rfl) ?_
 intro args st k he
 unfold c_spec_l12Join at he
 split at he
 rotate_left
 ·exact he.elim
 rename_i vars out
 have he : Ok (spec_l12Join vars out) (fun r => k (.c (.own 900 false)) [(0, .dead), (900, .sl 65 y5_ r (.deep true .no))]) := he
 refine ⟨rfl, rfl, ?_⟩
 refine go_rq he fun he => ?_
 refine loop_model mixed tys_ok t_spec_l12Join (S := Int × (List D5_)) (I := (fun (n, out2) => (envOf [(0, .c (.own 10000000 false)), (1, .c (.imm y0_ vars)), (5, .c (.int .i64 n))], [(0, .dead), (10000000, .sl 65 y5_ out2 (.deep true .no))]))) (f := spec_l12Join_l1 vars) (K := (fun r => k (.c (.own 900 false)) [(0, .dead), (900, .sl 65 y5_ r (.deep true .no))])) he (leads_ren [(10000000, 0)] rfl rfl ⟨trivial, ⟨rfl, rfl⟩, trivial⟩ ⟨⟨⟨rfl, rfl⟩, trivial⟩, .inl rfl, rfl, trivial⟩) ?_
 rintro ⟨n, out2⟩ J1 he
 refine go_if he (fun he => ?_) fun he => ?_
 ·refine go_rq he fun he => ?_
  refine go_bind he fun r4_ he => ?_
  refine loop_model mixed tys_ok t_spec_l12Join (S := Int × (List D5_) × (List (List Int))) (I := (fun (k_1, out3, cubes1) => (envOf [(0, .c (.own 10002000 false)), (1, .c (.imm y0_ vars)), (5, .c (.int .i64 n)), (6, .c (.own 10002001 false)), (7, .c (.int .i64 k_1))], [(0, .dead), (10002000, .sl 65 y5_ out3 (.deep true .no)), (10002001, .sl 23 (.sl y0_) cubes1 (.deep true .no))]))) (f := spec_l12Join_l2 n) (K := (LK J1 (fun r => k (.c (.own 900 false)) [(0, .dead), (900, .sl 65 y5_ r (.deep true .no))]))) he (leads_ren [(10002000, 10000000), (10002001, 21900)] rfl rfl ⟨trivial, ⟨rfl, rfl⟩, ⟨rfl, rfl⟩, trivial⟩ ⟨⟨⟨rfl, rfl⟩, trivial⟩, .inl rfl, rfl, ⟨⟨rfl, rfl⟩, trivial⟩, rfl, trivial⟩) ?_
  rintro ⟨k_1, out3, cubes1⟩ J2 he
  refine go_if he (fun he => ?_) fun he => ?_
  ·refine go_rq he fun he => ?_
   refine go_bind he fun r6_ he => ?_
   refine go_rq he fun he => ?_
   refine go_rq he fun he => ?_
   have he := ok_some he
   exact ⟨((k_1 + (1:Int)), (out3 ++ [(r6_.2.1, (r6_.2.2.1, (r6_.2.2.2.1, (r6_.2.2.2.2.2, r6_.2.2.2.2.1))))]), (cubes1.set k_1.toNat (cubes1.getD k_1.toNat []))), he, ((leads_close [10002001] rfl).trans (leads_ren [(10002000, 40)] (l := [(0, .c (.own 10002000 false)), (1, .c (.imm y0_ vars)), (5, .c (.int .i64 n)), (6, .c (.own 10002001 false)), (7, .c (.int .i64 (k_1 + (1:Int))))]) (st' := [(0, .dead), (10002000, .sl 65 y5_ (out3 ++ [(r6_.2.1, (r6_.2.2.1, (r6_.2.2.2.1, (r6_.2.2.2.2.2, r6_.2.2.2.2.1))))]) (.deep true .no)), (10002001, .sl 23 (.sl y0_) (cubes1.set k_1.toNat (cubes1.getD k_1.toNat [])) (.deep true .no))]) rfl rfl (by exact ⟨trivial, ⟨rfl, rfl⟩, ⟨rfl, rfl⟩, trivial⟩) (by exact ⟨⟨⟨rfl, rfl⟩, trivial⟩, .inl rfl, rfl, ⟨⟨rfl, rfl⟩, trivial⟩, rfl, trivial⟩)))⟩
  ·refine go_rq he fun he => ?_
   have he := ok_some he
   exact ⟨((n - (1:Int)), out3), he, (leads_ren [(10000000, 10002000)] rfl rfl ⟨trivial, ⟨rfl, rfl⟩, trivial⟩ ⟨⟨⟨rfl, rfl⟩, trivial⟩, .inl rfl, rfl, trivial⟩)⟩
 ·have he := ok_some he
  exact ⟨rfl, _, _, (leads_ren [(900, 10000000)] (l := [(4, .c (.own 900 false))]) (st' := [(0, .dead), (900, .sl 65 y5_ out2 (.deep true .no))]) rfl rfl ⟨trivial, ⟨rfl, rfl⟩, trivial⟩ ⟨⟨⟨rfl, rfl⟩, trivial⟩, trivial⟩), he⟩

noncomputable def c_spec_MergeProofs : Con := fun args st => match args, st with
  | [.c (.imm (.int .i64) a0), .c (.imm (.sl (.pair (.int .i64) (.pair (.int .i64) (.pair (.int .i64) (.pair (.sl (.pair (.int .i64) (.int .i64))) (.int .i64)))))) a1)], [] => .opt (Bool × (List D5_)) (spec_MergeProofs a0 a1) (fun r => .ret (.tup [.c (.own 900 false), .c (.bool r.1)]) [(900, .sl 65 y5_ r.2 (.deep true .no))])
  | _, _ => .fail

noncomputable def C_spec_MergeProofs : Cfg := { y := tys, n := 80, h := 0, tab := [(21, c_spec_l12Vars), (22, c_spec_l12Cubes), (41, c_spec_l12Lift), (42, c_spec_l12Join)], cut := [14, 18], hand := [(42, [0])], good := [], deep := [15, 18, 66, 70, 78], sched := [(13, (.first 0 (.first 1 (.first 2 (.first 3 (.first 4 (.first 5 (.first 6 (.first 7 (.first 8 (.first 9 (.alt 10 (.alt 11 (.first 12 (.first 13 (.first 14 (.alt 15 (.alt 16 (.first 17 .done) .stop) .stop)))) (.alt 15 (.alt 11 (.first 12 (.first 13 (.first 14 (.alt 16 (.first 17 .done) .stop)))) .stop) .stop)) (.alt 15 (.alt 10 (.alt 11 (.first 12 (.first 13 (.first 14 (.alt 16 (.first 17 .done) .stop)))) .stop) .stop) .stop)))))))))))))] }

theorem t_spec_MergeProofs : TabOk Tryz.prog C_spec_MergeProofs := by
  refine tabOk_of ?_
  simp only [C_spec_MergeProofs, List.forall_mem_cons]
  exact ⟨k_spec_l12Vars, k_spec_l12Cubes, k_spec_l12Lift, k_spec_l12Join, fun p h => by cases h⟩

theorem k_spec_MergeProofs : Entry Tryz.prog 25 c_spec_MergeProofs := by
 refine entry_by (C := C_spec_MergeProofs) mixed tys_ok t_spec_MergeProofs (fn := Tryz.f25) (c := bd Tryz.f25) (by kernel_rfl) (by kernel_rfl) (by kernel_rfl) (by kernel_rfl) ?_
 intro args st k he
 unfold c_spec_MergeProofs at he
 split at he
 rotate_left
 ·exact he.elim
 rename_i a0 a1
 have he : Ok (spec_MergeProofs a0 a1) (fun r => k (.tup [.c (.own 900 false), .c (.bool r.1)]) [(900, .sl 65 y5_ r.2 (.deep true .no))]) := he
 refine ⟨rfl, rfl, ?_⟩
 refine go_bind he fun r1_ he => ?_
 refine go_if he (fun he => ?_) fun he => ?_
 ·have he := ok_some he
  exact ⟨rfl, _, _, (leads_ren [(900, 15)] (l := [(4, .c (.own 900 false)), (5, .c (.bool false))]) (st' := [(900, .sl 65 y5_ ([] : List D5_) (.deep true .no))]) rfl rfl ⟨⟨rfl, rfl⟩, trivial⟩ ⟨⟨⟨rfl, rfl⟩, trivial⟩, .inr rfl, trivial⟩), he⟩
 ·refine go_bind he fun r2_ he => ?_
  refine go_if he (fun he => ?_) fun he => ?_
  ·have he := ok_some he
   exact ⟨rfl, _, _, (leads_ren [(900, 18)] (l := [(4, .c (.own 900 false)), (5, .c (.bool false))]) (st' := [(900, .sl 65 y5_ ([] : List D5_) (.deep true .no))]) rfl rfl ⟨⟨rfl, rfl⟩, trivial⟩ ⟨⟨⟨rfl, rfl⟩, trivial⟩, .inr rfl, trivial⟩), he⟩
  ·refine seq_model mixed tys_ok t_spec_MergeProofs (S := (List D5_)) (I := (fun i13 => (envOf [(0, .c (.imm y0_ a0)), (7, .c (.own 10007000 false))], [(10007000, .sl 65 y5_ i13 (.deep true .no))]))) (B := fun s => Ok (spec_MergeProofs_j1 a0 s) (fun r => k (.tup [.c (.own 900 false), .c (.bool r.1)]) [(900, .sl 65 y5_ r.2 (.deep true .no))])) ?_ ?_
   ·rintro i13 he
    refine go_bind he fun r8_ he => ?_
    refine go_if he (fun he => ?_) fun he => ?_
    ·have he := ok_some he
     exact ⟨rfl, _, _, (leads_ren [(900, 78)] (l := [(4, .c (.own 900 false)), (5, .c (.bool false))]) (st' := [(900, .sl 65 y5_ ([] : List D5_) (.deep true .no))]) rfl rfl ⟨⟨rfl, rfl⟩, trivial⟩ ⟨⟨⟨rfl, rfl⟩, trivial⟩, .inr rfl, trivial⟩), he⟩
    ·have he := ok_some he
     exact ⟨rfl, _, _, (leads_ren [(900, 75900)] (l := [(4, .c (.own 900 false)), (5, .c (.bool true))]) (st' := [(900, .sl 65 y5_ r8_ (.deep true .no))]) rfl rfl ⟨⟨rfl, rfl⟩, trivial⟩ ⟨⟨⟨rfl, rfl⟩, trivial⟩, .inr rfl, trivial⟩), he⟩
   ·skip
    refine loop_model mixed tys_ok t_spec_MergeProofs (S := Int × (List (List Int)) × (List D5_)) (I := (fun (i, i6, i7) => (envOf [(0, .c (.imm y0_ a0)), (1, .c (.imm (.sl y5_) a1)), (6, .c (.own 10000000 false)), (7, .c (.own 10000001 false)), (8, .c (.int .i64 i))], [(10000000, .sl 23 (.sl y0_) i6 (.deep true .no)), (10000001, .sl 65 y5_ i7 (.deep true .no))]))) (f := spec_MergeProofs_l1 a0 a1) (K := (fun r => k (.tup [.c (.own 900 false), .c (.bool r.1)]) [(900, .sl 65 y5_ r.2 (.deep true .no))])) he (leads_ren [(10000000, 18900), (10000001, 18)] rfl rfl ⟨⟨rfl, rfl⟩, ⟨rfl, rfl⟩, trivial⟩ ⟨.inl rfl, .inl rfl, ⟨⟨rfl, rfl⟩, trivial⟩, ⟨⟨rfl, rfl⟩, trivial⟩, rfl, trivial⟩) ?_
    rintro ⟨i, i6, i7⟩ J1 he
    refine go_if he (fun he => ?_) fun he => ?_
    ·refine loop_model mixed tys_ok t_spec_MergeProofs (S := Int × (List (List Int)) × (List D5_)) (I := (fun (i8, i10, i11) => (envOf [(0, .c (.imm y0_ a0)), (1, .c (.imm (.sl y5_) a1)), (6, .c (.own 10004000 false)), (7, .c (.own 10004001 false)), (8, .c (.int .i64 i)), (9, .c (.int .i64 i8))], [(10004000, .sl 23 (.sl y0_) i10 (.deep true .no)), (10004001, .sl 65 y5_ i11 (.deep true .no))]))) (f := spec_MergeProofs_l2 a1 i) (K := (LK J1 (fun r => k (.tup [.c (.own 900 false), .c (.bool r.1)]) [(900, .sl 65 y5_ r.2 (.deep true .no))]))) he (leads_ren [(10004000, 10000000), (10004001, 10000001)] rfl rfl ⟨⟨rfl, rfl⟩, ⟨rfl, rfl⟩, trivial⟩ ⟨.inl rfl, .inl rfl, ⟨⟨rfl, rfl⟩, trivial⟩, ⟨⟨rfl, rfl⟩, trivial⟩, rfl, rfl, trivial⟩) ?_
     rintro ⟨i8, i10, i11⟩ J2 he
     refine go_rq he fun he => ?_
     refine go_if he (fun he => ?_) fun he => ?_
     ·refine seq_model mixed tys_ok t_spec_MergeProofs (S := Bool × Int × Int × Int × Int × (List D1_)) (I := (fun (i12, i_03, i_13, i_23, i_43, i_33) => (envOf [(0, .c (.imm y0_ a0)), (1, .c (.imm (.sl y5_) a1)), (6, .c (.own 10006000 false)), (7, .c (.own 10006001 false)), (8, .c (.int .i64 i)), (9, .c (.int .i64 i8)), (10, .c (.ptr 10006002 0)), (11, .c (.bool i12))], [(10006000, .sl 23 (.sl y0_) (i10.set i.toNat (i10.getD i.toNat [])) (.deep true .no)), (10006001, .sl 65 y5_ i11 (.deep true .no)), (10006002, .rc [.int .i64 i_03, .int .i64 i_13, .int .i64 i_23, .own 10006003 false, .int .i64 i_43]), (10006003, .sl 76 y1_ i_33 .shallow)]))) (B := fun s => Ok (spec_MergeProofs_j2 a1 i i8 i10 i11 s) (LK J2 (LK J1 (fun r => k (.tup [.c (.own 900 false), .c (.bool r.1)]) [(900, .sl 65 y5_ r.2 (.deep true .no))])))) ?_ ?_
      ·rintro ⟨i12, i_03, i_13, i_23, i_43, i_33⟩ he
       refine go_rq he fun he => ?_
       refine go_if2 he (fun he => ?_) fun he => ?_
       ·refine go_if he (fun he => ?_) fun he => ?_
        ·have he := ok_some he
         exact ⟨rfl, _, _, (leads_ren [(900, 66)] (l := [(4, .c (.own 900 false)), (5, .c (.bool false))]) (st' := [(900, .sl 65 y5_ ([] : List D5_) (.deep true .no))]) rfl rfl ⟨⟨rfl, rfl⟩, trivial⟩ ⟨⟨⟨rfl, rfl⟩, trivial⟩, .inr rfl, trivial⟩), he⟩
        ·refine go_if he (fun he => ?_) fun he => ?_
         ·refine go_rq he fun he => ?_
          refine go_rq he fun he => ?_
          have he := ok_some he
          exact ⟨((i8 + (1:Int)), (i10.set i.toNat (i10.getD i.toNat [])), (i11 ++ [(i_03, (i_13, (i_23, (i_33, i_43))))])), he, (leads_ren [(10004000, 10006000), (10004001, 71)] rfl rfl ⟨⟨rfl, rfl⟩, ⟨rfl, rfl⟩, trivial⟩ ⟨.inl rfl, .inl rfl, ⟨⟨rfl, rfl⟩, trivial⟩, ⟨⟨rfl, rfl⟩, trivial⟩, rfl, rfl, trivial⟩)⟩
         ·refine go_rq he fun he => ?_
          have he := ok_some he
          exact ⟨((i8 + (1:Int)), (i10.set i.toNat (i10.getD i.toNat [])), i11), he, (leads_ren [(10004000, 10006000), (10004001, 10006001)] rfl rfl ⟨⟨rfl, rfl⟩, ⟨rfl, rfl⟩, trivial⟩ ⟨.inl rfl, .inl rfl, ⟨⟨rfl, rfl⟩, trivial⟩, ⟨⟨rfl, rfl⟩, trivial⟩, rfl, rfl, trivial⟩)⟩
       ·have he := ok_some he
        exact ⟨rfl, _, _, (leads_ren [(900, 66)] (l := [(4, .c (.own 900 false)), (5, .c (.bool false))]) (st' := [(900, .sl 65 y5_ ([] : List D5_) (.deep true .no))]) rfl rfl ⟨⟨rfl, rfl⟩, trivial⟩ ⟨⟨⟨rfl, rfl⟩, trivial⟩, .inr rfl, trivial⟩), he⟩
      ·skip
       refine And.intro (by kernel_rfl) ?_
       refine go_rq he fun he => ?_
       refine go_rq he fun he => ?_
       refine go_rq he fun he => ?_
       obtain ⟨r7_, hq1, he⟩ := ok_bind he
       refine And.intro ?_ (And.intro ?_ (trivial))
       ·skip
        refine And.intro ?_ (And.intro ?_ (trivial))
        ·skip
         refine ⟨r7_, hq1, ?_⟩
         refine And.intro ?_ trivial
         refine And.intro ?_ trivial
         exact ⟨(r7_.1, r7_.2.1, r7_.2.2.1, r7_.2.2.2.1, r7_.2.2.2.2.1, r7_.2.2.2.2.2), he, ((leads_close [10004000] rfl).trans (leads_ren [(10006000, 10004000), (10006001, 10004001), (10006002, 10), (10006003, 53901)] (l := [(0, .c (.imm y0_ a0)), (1, .c (.imm (.sl y5_) a1)), (6, .c (.own 10006000 false)), (7, .c (.own 10006001 false)), (8, .c (.int .i64 i)), (9, .c (.int .i64 i8)), (10, .c (.ptr 10006002 0)), (11, .c (.bool r7_.1))]) (st' := [(10006000, .sl 23 (.sl y0_) (i10.set i.toNat (i10.getD i.toNat [])) (.deep true .no)), (10006001, .sl 65 y5_ i11 (.deep true .no)), (10006002, .rc [.int .i64 r7_.2.1, .int .i64 r7_.2.2.1, .int .i64 r7_.2.2.2.1, .own 10006003 false, .int .i64 r7_.2.2.2.2.1]), (10006003, .sl 76 y1_ r7_.2.2.2.2.2 .shallow)]) rfl rfl (by exact ⟨⟨rfl, rfl⟩, ⟨rfl, rfl⟩, ⟨rfl, rfl, rfl, ⟨⟨rfl, rfl⟩, trivial⟩, rfl, trivial⟩, ⟨rfl, rfl⟩, trivial⟩) (by exact ⟨.inl rfl, .inl rfl, ⟨⟨rfl, rfl⟩, trivial⟩, ⟨⟨rfl, rfl⟩, trivial⟩, rfl, rfl, ⟨⟨rfl, rfl⟩, rfl⟩, .inl rfl, trivial⟩)))⟩
        ·skip
         refine And.intro ?_ trivial
         refine ⟨r7_, hq1, ?_⟩
         refine And.intro ?_ trivial
         exact ⟨(r7_.1, r7_.2.1, r7_.2.2.1, r7_.2.2.2.1, r7_.2.2.2.2.1, r7_.2.2.2.2.2), he, ((leads_close [10004000] rfl).trans (leads_ren [(10006000, 10004000), (10006001, 10004001), (10006002, 10), (10006003, 53901)] (l := [(0, .c (.imm y0_ a0)), (1, .c (.imm (.sl y5_) a1)), (6, .c (.own 10006000 false)), (7, .c (.own 10006001 false)), (8, .c (.int .i64 i)), (9, .c (.int .i64 i8)), (10, .c (.ptr 10006002 0)), (11, .c (.bool r7_.1))]) (st' := [(10006000, .sl 23 (.sl y0_) (i10.set i.toNat (i10.getD i.toNat [])) (.deep true .no)), (10006001, .sl 65 y5_ i11 (.deep true .no)), (10006002, .rc [.int .i64 r7_.2.1, .int .i64 r7_.2.2.1, .int .i64 r7_.2.2.2.1, .own 10006003 false, .int .i64 r7_.2.2.2.2.1]), (10006003, .sl 76 y1_ r7_.2.2.2.2.2 .shallow)]) rfl rfl (by exact ⟨⟨rfl, rfl⟩, ⟨rfl, rfl⟩, ⟨rfl, rfl, rfl, ⟨⟨rfl, rfl⟩, trivial⟩, rfl, trivial⟩, ⟨rfl, rfl⟩, trivial⟩) (by exact ⟨.inl rfl, .inl rfl, ⟨⟨rfl, rfl⟩, trivial⟩, ⟨⟨rfl, rfl⟩, trivial⟩, rfl, rfl, ⟨⟨rfl, rfl⟩, rfl⟩, .inl rfl, trivial⟩)))⟩
       ·skip
        refine And.intro ?_ trivial
        refine And.intro ?_ trivial
        refine ⟨r7_, hq1, ?_⟩
        refine And.intro ?_ trivial
        exact ⟨(r7_.1, r7_.2.1, r7_.2.2.1, r7_.2.2.2.1, r7_.2.2.2.2.1, r7_.2.2.2.2.2), he, ((leads_close [10004000] rfl).trans (leads_ren [(10006000, 10004000), (10006001, 10004001), (10006002, 10), (10006003, 53901)] (l := [(0, .c (.imm y0_ a0)), (1, .c (.imm (.sl y5_) a1)), (6, .c (.own 10006000 false)), (7, .c (.own 10006001 false)), (8, .c (.int .i64 i)), (9, .c (.int .i64 i8)), (10, .c (.ptr 10006002 0)), (11, .c (.bool r7_.1))]) (st' := [(10006000, .sl 23 (.sl y0_) (i10.set i.toNat (i10.getD i.toNat [])) (.deep true .no)), (10006001, .sl 65 y5_ i11 (.deep true .no)), (10006002, .rc [.int .i64 r7_.2.1, .int .i64 r7_.2.2.1, .int .i64 r7_.2.2.2.1, .own 10006003 false, .int .i64 r7_.2.2.2.2.1]), (10006003, .sl 76 y1_ r7_.2.2.2.2.2 .shallow)]) rfl rfl (by exact ⟨⟨rfl, rfl⟩, ⟨rfl, rfl⟩, ⟨rfl, rfl, rfl, ⟨⟨rfl, rfl⟩, trivial⟩, rfl, trivial⟩, ⟨rfl, rfl⟩, trivial⟩) (by exact ⟨.inl rfl, .inl rfl, ⟨⟨rfl, rfl⟩, trivial⟩, ⟨⟨rfl, rfl⟩, trivial⟩, rfl, rfl, ⟨⟨rfl, rfl⟩, rfl⟩, .inl rfl, trivial⟩)))⟩
     ·refine go_rq he fun he => ?_
      have he := ok_some he
      exact ⟨((i + (1:Int)), i10, i11), he, (leads_ren [(10000000, 10004000), (10000001, 10004001)] rfl rfl ⟨⟨rfl, rfl⟩, ⟨rfl, rfl⟩, trivial⟩ ⟨.inl rfl, .inl rfl, ⟨⟨rfl, rfl⟩, trivial⟩, ⟨⟨rfl, rfl⟩, trivial⟩, rfl, trivial⟩)⟩
    ·exact ⟨i7, ok_up he, (leads_ren [(10007000, 10000001)] rfl rfl ⟨⟨rfl, rfl⟩, trivial⟩ ⟨.inl rfl, ⟨⟨rfl, rfl⟩, trivial⟩, trivial⟩)⟩

noncomputable def c_spec_SolveCubes : Con := fun args st => match args, st with
  | [.c (.imm (.pair (.sl (.pair (.int .i64) (.int .i64))) (.int .i64)) a0), .c (.imm (.int .i64) a1), .c (.int .i64 a2)], [] => .opt (Int × (List Bool) × (List D5_)) (spec_SolveCubes a0 a1 a2) (fun r => .ret (.tup [.c (.int .i64 r.1), .c (.own 900 false), .c (.own 901 false)]) [(900, .sl 4 .bool r.2.1 .shallow), (901, .sl 65 y5_ r.2.2 (.deep true .no))])
  | _, _ => .fail

noncomputable def C_spec_SolveCubes : Cfg := { y := tys, n := 85, h := 0, tab := [(20, c_spec_ProblemValid), (21, c_spec_l12Vars), (22, c_spec_l12Cubes), (23, c_spec_SolveProblem), (24, c_spec_l12Under), (25, c_spec_MergeProofs)], cut := [12], hand := [], good := [], deep := [42, 45, 68, 71, 82], sched := [] }

theorem t_spec_SolveCubes : TabOk Tryz.prog C_spec_SolveCubes := by
  refine tabOk_of ?_
  simp only [C_spec_SolveCubes, List.forall_mem_cons]
  exact ⟨k_spec_ProblemValid, k_spec_l12Vars, k_spec_l12Cubes, k_spec_SolveProblem, k_spec_l12Under, k_spec_MergeProofs, fun p h => by cases h⟩

theorem k_spec_SolveCubes : Entry Tryz.prog 5 c_spec_SolveCubes := by
 refine entry_by (C := C_spec_SolveCubes) mixed tys_ok t_spec_SolveCubes (fn := Tryz.f5) (c := bd Tryz.f5) (by kernel_rfl) (by kernel_rfl) (by kernel_rfl) (by kernel_rfl) ?_
 intro args st k he
 unfold c_spec_SolveCubes at he
 split at he
 rotate_left
 ·exact he.elim
 rename_i a0 a1 a2
 have he : Ok (spec_SolveCubes a0 a1 a2) (fun r => k (.tup [.c (.int .i64 r.1), .c (.own 900 false), .c (.own 901 false)]) [(900, .sl 4 .bool r.2.1 .shallow), (901, .sl 65 y5_ r.2.2 (.deep true .no))]) := he
 refine ⟨rfl, rfl, ?_⟩
 refine go_bind he fun r1_ he => ?_
 refine go_if2 he (fun he => ?_) fun he => ?_
 ·refine go_bind he fun r2_ he => ?_
  refine go_if2 he (fun he => ?_) fun he => ?_
  ·refine go_if2 he (fun he => ?_) fun he => ?_
   ·refine go_if2 he (fun he => ?_) fun he => ?_
    ·refine go_rq he fun he => ?_
     refine go_if he (fun he => ?_) fun he => ?_
     ·have he := ok_some he
      exact ⟨rfl, _, _, (leads_ren [(900, 41), (901, 42)] (l := [(6, .c (.int .i64 (3:Int))), (7, .c (.own 900 false)), (8, .c (.own 901 false))]) (st' := [(900, .sl 4 .bool ([] : List Bool) .shallow), (901, .sl 65 y5_ ([] : List D5_) (.deep true .no))]) rfl rfl ⟨⟨rfl, rfl⟩, ⟨rfl, rfl⟩, trivial⟩ ⟨rfl, ⟨⟨rfl, rfl⟩, trivial⟩, ⟨⟨rfl, rfl⟩, trivial⟩, trivial⟩), he⟩
     ·refine go_bind he fun r3_ he => ?_
      refine seq_model mixed tys_ok t_spec_SolveCubes (S := (List (List D5_))) (I := (fun i3 => (envOf [(1, .c (.imm y0_ a1)), (10, .c (.own 10001000 false))], [(10001000, .sl 26 (.sl y5_) i3 (.deep true .no))]))) (B := fun s => Ok (spec_SolveCubes_j1 a1 s) (fun r => k (.tup [.c (.int .i64 r.1), .c (.own 900 false), .c (.own 901 false)]) [(900, .sl 4 .bool r.2.1 .shallow), (901, .sl 65 y5_ r.2.2 (.deep true .no))])) ?_ ?_
      ·rintro i3 he
       refine go_bind he fun r8_ he => ?_
       refine go_if he (fun he => ?_) fun he => ?_
       ·have he := ok_some he
        exact ⟨rfl, _, _, (leads_ren [(900, 81), (901, 82)] (l := [(6, .c (.int .i64 (0:Int))), (7, .c (.own 900 false)), (8, .c (.own 901 false))]) (st' := [(900, .sl 4 .bool ([] : List Bool) .shallow), (901, .sl 65 y5_ ([] : List D5_) (.deep true .no))]) rfl rfl ⟨⟨rfl, rfl⟩, ⟨rfl, rfl⟩, trivial⟩ ⟨rfl, ⟨⟨rfl, rfl⟩, trivial⟩, ⟨⟨rfl, rfl⟩, trivial⟩, trivial⟩), he⟩
       ·have he := ok_some he
        exact ⟨rfl, _, _, (leads_ren [(900, 83), (901, 77900)] (l := [(6, .c (.int .i64 (2:Int))), (7, .c (.own 900 false)), (8, .c (.own 901 false))]) (st' := [(900, .sl 4 .bool ([] : List Bool) .shallow), (901, .sl 65 y5_ r8_.2 (.deep true .no))]) rfl rfl ⟨⟨rfl, rfl⟩, ⟨rfl, rfl⟩, trivial⟩ ⟨rfl, ⟨⟨rfl, rfl⟩, trivial⟩, ⟨⟨rfl, rfl⟩, trivial⟩, trivial⟩), he⟩
      ·skip
       refine loop_model mixed tys_ok t_spec_SolveCubes (S := Int × (List (List Int)) × (List (List D5_))) (I := (fun (i, i1, i2) => (envOf [(0, .c (.imm y2_ a0)), (1, .c (.imm y0_ a1)), (2, .c (.int .i64 a2)), (9, .c (.own 10000000 false)), (10, .c (.own 10000001 false)), (11, .c (.int .i64 i))], [(10000000, .sl 23 (.sl y0_) i1 (.deep true .no)), (10000001, .sl 26 (.sl y5_) i2 (.deep true .no))]))) (f := spec_SolveCubes_l1 a0 a1 a2) (K := (fun r => k (.tup [.c (.int .i64 r.1), .c (.own 900 false), .c (.own 901 false)]) [(900, .sl 4 .bool r.2.1 .shallow), (901, .sl 65 y5_ r.2.2 (.deep true .no))])) he (leads_ren [(10000000, 45900), (10000001, 45)] rfl rfl ⟨⟨rfl, rfl⟩, ⟨rfl, rfl⟩, trivial⟩ ⟨.inl rfl, .inl rfl, rfl, ⟨⟨rfl, rfl⟩, trivial⟩, ⟨⟨rfl, rfl⟩, trivial⟩, rfl, trivial⟩) ?_
       rintro ⟨i, i1, i2⟩ J1 he
       refine go_if he (fun he => ?_) fun he => ?_
       ·refine go_rq he fun he => ?_
        refine go_bind he fun r6_ he => ?_
        refine go_bind he fun r7_ he => ?_
        refine go_if he (fun he => ?_) fun he => ?_
        ·have he := ok_some he
         exact ⟨rfl, _, _, ((leads_close [10000000] rfl).trans (leads_ren [(900, 61900), (901, 68)] (l := [(6, .c (.int .i64 r7_.1)), (7, .c (.own 900 false)), (8, .c (.own 901 false))]) (st' := [(900, .sl 4 .bool r7_.2.1 .shallow), (901, .sl 65 y5_ ([] : List D5_) (.deep true .no))]) rfl rfl (by exact ⟨⟨rfl, rfl⟩, ⟨rfl, rfl⟩, trivial⟩) (by exact ⟨rfl, ⟨⟨rfl, rfl⟩, trivial⟩, ⟨⟨rfl, rfl⟩, trivial⟩, trivial⟩))), he⟩
        ·refine go_rq he fun he => ?_
         refine go_rq he fun he => ?_
         have he := ok_some he
         exact ⟨((i + (1:Int)), (i1.set i.toNat (i1.getD i.toNat [])), (i2 ++ [r7_.2.2])), he, ((leads_close [10000000] rfl).trans (leads_ren [(10000001, 72)] (l := [(0, .c (.imm y2_ a0)), (1, .c (.imm y0_ a1)), (2, .c (.int .i64 a2)), (9, .c (.own 10000000 false)), (10, .c (.own 10000001 false)), (11, .c (.int .i64 (i + (1:Int))))]) (st' := [(10000000, .sl 23 (.sl y0_) (i1.set i.toNat (i1.getD i.toNat [])) (.deep true .no)), (10000001, .sl 26 (.sl y5_) (i2 ++ [r7_.2.2]) (.deep true .no))]) rfl rfl (by exact ⟨⟨rfl, rfl⟩, ⟨rfl, rfl⟩, trivial⟩) (by exact ⟨.inl rfl, .inl rfl, rfl, ⟨⟨rfl, rfl⟩, trivial⟩, ⟨⟨rfl, rfl⟩, trivial⟩, rfl, trivial⟩)))⟩
       ·exact ⟨i2, ok_up he, (leads_ren [(10001000, 10000001)] rfl rfl ⟨⟨rfl, rfl⟩, trivial⟩ ⟨.inl rfl, ⟨⟨rfl, rfl⟩, trivial⟩, trivial⟩)⟩
    ·have he := ok_some he
     exact ⟨rfl, _, _, (leads_ren [(900, 41), (901, 42)] (l := [(6, .c (.int .i64 (3:Int))), (7, .c (.own 900 false)), (8, .c (.own 901 false))]) (st' := [(900, .sl 4 .bool ([] : List Bool) .shallow), (901, .sl 65 y5_ ([] : List D5_) (.deep true .no))]) rfl rfl ⟨⟨rfl, rfl⟩, ⟨rfl, rfl⟩, trivial⟩ ⟨rfl, ⟨⟨rfl, rfl⟩, trivial⟩, ⟨⟨rfl, rfl⟩, trivial⟩, trivial⟩), he⟩
   ·have he := ok_some he
    exact ⟨rfl, _, _, (leads_ren [(900, 41), (901, 42)] (l := [(6, .c (.int .i64 (3:Int))), (7, .c (.own 900 false)), (8, .c (.own 901 false))]) (st' := [(900, .sl 4 .bool ([] : List Bool) .shallow), (901, .sl 65 y5_ ([] : List D5_) (.deep true .no))]) rfl rfl ⟨⟨rfl, rfl⟩, ⟨rfl, rfl⟩, trivial⟩ ⟨rfl, ⟨⟨rfl, rfl⟩, trivial⟩, ⟨⟨rfl, rfl⟩, trivial⟩, trivial⟩), he⟩
  ·have he := ok_some he
   exact ⟨rfl, _, _, (leads_ren [(900, 41), (901, 42)] (l := [(6, .c (.int .i64 (3:Int))), (7, .c (.own 900 false)), (8, .c (.own 901 false))]) (st' := [(900, .sl 4 .bool ([] : List Bool) .shallow), (901, .sl 65 y5_ ([] : List D5_) (.deep true .no))]) rfl rfl ⟨⟨rfl, rfl⟩, ⟨rfl, rfl⟩, trivial⟩ ⟨rfl, ⟨⟨rfl, rfl⟩, trivial⟩, ⟨⟨rfl, rfl⟩, trivial⟩, trivial⟩), he⟩
 ·have he := ok_some he
  exact ⟨rfl, _, _, (leads_ren [(900, 41), (901, 42)] (l := [(6, .c (.int .i64 (3:Int))), (7, .c (.own 900 false)), (8, .c (.own 901 false))]) (st' := [(900, .sl 4 .bool ([] : List Bool) .shallow), (901, .sl 65 y5_ ([] : List D5_) (.deep true .no))]) rfl rfl ⟨⟨rfl, rfl⟩, ⟨rfl, rfl⟩, trivial⟩ ⟨rfl, ⟨⟨rfl, rfl⟩, trivial⟩, ⟨⟨rfl, rfl⟩, trivial⟩, trivial⟩), he⟩

noncomputable def c_impl_within : Con := fun args st => match args, st with
  | [.c (.int .i64 n), .c (.int .i64 low), .c (.int .i64 high)], [] => .opt (Bool) (impl_within n low high) (fun r => .ret (.c (.bool r)) [])
  | _, _ => .fail

noncomputable def C_impl_within : Cfg := { y := tys, n := 15, h := 0, tab := [], cut := [], hand := [], good := [], deep := [], sched := [] }

theorem t_impl_within : TabOk Tryz.prog C_impl_within := tabOk_of (fun p h => by cases h)

theorem k_impl_within : Entry Tryz.prog 47 c_impl_within := by
 refine entry_by (C := C_impl_within) mixed tys_ok t_impl_within (fn := Tryz.f47) (c := bd Tryz.f47) (by kernel_rfl) (by kernel_rfl) (by kernel_rfl) (by kernel_rfl) ?_
 intro args st k he
 unfold c_impl_within at he
 split at he
 rotate_left
 ·exact he.elim
 rename_i n low high
 have he : Ok (impl_within n low high) (fun r => k (.c (.bool r)) []) := he
 refine ⟨rfl, rfl, ?_⟩
 refine go_if he (fun he => ?_) fun he => ?_
 ·have he := ok_some he
  exact ⟨rfl, _, _, Leads.refl _ _, he⟩
 ·have he := ok_some he
  exact ⟨rfl, _, _, Leads.refl _ _, he⟩

noncomputable def c_impl_areVars : Con := fun args st => match args, st with
  | [.c (.imm (.int .i64) vars)], [] => .opt (Bool) (impl_areVars vars) (fun r => .ret (.c (.bool r)) [])
  | _, _ => .fail

noncomputable def C_impl_areVars : Cfg := { y := tys, n := 29, h := 0, tab := [(47, c_impl_within)], cut := [], hand := [], good := [], deep := [], sched := [] }

theorem t_impl_areVars : TabOk Tryz.prog C_impl_areVars := by
  refine tabOk_of ?_
  simp only [C_impl_areVars, List.forall_mem_cons]
  exact ⟨k_impl_within, fun p h => by cases h⟩

theorem k_impl_areVars : Entry Tryz.prog 44 c_impl_areVars := by
 refine entry_by (C := C_impl_areVars) mixed tys_ok t_impl_areVars (fn := Tryz.f44) (c := bd Tryz.f44) (by kernel_rfl) (by kernel_rfl) (by kernel_rfl) (by kernel_rfl) ?_
 intro args st k he
 unfold c_impl_areVars at he
 split at he
 rotate_left
 ·exact he.elim
 rename_i vars
 have he : Ok (impl_areVars vars) (fun r => k (.c (.bool r)) []) := he
 refine ⟨rfl, rfl, ?_⟩
 refine loop_model mixed tys_ok t_impl_areVars (S := Int) (I := (fun i => (envOf [(0, .c (.imm y0_ vars)), (5, .c (.imm y0_ vars)), (6, .c (.int .i64 (vars.length:Int))), (7, .c (.int .i64 i))], []))) (f := impl_areVars_l1 vars) (K := (fun r => k (.c (.bool r)) [])) he (leads_ren [] rfl rfl trivial ⟨.inl rfl, .inl rfl, rfl, rfl, trivial⟩) ?_
 rintro i J1 he
 refine go_if he (fun he => ?_) fun he => ?_
 ·refine go_rq he fun he => ?_
  refine go_bind he fun r1_ he => ?_
  refine go_if2 he (fun he => ?_) fun he => ?_
  ·refine go_if he (fun he => ?_) fun he => ?_
   ·refine go_rq he fun he => ?_
    refine go_rq he fun he => ?_
    refine go_if he (fun he => ?_) fun he => ?_
    ·have he := ok_some he
     exact ⟨rfl, _, _, Leads.refl _ _, he⟩
    ·refine go_rq he fun he => ?_
     have he := ok_some he
     exact ⟨(i + (1:Int)), he, (leads_ren [] rfl rfl trivial ⟨.inl rfl, .inl rfl, rfl, rfl, trivial⟩)⟩
   ·refine go_rq he fun he => ?_
    have he := ok_some he
    exact ⟨(i + (1:Int)), he, (leads_ren [] rfl rfl trivial ⟨.inl rfl, .inl rfl, rfl, rfl, trivial⟩)⟩
  ·have he := ok_some he
   exact ⟨rfl, _, _, Leads.refl _ _, he⟩
 ·have he := ok_some he
  exact ⟨rfl, _, _, Leads.refl _ _, he⟩

noncomputable def c_slices_Clone_int : Con := fun args st => match args, st with
  | [.c (.imm (.int .i64) s_)], [] => .opt ((List Int)) (slices_Clone_int s_) (fun r => .ret (.c (.own 900 false)) [(900, .sl 3 y0_ r .shallow)])
  | _, _ => .fail

noncomputable def C_slices_Clone_int : Cfg := { y := tys, n := 8, h := 0, tab := [], cut := [], hand := [], good := [], deep := [], sched := [] }

theorem t_slices_Clone_int : TabOk Tryz.prog C_slices_Clone_int := tabOk_of (fun p h => by cases h)

theorem k_slices_Clone_int : Entry Tryz.prog 65 c_slices_Clone_int := by
 refine entry_by (C := C_slices_Clone_int) mixed tys_ok t_slices_Clone_int (fn := Tryz.f65) (c := bd Tryz.f65) (by kernel_rfl) (by kernel_rfl) (by kernel_rfl) (by kernel_rfl) ?_
 intro args st k he
 unfold c_slices_Clone_int at he
 split at he
 rotate_left
 ·exact he.elim
 rename_i s_
 have he : Ok (slices_Clone_int s_) (fun r => k (.c (.own 900 false)) [(900, .sl 3 y0_ r .shallow)]) := he
 refine ⟨rfl, rfl, ?_⟩
 refine fun b1_ hb1_ => ?_
 have he := ok_nt he hb1_
 refine And.intro (fun hb => ?_) (fun hb => ?_)
 ·have he := ok_t he hb
  have he := ok_some he
  exact ⟨rfl, _, _, (leads_ren [] (l := [(2, .c (.own 900 false))]) (st' := [(900, .sl 3 y0_ ([] : List Int) .shallow)]) rfl rfl ⟨trivial, trivial⟩ ⟨⟨rfl, trivial⟩, trivial⟩), he⟩
 ·have he := ok_f he hb
  refine go_rq he fun he => ?_
  have he := ok_some he
  exact ⟨rfl, _, _, (leads_ren [(900, 7)] (l := [(2, .c (.own 900 false))]) (st' := [(900, .sl 3 y0_ (([] : List Int) ++ s_) .shallow)]) rfl rfl ⟨⟨rfl, rfl⟩, trivial⟩ ⟨⟨⟨rfl, rfl⟩, trivial⟩, trivial⟩), he⟩

noncomputable def c_impl_cubesOf : Con := fun args st => match args, st with
  | [.c (.imm (.int .i64) vars)], [] => .opt ((List (List Int))) (impl_cubesOf vars) (fun r => .ret (.c (.own 900 false)) [(900, .sl 23 (.sl y0_) r (.deep true .no))])
  | _, _ => .fail

noncomputable def C_impl_cubesOf : Cfg := { y := tys, n := 40, h := 0, tab := [(65, c_slices_Clone_int)], cut := [], hand := [], good := [], deep := [9, 34], sched := [] }

theorem t_impl_cubesOf : TabOk Tryz.prog C_impl_cubesOf := by
  refine tabOk_of ?_
  simp only [C_impl_cubesOf, List.forall_mem_cons]
  exact ⟨k_slices_Clone_int, fun p h => by cases h⟩

theorem k_impl_cubesOf : Entry Tryz.prog 45 c_impl_cubesOf := by
 refine entry_by (C := C_impl_cubesOf) mixed tys_ok t_impl_cubesOf (fn := Tryz.f45) (c := bd Tryz.f45) (by kernel_rfl) (by kernel_rfl) (by kernel_rfl) (by kernel_rfl) ?_
 intro args st k he
 unfold c_impl_cubesOf at he
 split at he
 rotate_left
 ·exact he.elim
 rename_i vars
 have he : Ok (impl_cubesOf vars) (fun r => k (.c (.own 900 false)) [(900, .sl 23 (.sl y0_) r (.deep true .no))]) := he
 refine ⟨rfl, rfl, ?_⟩
 refine loop_model mixed tys_ok t_impl_cubesOf (S := Int × (List (List Int))) (I := (fun (i, out) => (envOf [(3, .c (.own 10000000 false)), (10, .c (.imm y0_ vars)), (11, .c (.int .i64 (vars.length:Int))), (12, .c (.int .i64 i))], [(10000000, .sl 23 (.sl y0_) out (.deep true .no))]))) (f := impl_cubesOf_l1 vars) (K := (fun r => k (.c (.own 900 false)) [(900, .sl 23 (.sl y0_) r (.deep true .no))])) he (leads_ren [(10000000, 9)] rfl rfl ⟨⟨rfl, rfl⟩, trivial⟩ ⟨⟨⟨rfl, rfl⟩, trivial⟩, .inl rfl, rfl, rfl, trivial⟩) ?_
 rintro ⟨i, out⟩ J1 he
 refine go_if he (fun he => ?_) fun he => ?_
 ·refine go_rq he fun he => ?_
  refine loop_model mixed tys_ok t_impl_cubesOf (S := Int × (List (List Int)) × (List (List Int))) (I := (fun (i3, next1, i4) => (envOf [(5, .c (.int .i64 (vars.getD i.toNat 0))), (6, .c (.own 10002000 false)), (10, .c (.imm y0_ vars)), (11, .c (.int .i64 (vars.length:Int))), (12, .c (.int .i64 i)), (16, .c (.own 10002001 false)), (17, .c (.int .i64 (out.length:Int))), (18, .c (.int .i64 i3))], [(10002000, .sl 23 (.sl y0_) next1 (.deep true .no)), (10002001, .sl 23 (.sl y0_) i4 (.deep true .no))]))) (f := impl_cubesOf_l2 vars i out) (K := (LK J1 (fun r => k (.c (.own 900 false)) [(900, .sl 23 (.sl y0_) r (.deep true .no))]))) he (leads_ren [(10002001, 10000000)] rfl rfl ⟨trivial, ⟨rfl, rfl⟩, trivial⟩ ⟨rfl, ⟨rfl, trivial⟩, .inl rfl, rfl, rfl, ⟨⟨rfl, rfl⟩, trivial⟩, rfl, rfl, trivial⟩) ?_
  rintro ⟨i3, next1, i4⟩ J2 he
  refine go_if he (fun he => ?_) fun he => ?_
  ·refine go_rq he fun he => ?_
   refine go_bind he fun r7_ he => ?_
   refine go_rq he fun he => ?_
   refine go_bind he fun r8_ he => ?_
   refine go_rq he fun he => ?_
   refine go_rq he fun he => ?_
   refine go_rq he fun he => ?_
   refine go_rq he fun he => ?_
   have he := ok_some he
   exact ⟨((i3 + (1:Int)), (next1 ++ [(r7_ ++ [(vars.getD i.toNat 0)]), (r8_ ++ [(0 - (vars.getD i.toNat 0))])]), (i4.set i3.toNat (i4.getD i3.toNat []))), he, ((leads_close [10002001] rfl).trans (leads_ren [(10002000, 35)] (l := [(5, .c (.int .i64 (vars.getD i.toNat 0))), (6, .c (.own 10002000 false)), (10, .c (.imm y0_ vars)), (11, .c (.int .i64 (vars.length:Int))), (12, .c (.int .i64 i)), (16, .c (.own 10002001 false)), (17, .c (.int .i64 (out.length:Int))), (18, .c (.int .i64 (i3 + (1:Int))))]) (st' := [(10002000, .sl 23 (.sl y0_) (next1 ++ [(r7_ ++ [(vars.getD i.toNat 0)]), (r8_ ++ [(0 - (vars.getD i.toNat 0))])]) (.deep true .no)), (10002001, .sl 23 (.sl y0_) (i4.set i3.toNat (i4.getD i3.toNat [])) (.deep true .no))]) rfl rfl (by exact ⟨⟨rfl, rfl⟩, ⟨rfl, rfl⟩, trivial⟩) (by exact ⟨rfl, ⟨⟨rfl, rfl⟩, trivial⟩, .inl rfl, rfl, rfl, ⟨⟨rfl, rfl⟩, trivial⟩, rfl, rfl, trivial⟩)))⟩
  ·refine go_rq he fun he => ?_
   have he := ok_some he
   exact ⟨((i + (1:Int)), next1), he, (leads_ren [(10000000, 10002000)] rfl rfl ⟨⟨rfl, rfl⟩, trivial⟩ ⟨⟨⟨rfl, rfl⟩, trivial⟩, .inl rfl, rfl, rfl, trivial⟩)⟩
 ·have he := ok_some he
  exact ⟨rfl, _, _, (leads_ren [(900, 10000000)] (l := [(2, .c (.own 900 false))]) (st' := [(900, .sl 23 (.sl y0_) out (.deep true .no))]) rfl rfl ⟨⟨rfl, rfl⟩, trivial⟩ ⟨⟨⟨rfl, rfl⟩, trivial⟩, trivial⟩), he⟩

noncomputable def c_impl_SplitCubes : Con := fun args st => match args, st with
  | [.c (.imm (.int .i64) vars)], [] => .opt (Bool × (List (List Int))) (impl_SplitCubes vars) (fun r => .ret (.tup [.c (.own 900 false), .c (.bool r.1)]) [(900, .sl 23 (.sl y0_) r.2 (.deep true .no))])
  | _, _ => .fail

noncomputable def C_impl_SplitCubes : Cfg := { y := tys, n := 14, h := 0, tab := [(44, c_impl_areVars), (45, c_impl_cubesOf)], cut := [], hand := [], good := [], deep := [], sched := [] }

theorem t_impl_SplitCubes : TabOk Tryz.prog C_impl_SplitCubes := by
  refine tabOk_of ?_
  simp only [C_impl_SplitCubes, List.forall_mem_cons]
  exact ⟨k_impl_areVars, k_impl_cubesOf, fun p h => by cases h⟩

theorem k_impl_SplitCubes : Entry Tryz.prog 27 c_impl_SplitCubes := by
 refine entry_by (C := C_impl_SplitCubes) mixed tys_ok t_impl_SplitCubes (fn := Tryz.f27) (c := bd Tryz.f27) (by kernel_rfl) (by kernel_rfl) (by kernel_rfl) (by kernel_rfl) ?_
 intro args st k he
 unfold c_impl_SplitCubes at he
 split at he
 rotate_left
 ·exact he.elim
 rename_i vars
 have he : Ok (impl_SplitCubes vars) (fun r => k (.tup [.c (.own 900 false), .c (.bool r.1)]) [(900, .sl 23 (.sl y0_) r.2 (.deep true .no))]) := he
 refine ⟨rfl, rfl, ?_⟩
 refine go_bind he fun r1_ he => ?_
 refine go_if2 he (fun he => ?_) fun he => ?_
 ·refine go_if he (fun he => ?_) fun he => ?_
  ·have he := ok_some he
   exact ⟨rfl, _, _, (leads_ren [] (l := [(2, .c (.own 900 false)), (3, .c (.bool false))]) (st' := [(900, .sl 23 (.sl y0_) ([] : List (List Int)) (.deep true .no))]) rfl rfl ⟨trivial, trivial⟩ ⟨⟨rfl, trivial⟩, .inr rfl, trivial⟩), he⟩
  ·refine go_bind he fun r2_ he => ?_
   have he := ok_some he
   exact ⟨rfl, _, _, (leads_ren [(900, 14900)] (l := [(2, .c (.own 900 false)), (3, .c (.bool true))]) (st' := [(900, .sl 23 (.sl y0_) r2_ (.deep true .no))]) rfl rfl ⟨⟨rfl, rfl⟩, trivial⟩ ⟨⟨⟨rfl, rfl⟩, trivial⟩, .inr rfl, trivial⟩), he⟩
 ·have he := ok_some he
  exact ⟨rfl, _, _, (leads_ren [] (l := [(2, .c (.own 900 false)), (3, .c (.bool false))]) (st' := [(900, .sl 23 (.sl y0_) ([] : List (List Int)) (.deep true .no))]) rfl rfl ⟨trivial, trivial⟩ ⟨⟨rfl, trivial⟩, .inr rfl, trivial⟩), he⟩

noncomputable def c_impl_isLiteral : Con := fun args st => match args, st with
  | [.c (.int .i64 l)], [] => .opt (Bool) (impl_isLiteral l) (fun r => .ret (.c (.bool r)) [])
  | _, _ => .fail

noncomputable def C_impl_isLiteral : Cfg := { y := tys, n := 9, h := 0, tab := [(47, c_impl_within)], cut := [], hand := [], good := [], deep := [], sched := [] }

theorem t_impl_isLiteral : TabOk Tryz.prog C_impl_isLiteral := by
  refine tabOk_of ?_
  simp only [C_impl_isLiteral, List.forall_mem_cons]
  exact ⟨k_impl_within, fun p h => by cases h⟩

theorem k_impl_isLiteral : Entry Tryz.prog 69 c_impl_isLiteral := by
 refine entry_by (C := C_impl_isLiteral) mixed tys_ok t_impl_isLiteral (fn := Tryz.f69) (c := bd Tryz.f69) (by kernel_rfl) (by kernel_rfl) (by kernel_rfl) (by kernel_rfl) ?_
 intro args st k he
 unfold c_impl_isLiteral at he
 split at he
 rotate_left
 ·exact he.elim
 rename_i l
 have he : Ok (impl_isLiteral l) (fun r => k (.c (.bool r)) []) := he
 refine ⟨rfl, rfl, ?_⟩
 refine go_if he (fun he => ?_) fun he => ?_
 ·refine go_bind he fun r1_ he => ?_
  have he := ok_some he
  exact ⟨rfl, _, _, Leads.refl _ _, he⟩
 ·have he := ok_some he
  exact ⟨rfl, _, _, Leads.refl _ _, he⟩

noncomputable def c_impl_variableOf : Con := fun args st => match args, st with
  | [.c (.int .i64 l)], [] => .opt (Int) (impl_variableOf l) (fun r => .ret (.c (.int .i64 r)) [])
  | _, _ => .fail

noncomputable def C_impl_variableOf : Cfg := { y := tys, n := 7, h := 0, tab := [], cut := [], hand := [], good := [], deep := [], sched := [] }

theorem t_impl_variableOf : TabOk Tryz.prog C_impl_variableOf := tabOk_of (fun p h => by cases h)

theorem k_impl_variableOf : Entry Tryz.prog 70 c_impl_variableOf := by
 refine entry_by (C := C_impl_variableOf) mixed tys_ok t_impl_variableOf (fn := Tryz.f70) (c := bd Tryz.f70) (by kernel_rfl) (by kernel_rfl) (by kernel_rfl) (by kernel_rfl) ?_
 intro args st k he
 unfold c_impl_variableOf at he
 split at he
 rotate_left
 ·exact he.elim
 rename_i l
 have he : Ok (impl_variableOf l) (fun r => k (.c (.int .i64 r)) []) := he
 refine ⟨rfl, rfl, ?_⟩
 refine go_rq he fun he => ?_
 have he := ok_some he
 exact ⟨rfl, _, _, Leads.refl _ _, he⟩

noncomputable def c_impl_ConstraintValid : Con := fun args st => match args, st with
  | [.agg [.imm (.pair (.int .i64) (.int .i64)) c__0, .int .i64 c__1]], [] => .opt (Bool) (impl_ConstraintValid (c__0, c__1)) (fun r => .ret (.c (.bool r)) [])
  | _, _ => .fail

noncomputable def C_impl_ConstraintValid : Cfg := { y := tys, n := 37, h := 0, tab := [(47, c_impl_within), (69, c_impl_isLiteral), (70, c_impl_variableOf)], cut := [], hand := [], good := [], deep := [], sched := [] }

theorem t_impl_ConstraintValid : TabOk Tryz.prog C_impl_ConstraintValid := by
  refine tabOk_of ?_
  simp only [C_impl_ConstraintValid, List.forall_mem_cons]
  exact ⟨k_impl_within, k_impl_isLiteral, k_impl_variableOf, fun p h => by cases h⟩

theorem k_impl_ConstraintValid : Entry Tryz.prog 68 c_impl_ConstraintValid := by
 refine entry_by (C := C_impl_ConstraintValid) mixed tys_ok t_impl_ConstraintValid (fn := Tryz.f68) (c := bd Tryz.f68) (by kernel_rfl) (by kernel_rfl) (by kernel_rfl) (by kernel_rfl) ?_
 intro args st k he
 unfold c_impl_ConstraintValid at he
 split at he
 rotate_left
 ·exact he.elim
 rename_i c__0 c__1
 have he : Ok (impl_ConstraintValid (c__0, c__1)) (fun r => k (.c (.bool r)) []) := he
 refine ⟨rfl, rfl, ?_⟩
 refine loop_model mixed tys_ok t_impl_ConstraintValid (S := Int × Int) (I := (fun (before, i) => (envOf [(1, .c (.ptr 10000000 0)), (3, .c (.int .i64 before)), (7, .c (.imm y1_ (c__0, c__1).1)), (8, .c (.int .i64 ((c__0, c__1).1.length:Int))), (9, .c (.int .i64 i))], [(10000000, .rc [.imm y1_ (c__0, c__1).1, .int .i64 (c__0, c__1).2])]))) (f := impl_ConstraintValid_l1 (c__0, c__1)) (K := (fun r => k (.c (.bool r)) [])) he (leads_ren [(10000000, 1)] rfl rfl ⟨⟨.inl rfl, rfl, trivial⟩, trivial⟩ ⟨⟨⟨rfl, rfl⟩, rfl⟩, rfl, .inl rfl, rfl, rfl, trivial⟩) ?_
 rintro ⟨before, i⟩ J1 he
 refine go_if he (fun he => ?_) fun he => ?_
 ·refine go_rq he fun he => ?_
  refine go_bind he fun r1_ he => ?_
  refine go_if2 he (fun he => ?_) fun he => ?_
  ·refine go_bind he fun r2_ he => ?_
   refine go_if2 he (fun he => ?_) fun he => ?_
   ·refine go_bind he fun r3_ he => ?_
    refine go_if he (fun he => ?_) fun he => ?_
    ·have he := ok_some he
     exact ⟨rfl, _, _, (leads_ren [] (l := [(2, .c (.bool false))]) (st' := []) rfl rfl trivial ⟨.inr rfl, trivial⟩), he⟩
    ·refine go_bind he fun r4_ he => ?_
     refine go_rq he fun he => ?_
     have he := ok_some he
     exact ⟨(r4_, (i + (1:Int))), he, (leads_ren [] rfl rfl ⟨⟨.inl rfl, rfl, trivial⟩, trivial⟩ ⟨⟨⟨rfl, rfl⟩, rfl⟩, rfl, .inl rfl, rfl, rfl, trivial⟩)⟩
   ·have he := ok_some he
    exact ⟨rfl, _, _, (leads_ren [] (l := [(2, .c (.bool false))]) (st' := []) rfl rfl trivial ⟨.inr rfl, trivial⟩), he⟩
  ·have he := ok_some he
   exact ⟨rfl, _, _, (leads_ren [] (l := [(2, .c (.bool false))]) (st' := []) rfl rfl trivial ⟨.inr rfl, trivial⟩), he⟩
 ·refine go_bind he fun r5_ he => ?_
  have he := ok_some he
  exact ⟨rfl, _, _, (leads_ren [] (l := [(2, .c (.bool r5_))]) (st' := []) rfl rfl trivial ⟨.inl rfl, trivial⟩), he⟩

end Go.AE.Y
