/-
  Walks: each function keeps the contract that its model gives. No conditions.
-/
import Derived.Test.YtlniniagobanpaaR6Tab
import Derived.Test.YtlniniagobanpaaR6W2
import Derived.Test.YtlniniagobanpaaR6S
namespace Go.AE.Y
open Go Go.AE Go.Proofs
set_option linter.unusedVariables false
set_option maxHeartbeats 2000000
set_option maxRecDepth 100000

noncomputable def c_slices_Contains_int : Con := fun args st => match args, st with
  | [.c (.imm (.int .i64) s_), .c (.int .i64 v)], [] => .opt (Bool) (slices_Contains_int s_ v) (fun r => .ret (.c (.bool r)) [])
  | _, _ => .fail

noncomputable def C_slices_Contains_int : Cfg := { y := tys, n := 9, h := 0, tab := [(73, c_slices_Index_int)], cut := [], hand := [], good := [], deep := [], sched := [] }

theorem t_slices_Contains_int : TabOk Try.prog C_slices_Contains_int := by
  refine tabOk_of ?_
  simp only [C_slices_Contains_int, List.forall_mem_cons]
  exact ⟨k_slices_Index_int, fun p h => by cases h⟩

theorem k_slices_Contains_int : Entry Try.prog 57 c_slices_Contains_int := by
 refine entry_by (C := C_slices_Contains_int) mixed tys_ok t_slices_Contains_int (fn := Try.f57) (c := bd Try.f57) (by kernel_rfl) (by kernel_rfl) (by kernel_rfl) (by kernel_rfl) ?_
 intro args st k he
 unfold c_slices_Contains_int at he
 split at he
 rotate_left
 ·exact he.elim
 rename_i s_ v
 have he : Ok (slices_Contains_int s_ v) (fun r => k (.c (.bool r)) []) := he
 refine ⟨rfl, rfl, ?_⟩
 refine go_bind he fun r1_ he => ?_
 have he := ok_some he
 exact ⟨rfl, _, _, Leads.refl _ _, he⟩

noncomputable def c_impl_ClauseOf_1 : Con := fun args st => match args, st with
  | [.c (.int .i64 a), .c (.int .i64 b)], [] => .opt (Int) (impl_ClauseOf_1 a b) (fun r => .ret (.c (.int .i64 r)) [])
  | _, _ => .fail

noncomputable def C_impl_ClauseOf_1 : Cfg := { y := tys, n := 10, h := 0, tab := [(44, c_impl_variableOf)], cut := [], hand := [], good := [], deep := [], sched := [] }

theorem t_impl_ClauseOf_1 : TabOk Try.prog C_impl_ClauseOf_1 := by
  refine tabOk_of ?_
  simp only [C_impl_ClauseOf_1, List.forall_mem_cons]
  exact ⟨k_impl_variableOf, fun p h => by cases h⟩

theorem k_impl_ClauseOf_1 : Entry Try.prog 59 c_impl_ClauseOf_1 := by
 refine entry_by (C := C_impl_ClauseOf_1) mixed tys_ok t_impl_ClauseOf_1 (fn := Try.f59) (c := bd Try.f59) (by kernel_rfl) (by kernel_rfl) (by kernel_rfl) (by kernel_rfl) ?_
 intro args st k he
 unfold c_impl_ClauseOf_1 at he
 split at he
 rotate_left
 ·exact he.elim
 rename_i a b
 have he : Ok (impl_ClauseOf_1 a b) (fun r => k (.c (.int .i64 r)) []) := he
 refine ⟨rfl, rfl, ?_⟩
 refine go_bind he fun r1_ he => ?_
 refine go_bind he fun r2_ he => ?_
 refine go_rq he fun he => ?_
 have he := ok_some he
 exact ⟨rfl, _, _, Leads.refl _ _, he⟩

noncomputable def c_slices_SortFunc_int__impl_ClauseOf_1 : Con := sortC0 59 impl_ClauseOf_1

theorem k_slices_SortFunc_int__impl_ClauseOf_1 : Entry Try.prog 58 c_slices_SortFunc_int__impl_ClauseOf_1 := sort_entry0 lays58 k_impl_ClauseOf_1 (fun x y => rfl)

noncomputable def c_slices_Compact_int : Con := fun args st => match args, st with
  | [.c (.own 0 false)], [(0, .sl 3 (.int .i64) s_ .shallow)] => .opt ((List Int)) (slices_Compact_int s_) (fun r => .ret (.c (.own 900 false)) [(0, .dead), (900, .sl 3 y0_ r .shallow)])
  | _, _ => .fail

noncomputable def C_slices_Compact_int : Cfg := { y := tys, n := 61, h := 1, tab := [], cut := [14], hand := [], good := [], deep := [], sched := [] }

theorem t_slices_Compact_int : TabOk Try.prog C_slices_Compact_int := tabOk_of (fun p h => by cases h)

theorem k_slices_Compact_int : Entry Try.prog 60 c_slices_Compact_int := by
 refine entry_by (C := C_slices_Compact_int) mixed tys_ok t_slices_Compact_int (fn := Try.f60) (c := bd Try.f60) (by kernel_rfl) (by kernel_rfl) (by kernel_rfl) (by kernel_rfl) ?_
 intro args st k he
 unfold c_slices_Compact_int at he
 split at he
 rotate_left
 ·exact he.elim
 rename_i s_
 have he : Ok (slices_Compact_int s_) (fun r => k (.c (.own 900 false)) [(0, .dead), (900, .sl 3 y0_ r .shallow)]) := he
 refine ⟨rfl, rfl, ?_⟩
 refine go_if he (fun he => ?_) fun he => ?_
 ·have he := ok_some he
  exact ⟨rfl, _, _, (leads_ren [(900, 0)] (l := [(2, .c (.own 900 false))]) (st' := [(0, .dead), (900, .sl 3 y0_ s_ .shallow)]) rfl rfl ⟨trivial, ⟨rfl, rfl⟩, trivial⟩ ⟨⟨⟨rfl, rfl⟩, trivial⟩, trivial⟩), he⟩
 ·refine loop_model mixed tys_ok t_slices_Compact_int (S := Int) (I := (fun k_ => (envOf [(0, .c (.own 0 false)), (3, .c (.int .i64 k_))], [(0, .sl 3 y0_ s_ .shallow)]))) (f := slices_Compact_int_l1 s_) (K := (fun r => k (.c (.own 900 false)) [(0, .dead), (900, .sl 3 y0_ r .shallow)])) he (leads_ren [] rfl rfl ⟨⟨rfl, rfl⟩, trivial⟩ ⟨⟨⟨rfl, rfl⟩, trivial⟩, rfl, trivial⟩) ?_
  rintro k_ J1 he
  refine go_if he (fun he => ?_) fun he => ?_
  ·refine And.intro (by kernel_rfl) ?_
   refine go_rq he fun he => ?_
   refine go_rq he fun he => ?_
   refine go_rq he fun he => ?_
   refine go_if he (fun he => ?_) fun he => ?_
   ·refine go_rq he fun he => ?_
    refine seq_model mixed tys_ok t_slices_Compact_int (S := Int × (List Int)) (I := (fun (k_2, s_2) => (envOf [(0, .c (.own 0 false)), (3, .c (.int .i64 k_2))], [(0, .sl 3 y0_ s_2 .shallow)]))) (B := fun s => Ok (slices_Compact_int_j1 s) (LK J1 (fun r => k (.c (.own 900 false)) [(0, .dead), (900, .sl 3 y0_ r .shallow)]))) ?_ ?_
    ·rintro ⟨k_2, s_2⟩ he
     refine go_rq he fun he => ?_
     refine go_rq he fun he => ?_
     have he := ok_some he
     exact ⟨rfl, _, _, (leads_ren [(900, 59)] (l := [(2, .c (.own 900 false))]) (st' := [(0, .dead), (900, .sl 3 y0_ ((s_2.take k_2.toNat ++ List.replicate (s_2.length - k_2.toNat) (0:Int)).take k_2.toNat) .shallow)]) rfl rfl ⟨trivial, ⟨rfl, rfl⟩, trivial⟩ ⟨⟨⟨rfl, rfl⟩, trivial⟩, trivial⟩), he⟩
    ·skip
     refine loop_model mixed tys_ok t_slices_Compact_int (S := Int × Int × (List Int)) (I := (fun (k_1, k2_, s_1) => (envOf [(0, .c (.own 0 false)), (3, .c (.int .i64 k_1)), (4, .c (.view 0 k_)), (5, .c (.int .i64 k2_))], [(0, .sl 3 y0_ s_1 .shallow)]))) (f := slices_Compact_int_l2 k_) (K := (LK J1 (fun r => k (.c (.own 900 false)) [(0, .dead), (900, .sl 3 y0_ r .shallow)]))) he (leads_ren [] rfl rfl ⟨⟨rfl, rfl⟩, trivial⟩ ⟨⟨⟨rfl, rfl⟩, trivial⟩, rfl, ⟨⟨rfl, rfl⟩, rfl⟩, rfl, trivial⟩) ?_
     rintro ⟨k_1, k2_, s_1⟩ J2 he
     refine go_if he (fun he => ?_) fun he => ?_
     ·refine And.intro (by kernel_rfl) ?_
      refine go_rq he fun he => ?_
      refine go_rq he fun he => ?_
      refine go_rq he fun he => ?_
      refine go_if he (fun he => ?_) fun he => ?_
      ·refine go_rq he fun he => ?_
       refine go_rq he fun he => ?_
       refine go_rq he fun he => ?_
       refine go_rq he fun he => ?_
       have he := ok_some he
       exact ⟨((k_1 + (1:Int)), (k2_ + (1:Int)), (s_1.set k_1.toNat (s_1.getD (k_ + k2_).toNat 0))), he, (leads_ren [] rfl rfl ⟨⟨rfl, rfl⟩, trivial⟩ ⟨⟨⟨rfl, rfl⟩, trivial⟩, rfl, ⟨⟨rfl, rfl⟩, rfl⟩, rfl, trivial⟩)⟩
      ·refine go_rq he fun he => ?_
       have he := ok_some he
       exact ⟨(k_1, (k2_ + (1:Int)), s_1), he, (leads_ren [] rfl rfl ⟨⟨rfl, rfl⟩, trivial⟩ ⟨⟨⟨rfl, rfl⟩, trivial⟩, rfl, ⟨⟨rfl, rfl⟩, rfl⟩, rfl, trivial⟩)⟩
     ·exact ⟨(k_1, s_1), ok_up he, (leads_ren [] rfl rfl ⟨⟨rfl, rfl⟩, trivial⟩ ⟨⟨⟨rfl, rfl⟩, trivial⟩, rfl, trivial⟩)⟩
   ·refine go_rq he fun he => ?_
    have he := ok_some he
    exact ⟨(k_ + (1:Int)), he, (leads_ren [] rfl rfl ⟨⟨rfl, rfl⟩, trivial⟩ ⟨⟨⟨rfl, rfl⟩, trivial⟩, rfl, trivial⟩)⟩
  ·have he := ok_some he
   exact ⟨rfl, _, _, (leads_ren [(900, 0)] (l := [(2, .c (.own 900 false))]) (st' := [(0, .dead), (900, .sl 3 y0_ s_ .shallow)]) rfl rfl ⟨trivial, ⟨rfl, rfl⟩, trivial⟩ ⟨⟨⟨rfl, rfl⟩, trivial⟩, trivial⟩), he⟩

noncomputable def c_impl_ClauseOf : Con := fun args st => match args, st with
  | [.c (.imm (.int .i64) lits)], [] => .opt (Bool × Int × (List D2_)) (impl_ClauseOf lits) (fun r => .ret (.tup [.agg [.own 901 false, .int .i64 r.2.1], .c (.bool r.1)]) [(900, .rc [.own 901 false, .int .i64 r.2.1]), (901, .sl 66 y2_ r.2.2 .shallow)])
  | _, _ => .fail

noncomputable def C_impl_ClauseOf : Cfg := { y := tys, n := 52, h := 0, tab := [(47, c_slices_Clone_int), (55, c_impl_isLiteral), (57, c_slices_Contains_int), (58, c_slices_SortFunc_int__impl_ClauseOf_1), (60, c_slices_Compact_int)], cut := [], hand := [(58, [0]), (60, [0])], good := [], deep := [], sched := [] }

theorem t_impl_ClauseOf : TabOk Try.prog C_impl_ClauseOf := by
  refine tabOk_of ?_
  simp only [C_impl_ClauseOf, List.forall_mem_cons]
  exact ⟨k_slices_Clone_int, k_impl_isLiteral, k_slices_Contains_int, k_slices_SortFunc_int__impl_ClauseOf_1, k_slices_Compact_int, fun p h => by cases h⟩

theorem k_impl_ClauseOf : Entry Try.prog 37 c_impl_ClauseOf := by
 refine entry_by (C := C_impl_ClauseOf) mixed tys_ok t_impl_ClauseOf (fn := Try.f37) (c := bd Try.f37) (by kernel_rfl) (by kernel_rfl) (by kernel_rfl) (by kernel_rfl) ?_
 intro args st k he
 unfold c_impl_ClauseOf at he
 split at he
 rotate_left
 ·exact he.elim
 rename_i lits
 have he : Ok (impl_ClauseOf lits) (fun r => k (.tup [.agg [.own 901 false, .int .i64 r.2.1], .c (.bool r.1)]) [(900, .rc [.own 901 false, .int .i64 r.2.1]), (901, .sl 66 y2_ r.2.2 .shallow)]) := he
 refine ⟨rfl, rfl, ?_⟩
 refine go_if he (fun he => ?_) fun he => ?_
 ·have he := ok_some he
  exact ⟨rfl, _, _, (leads_ren [(900, 2)] (l := [(2, .c (.ptr 900 0)), (3, .c (.bool false))]) (st' := [(900, .rc [.own 901 false, .int .i64 (0:Int)]), (901, .sl 66 y2_ ([] : List D2_) .shallow)]) rfl rfl ⟨⟨⟨rfl, trivial⟩, rfl, trivial⟩, trivial, trivial⟩ ⟨⟨⟨rfl, rfl⟩, rfl⟩, .inr rfl, trivial⟩), he⟩
 ·refine loop_model mixed tys_ok t_impl_ClauseOf (S := Int) (I := (fun i => (envOf [(0, .c (.imm y0_ lits)), (2, .c (.ptr 10000000 0)), (14, .c (.imm y0_ lits)), (15, .c (.int .i64 (lits.length:Int))), (16, .c (.int .i64 i))], [(10000000, .rc [.nil, .int .i64 (0:Int)])]))) (f := impl_ClauseOf_l1 lits) (K := (fun r => k (.tup [.agg [.own 901 false, .int .i64 r.2.1], .c (.bool r.1)]) [(900, .rc [.own 901 false, .int .i64 r.2.1]), (901, .sl 66 y2_ r.2.2 .shallow)])) he (leads_ren [(10000000, 2)] rfl rfl ⟨⟨rfl, rfl, trivial⟩, trivial⟩ ⟨.inl rfl, ⟨⟨rfl, rfl⟩, rfl⟩, .inl rfl, rfl, rfl, trivial⟩) ?_
  rintro i J1 he
  refine go_if he (fun he => ?_) fun he => ?_
  ·refine go_rq he fun he => ?_
   refine go_bind he fun r1_ he => ?_
   refine go_if2 he (fun he => ?_) fun he => ?_
   ·refine go_rq he fun he => ?_
    refine go_bind he fun r2_ he => ?_
    refine go_if he (fun he => ?_) fun he => ?_
    ·have he := ok_some he
     exact ⟨rfl, _, _, (leads_ren [(900, 10000000)] (l := [(2, .c (.ptr 900 0)), (3, .c (.bool false))]) (st' := [(900, .rc [.own 901 false, .int .i64 (0:Int)]), (901, .sl 66 y2_ ([] : List D2_) .shallow)]) rfl rfl ⟨⟨⟨rfl, trivial⟩, rfl, trivial⟩, trivial, trivial⟩ ⟨⟨⟨rfl, rfl⟩, rfl⟩, .inr rfl, trivial⟩), he⟩
    ·refine go_rq he fun he => ?_
     have he := ok_some he
     exact ⟨(i + (1:Int)), he, (leads_ren [] rfl rfl ⟨⟨rfl, rfl, trivial⟩, trivial⟩ ⟨.inl rfl, ⟨⟨rfl, rfl⟩, rfl⟩, .inl rfl, rfl, rfl, trivial⟩)⟩
   ·have he := ok_some he
    exact ⟨rfl, _, _, (leads_ren [(900, 10000000)] (l := [(2, .c (.ptr 900 0)), (3, .c (.bool false))]) (st' := [(900, .rc [.own 901 false, .int .i64 (0:Int)]), (901, .sl 66 y2_ ([] : List D2_) .shallow)]) rfl rfl ⟨⟨⟨rfl, trivial⟩, rfl, trivial⟩, trivial, trivial⟩ ⟨⟨⟨rfl, rfl⟩, rfl⟩, .inr rfl, trivial⟩), he⟩
  ·refine go_bind he fun r3_ he => ?_
   refine go_bind he fun r4_ he => ?_
   refine go_bind he fun r5_ he => ?_
   refine loop_model mixed tys_ok t_impl_ClauseOf (S := Int × (List D2_)) (I := (fun (i1, c_0) => (envOf [(2, .c (.ptr 10001000 0)), (7, .c (.ptr 10001001 0)), (37, .c (.own 10001002 false)), (38, .c (.int .i64 (r5_.length:Int))), (39, .c (.int .i64 i1))], [(10001000, .rc [.nil, .int .i64 (0:Int)]), (10001001, .rc [.own 10001003 false, .int .i64 (1:Int)]), (10001002, .sl 3 y0_ r5_ .shallow), (10001003, .sl 66 y2_ c_0 .shallow)]))) (f := impl_ClauseOf_l2 r5_) (K := (LK J1 (fun r => k (.tup [.agg [.own 901 false, .int .i64 r.2.1], .c (.bool r.1)]) [(900, .rc [.own 901 false, .int .i64 r.2.1]), (901, .sl 66 y2_ r.2.2 .shallow)]))) he (leads_ren [(10001000, 10000000), (10001001, 7), (10001002, 38900)] rfl rfl ⟨⟨rfl, rfl, trivial⟩, ⟨⟨rfl, trivial⟩, rfl, trivial⟩, ⟨rfl, rfl⟩, trivial, trivial⟩ ⟨⟨⟨rfl, rfl⟩, rfl⟩, ⟨⟨rfl, rfl⟩, rfl⟩, ⟨⟨rfl, rfl⟩, trivial⟩, rfl, rfl, trivial⟩) ?_
   rintro ⟨i1, c_0⟩ J2 he
   refine go_if he (fun he => ?_) fun he => ?_
   ·refine go_rq he fun he => ?_
    refine go_rq he fun he => ?_
    refine go_rq he fun he => ?_
    have he := ok_some he
    exact ⟨((i1 + (1:Int)), (c_0 ++ [((1:Int), (r5_.getD i1.toNat 0))])), he, (leads_ren [(10001003, 48)] rfl rfl ⟨⟨rfl, rfl, trivial⟩, ⟨⟨⟨rfl, rfl⟩, trivial⟩, rfl, trivial⟩, ⟨rfl, rfl⟩, ⟨rfl, rfl⟩, trivial⟩ ⟨⟨⟨rfl, rfl⟩, rfl⟩, ⟨⟨rfl, rfl⟩, rfl⟩, ⟨⟨rfl, rfl⟩, trivial⟩, rfl, rfl, trivial⟩)⟩
   ·have he := ok_some he
    exact ⟨rfl, _, _, (leads_ren [(900, 10001000), (901, 10001003)] (l := [(2, .c (.ptr 900 0)), (3, .c (.bool true))]) (st' := [(900, .rc [.own 901 false, .int .i64 (1:Int)]), (901, .sl 66 y2_ c_0 .shallow)]) rfl rfl ⟨⟨⟨⟨rfl, rfl⟩, trivial⟩, rfl, trivial⟩, ⟨rfl, rfl⟩, trivial⟩ ⟨⟨⟨rfl, rfl⟩, rfl⟩, .inr rfl, trivial⟩), he⟩

noncomputable def c_impl_searching_fail__Rsd : Con := fun args st => match args, st with
  | [.c (.ptr 0 0), .c (.imm (.int .i64) decisions)], [(0, .rc [.own 1 false, .int .i64 s_1, .own 2 false, .bool s_3]), (1, .sl 56 (.pair (.sl (.pair (.int .i64) (.int .i64))) (.int .i64)) o1 .shallow), (2, .sl 70 (.pair (.int .i64) (.pair (.int .i64) (.pair (.int .i64) (.pair (.sl (.pair (.int .i64) (.int .i64))) (.int .i64))))) o2 (.deep true .no))] => .opt ((List D3_) × (List D6_)) (impl_searching_fail__Rsd decisions s_1 s_3 o1 o2) (fun r => .ret (.tup []) [(0, .rc [.own 900 false, .int .i64 s_1, .own 901 false, .bool s_3]), (1, .dead), (2, .dead), (900, .sl 56 y3_ r.1 .shallow), (901, .sl 70 y6_ r.2 (.deep true .no))])
  | _, _ => .fail

noncomputable def C_impl_searching_fail__Rsd : Cfg := { y := tys, n := 48, h := 3, tab := [(37, c_impl_ClauseOf), (56, c_impl_Constraint_own)], cut := [6, 8], hand := [], good := [], deep := [44], sched := [(7, (.first 0 (.first 1 (.alt 2 (.first 3 (.alt 4 (.alt 5 (.alt 6 (.alt 7 (.alt 8 (.first 9 (.alt 10 .done .stop)) .stop) .stop) .stop) .stop) (.alt 5 (.alt 4 (.alt 6 (.alt 7 (.alt 8 (.first 9 (.alt 10 .done .stop)) .stop) .stop) .stop) (.alt 6 (.alt 4 (.alt 7 (.alt 8 (.first 9 (.alt 10 .done .stop)) .stop) .stop) .stop) .stop)) .stop))) (.alt 5 (.alt 2 (.first 3 (.alt 4 (.alt 6 (.alt 7 (.alt 8 (.first 9 (.alt 10 .done .stop)) .stop) .stop) .stop) (.alt 6 (.alt 4 (.alt 7 (.alt 8 (.first 9 (.alt 10 .done .stop)) .stop) .stop) .stop) .stop))) (.alt 6 (.alt 2 (.first 3 (.alt 4 (.alt 7 (.alt 8 (.first 9 (.alt 10 .done .stop)) .stop) .stop) .stop)) .stop) .stop)) .stop))))), (8, (.first 0 (.first 1 (.alt 2 (.first 3 (.alt 4 (.alt 5 (.alt 6 (.alt 7 (.alt 8 (.alt 9 (.alt 10 (.first 11 (.alt 12 .done .stop)) .stop) .stop) .stop) .stop) .stop) .stop) (.alt 5 (.alt 4 (.alt 6 (.alt 7 (.alt 8 (.alt 9 (.alt 10 (.first 11 (.alt 12 .done .stop)) .stop) .stop) .stop) .stop) .stop) (.alt 6 (.alt 4 (.alt 7 (.alt 8 (.alt 9 (.alt 10 (.first 11 (.alt 12 .done .stop)) .stop) .stop) .stop) .stop) (.alt 7 (.alt 4 (.alt 8 (.alt 9 (.alt 10 (.first 11 (.alt 12 .done .stop)) .stop) .stop) .stop) (.alt 8 (.alt 4 (.alt 9 (.alt 10 (.first 11 (.alt 12 .done .stop)) .stop) .stop) .stop) .stop)) .stop)) .stop)) .stop))) (.alt 5 (.alt 2 (.first 3 (.alt 4 (.alt 6 (.alt 7 (.alt 8 (.alt 9 (.alt 10 (.first 11 (.alt 12 .done .stop)) .stop) .stop) .stop) .stop) .stop) (.alt 6 (.alt 4 (.alt 7 (.alt 8 (.alt 9 (.alt 10 (.first 11 (.alt 12 .done .stop)) .stop) .stop) .stop) .stop) (.alt 7 (.alt 4 (.alt 8 (.alt 9 (.alt 10 (.first 11 (.alt 12 .done .stop)) .stop) .stop) .stop) (.alt 8 (.alt 4 (.alt 9 (.alt 10 (.first 11 (.alt 12 .done .stop)) .stop) .stop) .stop) .stop)) .stop)) .stop))) (.alt 6 (.alt 2 (.first 3 (.alt 4 (.alt 7 (.alt 8 (.alt 9 (.alt 10 (.first 11 (.alt 12 .done .stop)) .stop) .stop) .stop) .stop) (.alt 7 (.alt 4 (.alt 8 (.alt 9 (.alt 10 (.first 11 (.alt 12 .done .stop)) .stop) .stop) .stop) (.alt 8 (.alt 4 (.alt 9 (.alt 10 (.first 11 (.alt 12 .done .stop)) .stop) .stop) .stop) .stop)) .stop))) (.alt 7 (.alt 2 (.first 3 (.alt 4 (.alt 8 (.alt 9 (.alt 10 (.first 11 (.alt 12 .done .stop)) .stop) .stop) .stop) (.alt 8 (.alt 4 (.alt 9 (.alt 10 (.first 11 (.alt 12 .done .stop)) .stop) .stop) .stop) .stop))) (.alt 8 (.alt 2 (.first 3 (.alt 4 (.alt 9 (.alt 10 (.first 11 (.alt 12 .done .stop)) .stop) .stop) .stop)) .stop) .stop)) .stop)) .stop)) .stop)))))] }

theorem t_impl_searching_fail__Rsd : TabOk Try.prog C_impl_searching_fail__Rsd := by
  refine tabOk_of ?_
  simp only [C_impl_searching_fail__Rsd, List.forall_mem_cons]
  exact ⟨k_impl_ClauseOf, k_impl_Constraint_own, fun p h => by cases h⟩

theorem k_impl_searching_fail__Rsd : Entry Try.prog 48 c_impl_searching_fail__Rsd := by
 refine entry_by (C := C_impl_searching_fail__Rsd) mixed tys_ok t_impl_searching_fail__Rsd (fn := Try.f48) (c := bd Try.f48) (by kernel_rfl) (by kernel_rfl) (by kernel_rfl) (by kernel_rfl) ?_
 intro args st k he
 unfold c_impl_searching_fail__Rsd at he
 split at he
 rotate_left
 ·exact he.elim
 rename_i decisions s_1 s_3 o1 o2
 have he : Ok (impl_searching_fail__Rsd decisions s_1 s_3 o1 o2) (fun r => k (.tup []) [(0, .rc [.own 900 false, .int .i64 s_1, .own 901 false, .bool s_3]), (1, .dead), (2, .dead), (900, .sl 56 y3_ r.1 .shallow), (901, .sl 70 y6_ r.2 (.deep true .no))]) := he
 refine ⟨rfl, rfl, ?_⟩
 refine seq_model mixed tys_ok t_impl_searching_fail__Rsd (S := (List Int)) (I := (fun lits1 => (envOf [(0, .c (.ptr 0 0)), (4, .c (.own 10001000 false))], [(0, .rc [.own 1 false, .int .i64 s_1, .own 2 false, .bool s_3]), (1, .sl 56 y3_ o1 .shallow), (2, .sl 70 y6_ o2 (.deep true .no)), (10001000, .sl 3 y0_ lits1 .shallow)]))) (B := fun s => Ok (impl_searching_fail__Rsd_j1 o1 o2 s) (fun r => k (.tup []) [(0, .rc [.own 900 false, .int .i64 s_1, .own 901 false, .bool s_3]), (1, .dead), (2, .dead), (900, .sl 56 y3_ r.1 .shallow), (901, .sl 70 y6_ r.2 (.deep true .no))])) ?_ ?_
 ·rintro lits1 he
  refine go_bind he fun r1_ he => ?_
  refine seq_model mixed tys_ok t_impl_searching_fail__Rsd (S := Unit) (I := (fun _ => (envOf [(0, .c (.ptr 0 0)), (7, .c (.ptr 10002000 0))], [(0, .rc [.own 10002001 false, .int .i64 s_1, .own 2 false, .bool s_3]), (1, .dead), (2, .sl 70 y6_ o2 (.deep true .no)), (10002000, .rc [.imm y2_ r1_.2.2, .int .i64 r1_.2.1]), (10002001, .sl 56 y3_ (o1 ++ [(r1_.2.2, r1_.2.1)]) .shallow)]))) (B := fun s => Ok (impl_searching_fail__Rsd_j2 o1 o2 r1_ s) (fun r => k (.tup []) [(0, .rc [.own 900 false, .int .i64 s_1, .own 901 false, .bool s_3]), (1, .dead), (2, .dead), (900, .sl 56 y3_ r.1 .shallow), (901, .sl 70 y6_ r.2 (.deep true .no))])) ?_ ?_
  ·rintro ⟨⟩ he
   refine And.intro (by kernel_rfl) ?_
   obtain ⟨r3_, hq1, he⟩ := ok_bind he
   have he := ok_rq he
   have hq2 := he.1
   have he := he.2
   refine And.intro ?_ (And.intro ?_ (trivial))
   ·skip
    refine And.intro ?_ (And.intro ?_ (trivial))
    ·skip
     refine And.intro ?_ trivial
     refine And.intro ?_ trivial
     refine ⟨r3_, hq1, ?_⟩
     refine And.intro ?_ trivial
     refine And.intro ?_ trivial
     refine And.intro ?_ trivial
     refine And.intro hq2 ?_
     refine And.intro ?_ trivial
     refine And.intro ?_ trivial
     have he := ok_some he
     exact ⟨rfl, _, _, (leads_ren [(900, 10002001), (901, 45)] (l := []) (st' := [(0, .rc [.own 900 false, .int .i64 s_1, .own 901 false, .bool s_3]), (1, .dead), (2, .dead), (900, .sl 56 y3_ (o1 ++ [(r1_.2.2, r1_.2.1)]) .shallow), (901, .sl 70 y6_ (o2 ++ [((7:Int), ((0:Int), ((0:Int), (r3_.2, r3_.1))))]) (.deep true .no))]) rfl rfl ⟨⟨⟨⟨rfl, rfl⟩, trivial⟩, rfl, ⟨⟨rfl, rfl⟩, trivial⟩, .inl rfl, trivial⟩, trivial, trivial, ⟨rfl, rfl⟩, ⟨rfl, rfl⟩, trivial⟩ trivial), he⟩
    ·skip
     refine And.intro ?_ (And.intro ?_ (trivial))
     ·skip
      refine And.intro ?_ trivial
      refine ⟨r3_, hq1, ?_⟩
      refine And.intro ?_ trivial
      refine And.intro ?_ trivial
      refine And.intro ?_ trivial
      refine And.intro hq2 ?_
      refine And.intro ?_ trivial
      refine And.intro ?_ trivial
      have he := ok_some he
      exact ⟨rfl, _, _, (leads_ren [(900, 10002001), (901, 45)] (l := []) (st' := [(0, .rc [.own 900 false, .int .i64 s_1, .own 901 false, .bool s_3]), (1, .dead), (2, .dead), (900, .sl 56 y3_ (o1 ++ [(r1_.2.2, r1_.2.1)]) .shallow), (901, .sl 70 y6_ (o2 ++ [((7:Int), ((0:Int), ((0:Int), (r3_.2, r3_.1))))]) (.deep true .no))]) rfl rfl ⟨⟨⟨⟨rfl, rfl⟩, trivial⟩, rfl, ⟨⟨rfl, rfl⟩, trivial⟩, .inl rfl, trivial⟩, trivial, trivial, ⟨rfl, rfl⟩, ⟨rfl, rfl⟩, trivial⟩ trivial), he⟩
     ·skip
      refine ⟨r3_, hq1, ?_⟩
      refine And.intro ?_ (And.intro ?_ (trivial))
      ·skip
       refine And.intro ?_ trivial
       refine And.intro ?_ trivial
       refine And.intro ?_ trivial
       refine And.intro hq2 ?_
       refine And.intro ?_ trivial
       refine And.intro ?_ trivial
       have he := ok_some he
       exact ⟨rfl, _, _, (leads_ren [(900, 10002001), (901, 45)] (l := []) (st' := [(0, .rc [.own 900 false, .int .i64 s_1, .own 901 false, .bool s_3]), (1, .dead), (2, .dead), (900, .sl 56 y3_ (o1 ++ [(r1_.2.2, r1_.2.1)]) .shallow), (901, .sl 70 y6_ (o2 ++ [((7:Int), ((0:Int), ((0:Int), (r3_.2, r3_.1))))]) (.deep true .no))]) rfl rfl ⟨⟨⟨⟨rfl, rfl⟩, trivial⟩, rfl, ⟨⟨rfl, rfl⟩, trivial⟩, .inl rfl, trivial⟩, trivial, trivial, ⟨rfl, rfl⟩, ⟨rfl, rfl⟩, trivial⟩ trivial), he⟩
      ·skip
       refine And.intro ?_ (And.intro ?_ (trivial))
       ·skip
        refine And.intro ?_ trivial
        refine And.intro ?_ trivial
        refine And.intro hq2 ?_
        refine And.intro ?_ trivial
        refine And.intro ?_ trivial
        have he := ok_some he
        exact ⟨rfl, _, _, (leads_ren [(900, 10002001), (901, 45)] (l := []) (st' := [(0, .rc [.own 900 false, .int .i64 s_1, .own 901 false, .bool s_3]), (1, .dead), (2, .dead), (900, .sl 56 y3_ (o1 ++ [(r1_.2.2, r1_.2.1)]) .shallow), (901, .sl 70 y6_ (o2 ++ [((7:Int), ((0:Int), ((0:Int), (r3_.2, r3_.1))))]) (.deep true .no))]) rfl rfl ⟨⟨⟨⟨rfl, rfl⟩, trivial⟩, rfl, ⟨⟨rfl, rfl⟩, trivial⟩, .inl rfl, trivial⟩, trivial, trivial, ⟨rfl, rfl⟩, ⟨rfl, rfl⟩, trivial⟩ trivial), he⟩
       ·skip
        refine And.intro ?_ trivial
        refine And.intro ?_ trivial
        refine And.intro hq2 ?_
        refine And.intro ?_ trivial
        refine And.intro ?_ trivial
        have he := ok_some he
        exact ⟨rfl, _, _, (leads_ren [(900, 10002001), (901, 45)] (l := []) (st' := [(0, .rc [.own 900 false, .int .i64 s_1, .own 901 false, .bool s_3]), (1, .dead), (2, .dead), (900, .sl 56 y3_ (o1 ++ [(r1_.2.2, r1_.2.1)]) .shallow), (901, .sl 70 y6_ (o2 ++ [((7:Int), ((0:Int), ((0:Int), (r3_.2, r3_.1))))]) (.deep true .no))]) rfl rfl ⟨⟨⟨⟨rfl, rfl⟩, trivial⟩, rfl, ⟨⟨rfl, rfl⟩, trivial⟩, .inl rfl, trivial⟩, trivial, trivial, ⟨rfl, rfl⟩, ⟨rfl, rfl⟩, trivial⟩ trivial), he⟩
   ·skip
    refine And.intro ?_ (And.intro ?_ (trivial))
    ·skip
     refine And.intro ?_ (And.intro ?_ (trivial))
     ·skip
      refine And.intro ?_ trivial
      refine ⟨r3_, hq1, ?_⟩
      refine And.intro ?_ trivial
      refine And.intro ?_ trivial
      refine And.intro ?_ trivial
      refine And.intro hq2 ?_
      refine And.intro ?_ trivial
      refine And.intro ?_ trivial
      have he := ok_some he
      exact ⟨rfl, _, _, (leads_ren [(900, 10002001), (901, 45)] (l := []) (st' := [(0, .rc [.own 900 false, .int .i64 s_1, .own 901 false, .bool s_3]), (1, .dead), (2, .dead), (900, .sl 56 y3_ (o1 ++ [(r1_.2.2, r1_.2.1)]) .shallow), (901, .sl 70 y6_ (o2 ++ [((7:Int), ((0:Int), ((0:Int), (r3_.2, r3_.1))))]) (.deep true .no))]) rfl rfl ⟨⟨⟨⟨rfl, rfl⟩, trivial⟩, rfl, ⟨⟨rfl, rfl⟩, trivial⟩, .inl rfl, trivial⟩, trivial, trivial, ⟨rfl, rfl⟩, ⟨rfl, rfl⟩, trivial⟩ trivial), he⟩
     ·skip
      refine ⟨r3_, hq1, ?_⟩
      refine And.intro ?_ (And.intro ?_ (trivial))
      ·skip
       refine And.intro ?_ trivial
       refine And.intro ?_ trivial
       refine And.intro ?_ trivial
       refine And.intro hq2 ?_
       refine And.intro ?_ trivial
       refine And.intro ?_ trivial
       have he := ok_some he
       exact ⟨rfl, _, _, (leads_ren [(900, 10002001), (901, 45)] (l := []) (st' := [(0, .rc [.own 900 false, .int .i64 s_1, .own 901 false, .bool s_3]), (1, .dead), (2, .dead), (900, .sl 56 y3_ (o1 ++ [(r1_.2.2, r1_.2.1)]) .shallow), (901, .sl 70 y6_ (o2 ++ [((7:Int), ((0:Int), ((0:Int), (r3_.2, r3_.1))))]) (.deep true .no))]) rfl rfl ⟨⟨⟨⟨rfl, rfl⟩, trivial⟩, rfl, ⟨⟨rfl, rfl⟩, trivial⟩, .inl rfl, trivial⟩, trivial, trivial, ⟨rfl, rfl⟩, ⟨rfl, rfl⟩, trivial⟩ trivial), he⟩
      ·skip
       refine And.intro ?_ (And.intro ?_ (trivial))
       ·skip
        refine And.intro ?_ trivial
        refine And.intro ?_ trivial
        refine And.intro hq2 ?_
        refine And.intro ?_ trivial
        refine And.intro ?_ trivial
        have he := ok_some he
        exact ⟨rfl, _, _, (leads_ren [(900, 10002001), (901, 45)] (l := []) (st' := [(0, .rc [.own 900 false, .int .i64 s_1, .own 901 false, .bool s_3]), (1, .dead), (2, .dead), (900, .sl 56 y3_ (o1 ++ [(r1_.2.2, r1_.2.1)]) .shallow), (901, .sl 70 y6_ (o2 ++ [((7:Int), ((0:Int), ((0:Int), (r3_.2, r3_.1))))]) (.deep true .no))]) rfl rfl ⟨⟨⟨⟨rfl, rfl⟩, trivial⟩, rfl, ⟨⟨rfl, rfl⟩, trivial⟩, .inl rfl, trivial⟩, trivial, trivial, ⟨rfl, rfl⟩, ⟨rfl, rfl⟩, trivial⟩ trivial), he⟩
       ·skip
        refine And.intro ?_ trivial
        refine And.intro ?_ trivial
        refine And.intro hq2 ?_
        refine And.intro ?_ trivial
        refine And.intro ?_ trivial
        have he := ok_some he
        exact ⟨rfl, _, _, (leads_ren [(900, 10002001), (901, 45)] (l := []) (st' := [(0, .rc [.own 900 false, .int .i64 s_1, .own 901 false, .bool s_3]), (1, .dead), (2, .dead), (900, .sl 56 y3_ (o1 ++ [(r1_.2.2, r1_.2.1)]) .shallow), (901, .sl 70 y6_ (o2 ++ [((7:Int), ((0:Int), ((0:Int), (r3_.2, r3_.1))))]) (.deep true .no))]) rfl rfl ⟨⟨⟨⟨rfl, rfl⟩, trivial⟩, rfl, ⟨⟨rfl, rfl⟩, trivial⟩, .inl rfl, trivial⟩, trivial, trivial, ⟨rfl, rfl⟩, ⟨rfl, rfl⟩, trivial⟩ trivial), he⟩
    ·skip
     refine ⟨r3_, hq1, ?_⟩
     refine And.intro ?_ (And.intro ?_ (trivial))
     ·skip
      refine And.intro ?_ (And.intro ?_ (trivial))
      ·skip
       refine And.intro ?_ trivial
       refine And.intro ?_ trivial
       refine And.intro ?_ trivial
       refine And.intro hq2 ?_
       refine And.intro ?_ trivial
       refine And.intro ?_ trivial
       have he := ok_some he
       exact ⟨rfl, _, _, (leads_ren [(900, 10002001), (901, 45)] (l := []) (st' := [(0, .rc [.own 900 false, .int .i64 s_1, .own 901 false, .bool s_3]), (1, .dead), (2, .dead), (900, .sl 56 y3_ (o1 ++ [(r1_.2.2, r1_.2.1)]) .shallow), (901, .sl 70 y6_ (o2 ++ [((7:Int), ((0:Int), ((0:Int), (r3_.2, r3_.1))))]) (.deep true .no))]) rfl rfl ⟨⟨⟨⟨rfl, rfl⟩, trivial⟩, rfl, ⟨⟨rfl, rfl⟩, trivial⟩, .inl rfl, trivial⟩, trivial, trivial, ⟨rfl, rfl⟩, ⟨rfl, rfl⟩, trivial⟩ trivial), he⟩
      ·skip
       refine And.intro ?_ (And.intro ?_ (trivial))
       ·skip
        refine And.intro ?_ trivial
        refine And.intro ?_ trivial
        refine And.intro hq2 ?_
        refine And.intro ?_ trivial
        refine And.intro ?_ trivial
        have he := ok_some he
        exact ⟨rfl, _, _, (leads_ren [(900, 10002001), (901, 45)] (l := []) (st' := [(0, .rc [.own 900 false, .int .i64 s_1, .own 901 false, .bool s_3]), (1, .dead), (2, .dead), (900, .sl 56 y3_ (o1 ++ [(r1_.2.2, r1_.2.1)]) .shallow), (901, .sl 70 y6_ (o2 ++ [((7:Int), ((0:Int), ((0:Int), (r3_.2, r3_.1))))]) (.deep true .no))]) rfl rfl ⟨⟨⟨⟨rfl, rfl⟩, trivial⟩, rfl, ⟨⟨rfl, rfl⟩, trivial⟩, .inl rfl, trivial⟩, trivial, trivial, ⟨rfl, rfl⟩, ⟨rfl, rfl⟩, trivial⟩ trivial), he⟩
       ·skip
        refine And.intro ?_ trivial
        refine And.intro ?_ trivial
        refine And.intro hq2 ?_
        refine And.intro ?_ trivial
        refine And.intro ?_ trivial
        have he := ok_some he
        exact ⟨rfl, _, _, (leads_ren [(900, 10002001), (901, 45)] (l := []) (st' := [(0, .rc [.own 900 false, .int .i64 s_1, .own 901 false, .bool s_3]), (1, .dead), (2, .dead), (900, .sl 56 y3_ (o1 ++ [(r1_.2.2, r1_.2.1)]) .shallow), (901, .sl 70 y6_ (o2 ++ [((7:Int), ((0:Int), ((0:Int), (r3_.2, r3_.1))))]) (.deep true .no))]) rfl rfl ⟨⟨⟨⟨rfl, rfl⟩, trivial⟩, rfl, ⟨⟨rfl, rfl⟩, trivial⟩, .inl rfl, trivial⟩, trivial, trivial, ⟨rfl, rfl⟩, ⟨rfl, rfl⟩, trivial⟩ trivial), he⟩
     ·skip
      refine And.intro ?_ (And.intro ?_ (trivial))
      ·skip
       refine And.intro ?_ (And.intro ?_ (trivial))
       ·skip
        refine And.intro ?_ trivial
        refine And.intro ?_ trivial
        refine And.intro hq2 ?_
        refine And.intro ?_ trivial
        refine And.intro ?_ trivial
        have he := ok_some he
        exact ⟨rfl, _, _, (leads_ren [(900, 10002001), (901, 45)] (l := []) (st' := [(0, .rc [.own 900 false, .int .i64 s_1, .own 901 false, .bool s_3]), (1, .dead), (2, .dead), (900, .sl 56 y3_ (o1 ++ [(r1_.2.2, r1_.2.1)]) .shallow), (901, .sl 70 y6_ (o2 ++ [((7:Int), ((0:Int), ((0:Int), (r3_.2, r3_.1))))]) (.deep true .no))]) rfl rfl ⟨⟨⟨⟨rfl, rfl⟩, trivial⟩, rfl, ⟨⟨rfl, rfl⟩, trivial⟩, .inl rfl, trivial⟩, trivial, trivial, ⟨rfl, rfl⟩, ⟨rfl, rfl⟩, trivial⟩ trivial), he⟩
       ·skip
        refine And.intro ?_ trivial
        refine And.intro ?_ trivial
        refine And.intro hq2 ?_
        refine And.intro ?_ trivial
        refine And.intro ?_ trivial
        have he := ok_some he
        exact ⟨rfl, _, _, (leads_ren [(900, 10002001), (901, 45)] (l := []) (st' := [(0, .rc [.own 900 false, .int .i64 s_1, .own 901 false, .bool s_3]), (1, .dead), (2, .dead), (900, .sl 56 y3_ (o1 ++ [(r1_.2.2, r1_.2.1)]) .shallow), (901, .sl 70 y6_ (o2 ++ [((7:Int), ((0:Int), ((0:Int), (r3_.2, r3_.1))))]) (.deep true .no))]) rfl rfl ⟨⟨⟨⟨rfl, rfl⟩, trivial⟩, rfl, ⟨⟨rfl, rfl⟩, trivial⟩, .inl rfl, trivial⟩, trivial, trivial, ⟨rfl, rfl⟩, ⟨rfl, rfl⟩, trivial⟩ trivial), he⟩
      ·skip
       refine And.intro ?_ trivial
       refine And.intro ?_ trivial
       refine And.intro ?_ trivial
       refine And.intro hq2 ?_
       refine And.intro ?_ trivial
       refine And.intro ?_ trivial
       have he := ok_some he
       exact ⟨rfl, _, _, (leads_ren [(900, 10002001), (901, 45)] (l := []) (st' := [(0, .rc [.own 900 false, .int .i64 s_1, .own 901 false, .bool s_3]), (1, .dead), (2, .dead), (900, .sl 56 y3_ (o1 ++ [(r1_.2.2, r1_.2.1)]) .shallow), (901, .sl 70 y6_ (o2 ++ [((7:Int), ((0:Int), ((0:Int), (r3_.2, r3_.1))))]) (.deep true .no))]) rfl rfl ⟨⟨⟨⟨rfl, rfl⟩, trivial⟩, rfl, ⟨⟨rfl, rfl⟩, trivial⟩, .inl rfl, trivial⟩, trivial, trivial, ⟨rfl, rfl⟩, ⟨rfl, rfl⟩, trivial⟩ trivial), he⟩
  ·skip
   refine And.intro (by kernel_rfl) ?_
   have he := ok_rq he
   have hq1 := he.1
   have he := he.2
   refine And.intro ?_ (And.intro ?_ (trivial))
   ·skip
    refine And.intro ?_ (And.intro ?_ (trivial))
    ·skip
     refine And.intro ?_ trivial
     refine And.intro ?_ trivial
     refine And.intro ?_ trivial
     refine And.intro hq1 ?_
     refine And.intro ?_ trivial
     refine And.intro ?_ trivial
     exact ⟨(), he, (leads_ren [(10002000, 7), (10002001, 33)] rfl rfl ⟨⟨⟨⟨rfl, rfl⟩, trivial⟩, rfl, ⟨⟨rfl, rfl⟩, trivial⟩, .inl rfl, trivial⟩, trivial, ⟨rfl, rfl⟩, ⟨.inr (.inr ⟨_, _, _, rfl, rfl⟩), rfl, trivial⟩, ⟨rfl, rfl⟩, trivial⟩ ⟨⟨⟨rfl, rfl⟩, rfl⟩, ⟨⟨rfl, rfl⟩, rfl⟩, trivial⟩)⟩
    ·skip
     refine And.intro ?_ (And.intro ?_ (trivial))
     ·skip
      refine And.intro ?_ trivial
      refine And.intro ?_ trivial
      refine And.intro hq1 ?_
      refine And.intro ?_ trivial
      refine And.intro ?_ trivial
      exact ⟨(), he, (leads_ren [(10002000, 7), (10002001, 33)] rfl rfl ⟨⟨⟨⟨rfl, rfl⟩, trivial⟩, rfl, ⟨⟨rfl, rfl⟩, trivial⟩, .inl rfl, trivial⟩, trivial, ⟨rfl, rfl⟩, ⟨.inr (.inr ⟨_, _, _, rfl, rfl⟩), rfl, trivial⟩, ⟨rfl, rfl⟩, trivial⟩ ⟨⟨⟨rfl, rfl⟩, rfl⟩, ⟨⟨rfl, rfl⟩, rfl⟩, trivial⟩)⟩
     ·skip
      refine And.intro ?_ trivial
      refine And.intro ?_ trivial
      refine And.intro hq1 ?_
      refine And.intro ?_ trivial
      refine And.intro ?_ trivial
      exact ⟨(), he, (leads_ren [(10002000, 7), (10002001, 33)] rfl rfl ⟨⟨⟨⟨rfl, rfl⟩, trivial⟩, rfl, ⟨⟨rfl, rfl⟩, trivial⟩, .inl rfl, trivial⟩, trivial, ⟨rfl, rfl⟩, ⟨.inr (.inr ⟨_, _, _, rfl, rfl⟩), rfl, trivial⟩, ⟨rfl, rfl⟩, trivial⟩ ⟨⟨⟨rfl, rfl⟩, rfl⟩, ⟨⟨rfl, rfl⟩, rfl⟩, trivial⟩)⟩
   ·skip
    refine And.intro ?_ (And.intro ?_ (trivial))
    ·skip
     refine And.intro ?_ (And.intro ?_ (trivial))
     ·skip
      refine And.intro ?_ trivial
      refine And.intro ?_ trivial
      refine And.intro hq1 ?_
      refine And.intro ?_ trivial
      refine And.intro ?_ trivial
      exact ⟨(), he, (leads_ren [(10002000, 7), (10002001, 33)] rfl rfl ⟨⟨⟨⟨rfl, rfl⟩, trivial⟩, rfl, ⟨⟨rfl, rfl⟩, trivial⟩, .inl rfl, trivial⟩, trivial, ⟨rfl, rfl⟩, ⟨.inr (.inr ⟨_, _, _, rfl, rfl⟩), rfl, trivial⟩, ⟨rfl, rfl⟩, trivial⟩ ⟨⟨⟨rfl, rfl⟩, rfl⟩, ⟨⟨rfl, rfl⟩, rfl⟩, trivial⟩)⟩
     ·skip
      refine And.intro ?_ trivial
      refine And.intro ?_ trivial
      refine And.intro hq1 ?_
      refine And.intro ?_ trivial
      refine And.intro ?_ trivial
      exact ⟨(), he, (leads_ren [(10002000, 7), (10002001, 33)] rfl rfl ⟨⟨⟨⟨rfl, rfl⟩, trivial⟩, rfl, ⟨⟨rfl, rfl⟩, trivial⟩, .inl rfl, trivial⟩, trivial, ⟨rfl, rfl⟩, ⟨.inr (.inr ⟨_, _, _, rfl, rfl⟩), rfl, trivial⟩, ⟨rfl, rfl⟩, trivial⟩ ⟨⟨⟨rfl, rfl⟩, rfl⟩, ⟨⟨rfl, rfl⟩, rfl⟩, trivial⟩)⟩
    ·skip
     refine And.intro ?_ trivial
     refine And.intro ?_ trivial
     refine And.intro ?_ trivial
     refine And.intro hq1 ?_
     refine And.intro ?_ trivial
     refine And.intro ?_ trivial
     exact ⟨(), he, (leads_ren [(10002000, 7), (10002001, 33)] rfl rfl ⟨⟨⟨⟨rfl, rfl⟩, trivial⟩, rfl, ⟨⟨rfl, rfl⟩, trivial⟩, .inl rfl, trivial⟩, trivial, ⟨rfl, rfl⟩, ⟨.inr (.inr ⟨_, _, _, rfl, rfl⟩), rfl, trivial⟩, ⟨rfl, rfl⟩, trivial⟩ ⟨⟨⟨rfl, rfl⟩, rfl⟩, ⟨⟨rfl, rfl⟩, rfl⟩, trivial⟩)⟩
 ·skip
  refine loop_model mixed tys_ok t_impl_searching_fail__Rsd (S := Int × (List Int)) (I := (fun (i, lits) => (envOf [(0, .c (.ptr 0 0)), (4, .c (.own 10000000 false)), (9, .c (.imm y0_ decisions)), (10, .c (.int .i64 (decisions.length:Int))), (11, .c (.int .i64 i))], [(0, .rc [.own 1 false, .int .i64 s_1, .own 2 false, .bool s_3]), (1, .sl 56 y3_ o1 .shallow), (2, .sl 70 y6_ o2 (.deep true .no)), (10000000, .sl 3 y0_ lits .shallow)]))) (f := impl_searching_fail__Rsd_l1 decisions o1 o2) (K := (fun r => k (.tup []) [(0, .rc [.own 900 false, .int .i64 s_1, .own 901 false, .bool s_3]), (1, .dead), (2, .dead), (900, .sl 56 y3_ r.1 .shallow), (901, .sl 70 y6_ r.2 (.deep true .no))])) he (leads_ren [] rfl rfl ⟨⟨⟨⟨rfl, rfl⟩, trivial⟩, rfl, ⟨⟨rfl, rfl⟩, trivial⟩, .inl rfl, trivial⟩, ⟨rfl, rfl⟩, ⟨rfl, rfl⟩, trivial, trivial⟩ ⟨⟨⟨rfl, rfl⟩, rfl⟩, ⟨rfl, trivial⟩, .inl rfl, rfl, rfl, trivial⟩) ?_
  rintro ⟨i, lits⟩ J1 he
  refine go_if he (fun he => ?_) fun he => ?_
  ·refine go_rq he fun he => ?_
   refine go_rq he fun he => ?_
   refine go_rq he fun he => ?_
   refine go_rq he fun he => ?_
   have he := ok_some he
   exact ⟨((i + (1:Int)), (lits ++ [(0 - (decisions.getD i.toNat 0))])), he, (leads_ren [(10000000, 19)] rfl rfl ⟨⟨⟨⟨rfl, rfl⟩, trivial⟩, rfl, ⟨⟨rfl, rfl⟩, trivial⟩, .inl rfl, trivial⟩, ⟨rfl, rfl⟩, ⟨rfl, rfl⟩, ⟨rfl, rfl⟩, trivial⟩ ⟨⟨⟨rfl, rfl⟩, rfl⟩, ⟨⟨rfl, rfl⟩, trivial⟩, .inl rfl, rfl, rfl, trivial⟩)⟩
  ·exact ⟨lits, ok_up he, (leads_ren [(10001000, 10000000)] rfl rfl ⟨⟨⟨⟨rfl, rfl⟩, trivial⟩, rfl, ⟨⟨rfl, rfl⟩, trivial⟩, .inl rfl, trivial⟩, ⟨rfl, rfl⟩, ⟨rfl, rfl⟩, ⟨rfl, rfl⟩, trivial⟩ ⟨⟨⟨rfl, rfl⟩, rfl⟩, ⟨⟨rfl, rfl⟩, trivial⟩, trivial⟩)⟩

noncomputable def c_impl_searching_visit__Rsd (n_ : Nat) : Con := fun args st => match args, st with
  | [.c (.ptr 0 0), .c (.imm (.int .i64) a1)], [(0, .rc [.own 1 false, .int .i64 o0_1, .own 2 false, .bool o0_3]), (1, .sl 56 (.pair (.sl (.pair (.int .i64) (.int .i64))) (.int .i64)) o1 .shallow), (2, .sl 70 (.pair (.int .i64) (.pair (.int .i64) (.pair (.int .i64) (.pair (.sl (.pair (.int .i64) (.int .i64))) (.int .i64))))) o2 (.deep true .no))] => .opt (Bool × Int × Bool × (List Bool) × (List D3_) × (List D6_)) (impl_searching_visit__Rsd n_ a1 o0_1 o0_3 o1 o2) (fun r => .ret (.tup [.c (.own 900 false), .c (.bool r.1)]) [(0, .rc [.own 901 false, .int .i64 r.2.1, .own 902 false, .bool r.2.2.1]), (1, .dead), (2, .dead), (900, .sl 4 .bool r.2.2.2.1 .shallow), (901, .sl 56 y3_ r.2.2.2.2.1 .shallow), (902, .sl 70 y6_ r.2.2.2.2.2 (.deep true .no))])
  | _, _ => .fail

noncomputable def C_impl_searching_visit__Rsd (n_ : Nat) : Cfg := { y := tys, n := 120, h := 3, tab := [(25, c_impl_searching_visit__Rsd n_), (44, c_impl_variableOf), (45, c_impl_propagate), (46, c_impl_valuesOf), (47, c_slices_Clone_int), (48, c_impl_searching_fail__Rsd)], cut := [13, 25, 28], hand := [], good := [], deep := [], sched := [] }

theorem t_impl_searching_visit__Rsd (n_ : Nat) (ih : Entry Try.prog 25 (c_impl_searching_visit__Rsd n_)) : TabOk Try.prog (C_impl_searching_visit__Rsd n_) := by
  refine tabOk_of ?_
  simp only [C_impl_searching_visit__Rsd, List.forall_mem_cons]
  exact ⟨ih, k_impl_variableOf, k_impl_propagate, k_impl_valuesOf, k_slices_Clone_int, k_impl_searching_fail__Rsd, fun p h => by cases h⟩

theorem k_impl_searching_visit__Rsd_step (n_ : Nat) (ih : Entry Try.prog 25 (c_impl_searching_visit__Rsd n_)) : Entry Try.prog 25 (c_impl_searching_visit__Rsd (n_ + 1)) := by
 refine entry_by (C := (C_impl_searching_visit__Rsd n_)) mixed tys_ok (t_impl_searching_visit__Rsd n_ ih) (fn := Try.f25) (c := bd Try.f25) (by kernel_rfl) (by kernel_rfl) (by kernel_rfl) (by kernel_rfl) ?_
 intro args st k he
 unfold c_impl_searching_visit__Rsd at he
 split at he
 rotate_left
 ·exact he.elim
 rename_i a1 o0_1 o0_3 o1 o2
 have he : Ok (impl_searching_visit__Rsd_rec (impl_searching_visit__Rsd n_) a1 o0_1 o0_3 o1 o2) (fun r => k (.tup [.c (.own 900 false), .c (.bool r.1)]) [(0, .rc [.own 901 false, .int .i64 r.2.1, .own 902 false, .bool r.2.2.1]), (1, .dead), (2, .dead), (900, .sl 4 .bool r.2.2.2.1 .shallow), (901, .sl 56 y3_ r.2.2.2.2.1 .shallow), (902, .sl 70 y6_ r.2.2.2.2.2 (.deep true .no))]) := he
 refine ⟨rfl, rfl, ?_⟩
 refine go_if2 he (fun he => ?_) fun he => ?_
 ·refine go_if he (fun he => ?_) fun he => ?_
  ·have he := ok_some he
   exact ⟨rfl, _, _, (leads_ren [(901, 1), (902, 2)] (l := [(4, .c (.own 900 false)), (5, .c (.bool false))]) (st' := [(0, .rc [.own 901 false, .int .i64 o0_1, .own 902 false, .bool true]), (1, .dead), (2, .dead), (900, .sl 4 .bool ([] : List Bool) .shallow), (901, .sl 56 y3_ o1 .shallow), (902, .sl 70 y6_ o2 (.deep true .no))]) rfl rfl ⟨⟨⟨⟨rfl, rfl⟩, trivial⟩, rfl, ⟨⟨rfl, rfl⟩, trivial⟩, .inr rfl, trivial⟩, trivial, trivial, trivial, ⟨rfl, rfl⟩, ⟨rfl, rfl⟩, trivial⟩ ⟨⟨rfl, trivial⟩, .inr rfl, trivial⟩), he⟩
  ·refine go_rq he fun he => ?_
   refine go_rq he fun he => ?_
   refine seq_model mixed tys_ok (t_impl_searching_visit__Rsd n_ ih) (S := (List Int)) (I := (fun i2 => (envOf [(0, .c (.ptr 0 0)), (1, .c (.imm y0_ a1)), (6, .c (.own 10001000 false))], [(0, .rc [.own 1 false, .int .i64 (o0_1 - (1:Int)), .own 2 false, .bool o0_3]), (1, .sl 56 y3_ o1 .shallow), (2, .sl 70 y6_ o2 (.deep true .no)), (10001000, .sl 3 y0_ i2 .shallow)]))) (B := fun s => Ok (impl_searching_visit__Rsd_j1 a1 o0_1 o0_3 o1 o2 (impl_searching_visit__Rsd n_) s) (fun r => k (.tup [.c (.own 900 false), .c (.bool r.1)]) [(0, .rc [.own 901 false, .int .i64 r.2.1, .own 902 false, .bool r.2.2.1]), (1, .dead), (2, .dead), (900, .sl 4 .bool r.2.2.2.1 .shallow), (901, .sl 56 y3_ r.2.2.2.2.1 .shallow), (902, .sl 70 y6_ r.2.2.2.2.2 (.deep true .no))])) ?_ ?_
   ·rintro i2 he
    refine go_bind he fun r3_ he => ?_
    refine seq_model mixed tys_ok (t_impl_searching_visit__Rsd n_ ih) (S := Int × Bool × (List D3_) × (List D6_)) (I := (fun (i_12, i_32, i_02, i_22) => (envOf [(0, .c (.ptr 0 0)), (1, .c (.imm y0_ a1))], [(0, .rc [.own 10004000 false, .int .i64 i_12, .own 10004001 false, .bool i_32]), (1, .dead), (2, .dead), (10004000, .sl 56 y3_ i_02 .shallow), (10004001, .sl 70 y6_ i_22 (.deep true .no))]))) (B := fun s => Ok (impl_searching_visit__Rsd_j2 a1 s) (fun r => k (.tup [.c (.own 900 false), .c (.bool r.1)]) [(0, .rc [.own 901 false, .int .i64 r.2.1, .own 902 false, .bool r.2.2.1]), (1, .dead), (2, .dead), (900, .sl 4 .bool r.2.2.2.1 .shallow), (901, .sl 56 y3_ r.2.2.2.2.1 .shallow), (902, .sl 70 y6_ r.2.2.2.2.2 (.deep true .no))])) ?_ ?_
    ·rintro ⟨i_12, i_32, i_02, i_22⟩ he
     refine go_bind he fun r9_ he => ?_
     have he := ok_some he
     exact ⟨rfl, _, _, (leads_ren [(901, 120900), (902, 120901)] (l := [(4, .c (.own 900 false)), (5, .c (.bool false))]) (st' := [(0, .rc [.own 901 false, .int .i64 i_12, .own 902 false, .bool i_32]), (1, .dead), (2, .dead), (900, .sl 4 .bool ([] : List Bool) .shallow), (901, .sl 56 y3_ r9_.1 .shallow), (902, .sl 70 y6_ r9_.2 (.deep true .no))]) rfl rfl ⟨⟨⟨⟨rfl, rfl⟩, trivial⟩, rfl, ⟨⟨rfl, rfl⟩, trivial⟩, .inl rfl, trivial⟩, trivial, trivial, trivial, ⟨rfl, rfl⟩, ⟨rfl, rfl⟩, trivial⟩ ⟨⟨rfl, trivial⟩, .inr rfl, trivial⟩), he⟩
    ·skip
     refine go_if he (fun he => ?_) fun he => ?_
     ·refine go_bind he fun r4_ he => ?_
      refine go_if he (fun he => ?_) fun he => ?_
      ·have he := ok_some he
       exact ⟨rfl, _, _, (leads_ren [(900, 74900), (901, 1), (902, 2)] (l := [(4, .c (.own 900 false)), (5, .c (.bool true))]) (st' := [(0, .rc [.own 901 false, .int .i64 (o0_1 - (1:Int)), .own 902 false, .bool o0_3]), (1, .dead), (2, .dead), (900, .sl 4 .bool r4_.2.2 .shallow), (901, .sl 56 y3_ o1 .shallow), (902, .sl 70 y6_ o2 (.deep true .no))]) rfl rfl ⟨⟨⟨⟨rfl, rfl⟩, trivial⟩, rfl, ⟨⟨rfl, rfl⟩, trivial⟩, .inl rfl, trivial⟩, trivial, trivial, ⟨rfl, rfl⟩, ⟨rfl, rfl⟩, ⟨rfl, rfl⟩, trivial⟩ ⟨⟨⟨rfl, rfl⟩, trivial⟩, .inr rfl, trivial⟩), he⟩
      ·refine seq_model mixed tys_ok (t_impl_searching_visit__Rsd n_ ih) (S := Int × Bool × (List D3_) × (List D6_)) (I := (fun (i_11, i_31, i_01, i_21) => (envOf [(0, .c (.ptr 0 0)), (1, .c (.imm y0_ a1))], [(0, .rc [.own 10003000 false, .int .i64 i_11, .own 10003001 false, .bool i_31]), (1, .dead), (2, .dead), (10003000, .sl 56 y3_ i_01 .shallow), (10003001, .sl 70 y6_ i_21 (.deep true .no))]))) (B := fun s => Ok (impl_searching_visit__Rsd_j3 a1 s) (fun r => k (.tup [.c (.own 900 false), .c (.bool r.1)]) [(0, .rc [.own 901 false, .int .i64 r.2.1, .own 902 false, .bool r.2.2.1]), (1, .dead), (2, .dead), (900, .sl 4 .bool r.2.2.2.1 .shallow), (901, .sl 56 y3_ r.2.2.2.2.1 .shallow), (902, .sl 70 y6_ r.2.2.2.2.2 (.deep true .no))])) ?_ ?_
       ·rintro ⟨i_11, i_31, i_01, i_21⟩ he
        refine go_if he (fun he => ?_) fun he => ?_
        ·have he := ok_some he
         exact ⟨rfl, _, _, (leads_ren [(901, 10003000), (902, 10003001)] (l := [(4, .c (.own 900 false)), (5, .c (.bool false))]) (st' := [(0, .rc [.own 901 false, .int .i64 i_11, .own 902 false, .bool true]), (1, .dead), (2, .dead), (900, .sl 4 .bool ([] : List Bool) .shallow), (901, .sl 56 y3_ i_01 .shallow), (902, .sl 70 y6_ i_21 (.deep true .no))]) rfl rfl ⟨⟨⟨⟨rfl, rfl⟩, trivial⟩, rfl, ⟨⟨rfl, rfl⟩, trivial⟩, .inr rfl, trivial⟩, trivial, trivial, trivial, ⟨rfl, rfl⟩, ⟨rfl, rfl⟩, trivial⟩ ⟨⟨rfl, trivial⟩, .inr rfl, trivial⟩), he⟩
        ·exact ⟨(i_11, i_31, i_01, i_21), he, (leads_ren [(10004000, 10003000), (10004001, 10003001)] rfl rfl ⟨⟨⟨⟨rfl, rfl⟩, trivial⟩, rfl, ⟨⟨rfl, rfl⟩, trivial⟩, .inl rfl, trivial⟩, trivial, trivial, ⟨rfl, rfl⟩, ⟨rfl, rfl⟩, trivial⟩ ⟨⟨⟨rfl, rfl⟩, rfl⟩, .inl rfl, trivial⟩)⟩
       ·skip
        refine go_rq he fun he => ?_
        refine loop_model mixed tys_ok (t_impl_searching_visit__Rsd n_ ih) (S := Int × Int × Bool × (List D3_) × (List D6_)) (I := (fun (i3, i_1, i_3, i_0, i_2) => (envOf [(0, .c (.ptr 0 0)), (1, .c (.imm y0_ a1)), (82, .c (.own 10002000 false)), (83, .c (.int .i64 ([r4_.1, (0 - r4_.1)].length:Int))), (84, .c (.int .i64 i3))], [(0, .rc [.own 10002001 false, .int .i64 i_1, .own 10002002 false, .bool i_3]), (1, .dead), (2, .dead), (10002000, .sl 3 y0_ [r4_.1, (0 - r4_.1)] .shallow), (10002001, .sl 56 y3_ i_0 .shallow), (10002002, .sl 70 y6_ i_2 (.deep true .no))]))) (f := impl_searching_visit__Rsd_l1 a1 r4_ (impl_searching_visit__Rsd n_)) (K := (fun r => k (.tup [.c (.own 900 false), .c (.bool r.1)]) [(0, .rc [.own 901 false, .int .i64 r.2.1, .own 902 false, .bool r.2.2.1]), (1, .dead), (2, .dead), (900, .sl 4 .bool r.2.2.2.1 .shallow), (901, .sl 56 y3_ r.2.2.2.2.1 .shallow), (902, .sl 70 y6_ r.2.2.2.2.2 (.deep true .no))])) he (leads_ren [(10002000, 82), (10002001, 1), (10002002, 2)] rfl rfl ⟨⟨⟨⟨rfl, rfl⟩, trivial⟩, rfl, ⟨⟨rfl, rfl⟩, trivial⟩, .inl rfl, trivial⟩, trivial, trivial, ⟨rfl, rfl⟩, ⟨rfl, rfl⟩, ⟨rfl, rfl⟩, trivial⟩ ⟨⟨⟨rfl, rfl⟩, rfl⟩, .inl rfl, ⟨⟨rfl, rfl⟩, trivial⟩, rfl, rfl, trivial⟩) ?_
        rintro ⟨i3, i_1, i_3, i_0, i_2⟩ J1 he
        refine go_if he (fun he => ?_) fun he => ?_
        ·refine go_rq he fun he => ?_
         refine go_bind he fun r7_ he => ?_
         refine go_rq he fun he => ?_
         refine go_bind he fun r8_ he => ?_
         refine go_if2 he (fun he => ?_) fun he => ?_
         ·refine go_if he (fun he => ?_) fun he => ?_
          ·have he := ok_some he
           exact ⟨rfl, _, _, (leads_ren [(900, 96900), (901, 96901), (902, 96902)] (l := [(4, .c (.own 900 false)), (5, .c (.bool r8_.1))]) (st' := [(0, .rc [.own 901 false, .int .i64 r8_.2.1, .own 902 false, .bool r8_.2.2.1]), (1, .dead), (2, .dead), (900, .sl 4 .bool r8_.2.2.2.1 .shallow), (901, .sl 56 y3_ r8_.2.2.2.2.1 .shallow), (902, .sl 70 y6_ r8_.2.2.2.2.2 (.deep true .no))]) rfl rfl ⟨⟨⟨⟨rfl, rfl⟩, trivial⟩, rfl, ⟨⟨rfl, rfl⟩, trivial⟩, .inl rfl, trivial⟩, trivial, trivial, ⟨rfl, rfl⟩, ⟨rfl, rfl⟩, ⟨rfl, rfl⟩, trivial⟩ ⟨⟨⟨rfl, rfl⟩, trivial⟩, .inl rfl, trivial⟩), he⟩
          ·refine go_rq he fun he => ?_
           have he := ok_some he
           exact ⟨((i3 + (1:Int)), r8_.2.1, r8_.2.2.1, r8_.2.2.2.2.1, r8_.2.2.2.2.2), he, (leads_ren [(10002001, 96901), (10002002, 96902)] rfl rfl ⟨⟨⟨⟨rfl, rfl⟩, trivial⟩, rfl, ⟨⟨rfl, rfl⟩, trivial⟩, .inl rfl, trivial⟩, trivial, trivial, ⟨rfl, rfl⟩, ⟨rfl, rfl⟩, ⟨rfl, rfl⟩, trivial⟩ ⟨⟨⟨rfl, rfl⟩, rfl⟩, .inl rfl, ⟨⟨rfl, rfl⟩, trivial⟩, rfl, rfl, trivial⟩)⟩
         ·have he := ok_some he
          exact ⟨rfl, _, _, (leads_ren [(900, 96900), (901, 96901), (902, 96902)] (l := [(4, .c (.own 900 false)), (5, .c (.bool r8_.1))]) (st' := [(0, .rc [.own 901 false, .int .i64 r8_.2.1, .own 902 false, .bool r8_.2.2.1]), (1, .dead), (2, .dead), (900, .sl 4 .bool r8_.2.2.2.1 .shallow), (901, .sl 56 y3_ r8_.2.2.2.2.1 .shallow), (902, .sl 70 y6_ r8_.2.2.2.2.2 (.deep true .no))]) rfl rfl ⟨⟨⟨⟨rfl, rfl⟩, trivial⟩, rfl, ⟨⟨rfl, rfl⟩, trivial⟩, .inl rfl, trivial⟩, trivial, trivial, ⟨rfl, rfl⟩, ⟨rfl, rfl⟩, ⟨rfl, rfl⟩, trivial⟩ ⟨⟨⟨rfl, rfl⟩, trivial⟩, .inl rfl, trivial⟩), he⟩
        ·exact ⟨(i_1, i_3, i_0, i_2), ok_up he, (leads_ren [(10003000, 10002001), (10003001, 10002002)] rfl rfl ⟨⟨⟨⟨rfl, rfl⟩, trivial⟩, rfl, ⟨⟨rfl, rfl⟩, trivial⟩, .inl rfl, trivial⟩, trivial, trivial, ⟨rfl, rfl⟩, ⟨rfl, rfl⟩, trivial⟩ ⟨⟨⟨rfl, rfl⟩, rfl⟩, .inl rfl, trivial⟩)⟩
     ·exact ⟨((o0_1 - (1:Int)), o0_3, o1, o2), he, (leads_ren [(10004000, 1), (10004001, 2)] rfl rfl ⟨⟨⟨⟨rfl, rfl⟩, trivial⟩, rfl, ⟨⟨rfl, rfl⟩, trivial⟩, .inl rfl, trivial⟩, trivial, trivial, ⟨rfl, rfl⟩, ⟨rfl, rfl⟩, trivial⟩ ⟨⟨⟨rfl, rfl⟩, rfl⟩, .inl rfl, trivial⟩)⟩
   ·skip
    refine loop_model mixed tys_ok (t_impl_searching_visit__Rsd n_ ih) (S := Int × (List Int)) (I := (fun (i, i1) => (envOf [(0, .c (.ptr 0 0)), (1, .c (.imm y0_ a1)), (6, .c (.own 10000000 false)), (41, .c (.imm y0_ a1)), (42, .c (.int .i64 (a1.length:Int))), (43, .c (.int .i64 i))], [(0, .rc [.own 1 false, .int .i64 (o0_1 - (1:Int)), .own 2 false, .bool o0_3]), (1, .sl 56 y3_ o1 .shallow), (2, .sl 70 y6_ o2 (.deep true .no)), (10000000, .sl 3 y0_ i1 .shallow)]))) (f := impl_searching_visit__Rsd_l2 a1 o0_1 o0_3 o1 o2 (impl_searching_visit__Rsd n_)) (K := (fun r => k (.tup [.c (.own 900 false), .c (.bool r.1)]) [(0, .rc [.own 901 false, .int .i64 r.2.1, .own 902 false, .bool r.2.2.1]), (1, .dead), (2, .dead), (900, .sl 4 .bool r.2.2.2.1 .shallow), (901, .sl 56 y3_ r.2.2.2.2.1 .shallow), (902, .sl 70 y6_ r.2.2.2.2.2 (.deep true .no))])) he (leads_ren [(10000000, 40)] rfl rfl ⟨⟨⟨⟨rfl, rfl⟩, trivial⟩, rfl, ⟨⟨rfl, rfl⟩, trivial⟩, .inl rfl, trivial⟩, ⟨rfl, rfl⟩, ⟨rfl, rfl⟩, ⟨rfl, rfl⟩, trivial⟩ ⟨⟨⟨rfl, rfl⟩, rfl⟩, .inl rfl, ⟨⟨rfl, rfl⟩, trivial⟩, .inl rfl, rfl, rfl, trivial⟩) ?_
    rintro ⟨i, i1⟩ J1 he
    refine go_if he (fun he => ?_) fun he => ?_
    ·refine go_rq he fun he => ?_
     refine go_bind he fun r2_ he => ?_
     refine go_rq he fun he => ?_
     refine go_rq he fun he => ?_
     refine go_if he (fun he => ?_) fun he => ?_
     ·refine go_rq he fun he => ?_
      refine go_rq he fun he => ?_
      refine go_rq he fun he => ?_
      refine go_rq he fun he => ?_
      have he := ok_some he
      exact ⟨((i + (1:Int)), ((i1.set (r2_ - (1:Int)).toNat (1:Int)).set ((0 - (a1.getD i.toNat 0)) - (1:Int)).toNat (-1:Int))), he, (leads_ren [] rfl rfl ⟨⟨⟨⟨rfl, rfl⟩, trivial⟩, rfl, ⟨⟨rfl, rfl⟩, trivial⟩, .inl rfl, trivial⟩, ⟨rfl, rfl⟩, ⟨rfl, rfl⟩, ⟨rfl, rfl⟩, trivial⟩ ⟨⟨⟨rfl, rfl⟩, rfl⟩, .inl rfl, ⟨⟨rfl, rfl⟩, trivial⟩, .inl rfl, rfl, rfl, trivial⟩)⟩
     ·refine go_rq he fun he => ?_
      have he := ok_some he
      exact ⟨((i + (1:Int)), (i1.set (r2_ - (1:Int)).toNat (1:Int))), he, (leads_ren [] rfl rfl ⟨⟨⟨⟨rfl, rfl⟩, trivial⟩, rfl, ⟨⟨rfl, rfl⟩, trivial⟩, .inl rfl, trivial⟩, ⟨rfl, rfl⟩, ⟨rfl, rfl⟩, ⟨rfl, rfl⟩, trivial⟩ ⟨⟨⟨rfl, rfl⟩, rfl⟩, .inl rfl, ⟨⟨rfl, rfl⟩, trivial⟩, .inl rfl, rfl, rfl, trivial⟩)⟩
    ·exact ⟨i1, ok_up he, (leads_ren [(10001000, 10000000)] rfl rfl ⟨⟨⟨⟨rfl, rfl⟩, trivial⟩, rfl, ⟨⟨rfl, rfl⟩, trivial⟩, .inl rfl, trivial⟩, ⟨rfl, rfl⟩, ⟨rfl, rfl⟩, ⟨rfl, rfl⟩, trivial⟩ ⟨⟨⟨rfl, rfl⟩, rfl⟩, .inl rfl, ⟨⟨rfl, rfl⟩, trivial⟩, trivial⟩)⟩
 ·have he := ok_some he
  exact ⟨rfl, _, _, (leads_ren [(901, 1), (902, 2)] (l := [(4, .c (.own 900 false)), (5, .c (.bool false))]) (st' := [(0, .rc [.own 901 false, .int .i64 o0_1, .own 902 false, .bool true]), (1, .dead), (2, .dead), (900, .sl 4 .bool ([] : List Bool) .shallow), (901, .sl 56 y3_ o1 .shallow), (902, .sl 70 y6_ o2 (.deep true .no))]) rfl rfl ⟨⟨⟨⟨rfl, rfl⟩, trivial⟩, rfl, ⟨⟨rfl, rfl⟩, trivial⟩, .inr rfl, trivial⟩, trivial, trivial, trivial, ⟨rfl, rfl⟩, ⟨rfl, rfl⟩, trivial⟩ ⟨⟨rfl, trivial⟩, .inr rfl, trivial⟩), he⟩

theorem k_impl_searching_visit__Rsd : ∀ n_, Entry Try.prog 25 (c_impl_searching_visit__Rsd n_)
  | 0 => by
    refine entry_by (C := { y := tys, n := 120, h := 3, tab := [], cut := [], hand := [], good := [], deep := [], sched := [] }) mixed tys_ok (tabOk_of (fun p h => by cases h)) (fn := Try.f25) (c := bd Try.f25) (by kernel_rfl) (by kernel_rfl) (by kernel_rfl) (by kernel_rfl) ?_
    intro args st k he
    unfold c_impl_searching_visit__Rsd at he
    split at he
    · obtain ⟨x, hx, _⟩ := he
      cases hx
    · exact he.elim
  | n_ + 1 => k_impl_searching_visit__Rsd_step n_ (k_impl_searching_visit__Rsd n_)

noncomputable def c_impl_searching_visit__R0s (n_ : Nat) : Con := fun args st => match args, st with
  | [.c (.ptr 0 0), .c (.imm (.int .i64) a1)], [(0, .rc [.own 1 false, .int .i64 o0_1, .nil, .bool o0_3]), (1, .sl 56 (.pair (.sl (.pair (.int .i64) (.int .i64))) (.int .i64)) o1 .shallow)] => .opt (Bool × Int × Bool × (List Bool) × (List D3_) × (List D6_)) (impl_searching_visit__R0s n_ a1 o0_1 o0_3 o1) (fun r => .ret (.tup [.c (.own 900 false), .c (.bool r.1)]) [(0, .rc [.own 901 false, .int .i64 r.2.1, .own 902 false, .bool r.2.2.1]), (1, .dead), (900, .sl 4 .bool r.2.2.2.1 .shallow), (901, .sl 56 y3_ r.2.2.2.2.1 .shallow), (902, .sl 70 y6_ r.2.2.2.2.2 (.deep true .no))])
  | _, _ => .fail

noncomputable def C_impl_searching_visit__R0s (n_ : Nat) : Cfg := { y := tys, n := 120, h := 2, tab := [(25, (c_impl_searching_visit__Rsd 64)), (44, c_impl_variableOf), (45, c_impl_propagate), (46, c_impl_valuesOf), (47, c_slices_Clone_int), (48, c_impl_searching_fail__Rsd)], cut := [13, 25, 28], hand := [], good := [], deep := [], sched := [] }

theorem t_impl_searching_visit__R0s (n_ : Nat) (ih : Entry Try.prog 25 (c_impl_searching_visit__R0s n_)) : TabOk Try.prog (C_impl_searching_visit__R0s n_) := by
  refine tabOk_of ?_
  simp only [C_impl_searching_visit__R0s, List.forall_mem_cons]
  exact ⟨(k_impl_searching_visit__Rsd 64), k_impl_variableOf, k_impl_propagate, k_impl_valuesOf, k_slices_Clone_int, k_impl_searching_fail__Rsd, fun p h => by cases h⟩

theorem k_impl_searching_visit__R0s_step (n_ : Nat) (ih : Entry Try.prog 25 (c_impl_searching_visit__R0s n_)) : Entry Try.prog 25 (c_impl_searching_visit__R0s (n_ + 1)) := by
 refine entry_by (C := (C_impl_searching_visit__R0s n_)) mixed tys_ok (t_impl_searching_visit__R0s n_ ih) (fn := Try.f25) (c := bd Try.f25) (by kernel_rfl) (by kernel_rfl) (by kernel_rfl) (by kernel_rfl) ?_
 intro args st k he
 unfold c_impl_searching_visit__R0s at he
 split at he
 rotate_left
 ·exact he.elim
 rename_i a1 o0_1 o0_3 o1
 have he : Ok (impl_searching_visit__R0s_rec (impl_searching_visit__R0s n_) a1 o0_1 o0_3 o1) (fun r => k (.tup [.c (.own 900 false), .c (.bool r.1)]) [(0, .rc [.own 901 false, .int .i64 r.2.1, .own 902 false, .bool r.2.2.1]), (1, .dead), (900, .sl 4 .bool r.2.2.2.1 .shallow), (901, .sl 56 y3_ r.2.2.2.2.1 .shallow), (902, .sl 70 y6_ r.2.2.2.2.2 (.deep true .no))]) := he
 refine ⟨rfl, rfl, ?_⟩
 refine go_if2 he (fun he => ?_) fun he => ?_
 ·refine go_if he (fun he => ?_) fun he => ?_
  ·have he := ok_some he
   exact ⟨rfl, _, _, (leads_ren [(901, 1)] (l := [(4, .c (.own 900 false)), (5, .c (.bool false))]) (st' := [(0, .rc [.own 901 false, .int .i64 o0_1, .own 902 false, .bool true]), (1, .dead), (900, .sl 4 .bool ([] : List Bool) .shallow), (901, .sl 56 y3_ o1 .shallow), (902, .sl 70 y6_ ([] : List D6_) (.deep true .no))]) rfl rfl ⟨⟨⟨⟨rfl, rfl⟩, trivial⟩, rfl, ⟨rfl, trivial⟩, .inr rfl, trivial⟩, trivial, trivial, ⟨rfl, rfl⟩, trivial, trivial⟩ ⟨⟨rfl, trivial⟩, .inr rfl, trivial⟩), he⟩
  ·refine go_rq he fun he => ?_
   refine go_rq he fun he => ?_
   refine seq_model mixed tys_ok (t_impl_searching_visit__R0s n_ ih) (S := (List Int)) (I := (fun i2 => (envOf [(0, .c (.ptr 0 0)), (1, .c (.imm y0_ a1)), (6, .c (.own 10001000 false))], [(0, .rc [.own 1 false, .int .i64 (o0_1 - (1:Int)), .nil, .bool o0_3]), (1, .sl 56 y3_ o1 .shallow), (10001000, .sl 3 y0_ i2 .shallow)]))) (B := fun s => Ok (impl_searching_visit__R0s_j1 a1 o0_1 o0_3 o1 s) (fun r => k (.tup [.c (.own 900 false), .c (.bool r.1)]) [(0, .rc [.own 901 false, .int .i64 r.2.1, .own 902 false, .bool r.2.2.1]), (1, .dead), (900, .sl 4 .bool r.2.2.2.1 .shallow), (901, .sl 56 y3_ r.2.2.2.2.1 .shallow), (902, .sl 70 y6_ r.2.2.2.2.2 (.deep true .no))])) ?_ ?_
   ·rintro i2 he
    refine go_bind he fun r3_ he => ?_
    refine seq_model mixed tys_ok (t_impl_searching_visit__R0s n_ ih) (S := Int × Bool × (List D3_) × (List D6_)) (I := (fun (i_12, i_32, i_02, i_22) => (envOf [(0, .c (.ptr 0 0)), (1, .c (.imm y0_ a1))], [(0, .rc [.own 10004000 false, .int .i64 i_12, .own 10004001 false, .bool i_32]), (1, .dead), (10004000, .sl 56 y3_ i_02 .shallow), (10004001, .sl 70 y6_ i_22 (.deep true .no))]))) (B := fun s => Ok (impl_searching_visit__R0s_j2 a1 s) (fun r => k (.tup [.c (.own 900 false), .c (.bool r.1)]) [(0, .rc [.own 901 false, .int .i64 r.2.1, .own 902 false, .bool r.2.2.1]), (1, .dead), (900, .sl 4 .bool r.2.2.2.1 .shallow), (901, .sl 56 y3_ r.2.2.2.2.1 .shallow), (902, .sl 70 y6_ r.2.2.2.2.2 (.deep true .no))])) ?_ ?_
    ·rintro ⟨i_12, i_32, i_02, i_22⟩ he
     refine go_bind he fun r9_ he => ?_
     have he := ok_some he
     exact ⟨rfl, _, _, (leads_ren [(901, 120900), (902, 120901)] (l := [(4, .c (.own 900 false)), (5, .c (.bool false))]) (st' := [(0, .rc [.own 901 false, .int .i64 i_12, .own 902 false, .bool i_32]), (1, .dead), (900, .sl 4 .bool ([] : List Bool) .shallow), (901, .sl 56 y3_ r9_.1 .shallow), (902, .sl 70 y6_ r9_.2 (.deep true .no))]) rfl rfl ⟨⟨⟨⟨rfl, rfl⟩, trivial⟩, rfl, ⟨⟨rfl, rfl⟩, trivial⟩, .inl rfl, trivial⟩, trivial, trivial, ⟨rfl, rfl⟩, ⟨rfl, rfl⟩, trivial⟩ ⟨⟨rfl, trivial⟩, .inr rfl, trivial⟩), he⟩
    ·skip
     refine go_if he (fun he => ?_) fun he => ?_
     ·refine go_bind he fun r4_ he => ?_
      refine go_if he (fun he => ?_) fun he => ?_
      ·have he := ok_some he
       exact ⟨rfl, _, _, (leads_ren [(900, 74900), (901, 1)] (l := [(4, .c (.own 900 false)), (5, .c (.bool true))]) (st' := [(0, .rc [.own 901 false, .int .i64 (o0_1 - (1:Int)), .own 902 false, .bool o0_3]), (1, .dead), (900, .sl 4 .bool r4_.2.2 .shallow), (901, .sl 56 y3_ o1 .shallow), (902, .sl 70 y6_ ([] : List D6_) (.deep true .no))]) rfl rfl ⟨⟨⟨⟨rfl, rfl⟩, trivial⟩, rfl, ⟨rfl, trivial⟩, .inl rfl, trivial⟩, trivial, ⟨rfl, rfl⟩, ⟨rfl, rfl⟩, trivial, trivial⟩ ⟨⟨⟨rfl, rfl⟩, trivial⟩, .inr rfl, trivial⟩), he⟩
      ·refine seq_model mixed tys_ok (t_impl_searching_visit__R0s n_ ih) (S := Int × Bool × (List D3_) × (List D6_)) (I := (fun (i_11, i_31, i_01, i_21) => (envOf [(0, .c (.ptr 0 0)), (1, .c (.imm y0_ a1))], [(0, .rc [.own 10003000 false, .int .i64 i_11, .own 10003001 false, .bool i_31]), (1, .dead), (10003000, .sl 56 y3_ i_01 .shallow), (10003001, .sl 70 y6_ i_21 (.deep true .no))]))) (B := fun s => Ok (impl_searching_visit__R0s_j3 a1 s) (fun r => k (.tup [.c (.own 900 false), .c (.bool r.1)]) [(0, .rc [.own 901 false, .int .i64 r.2.1, .own 902 false, .bool r.2.2.1]), (1, .dead), (900, .sl 4 .bool r.2.2.2.1 .shallow), (901, .sl 56 y3_ r.2.2.2.2.1 .shallow), (902, .sl 70 y6_ r.2.2.2.2.2 (.deep true .no))])) ?_ ?_
       ·rintro ⟨i_11, i_31, i_01, i_21⟩ he
        refine go_if he (fun he => ?_) fun he => ?_
        ·have he := ok_some he
         exact ⟨rfl, _, _, (leads_ren [(901, 10003000), (902, 10003001)] (l := [(4, .c (.own 900 false)), (5, .c (.bool false))]) (st' := [(0, .rc [.own 901 false, .int .i64 i_11, .own 902 false, .bool true]), (1, .dead), (900, .sl 4 .bool ([] : List Bool) .shallow), (901, .sl 56 y3_ i_01 .shallow), (902, .sl 70 y6_ i_21 (.deep true .no))]) rfl rfl ⟨⟨⟨⟨rfl, rfl⟩, trivial⟩, rfl, ⟨⟨rfl, rfl⟩, trivial⟩, .inr rfl, trivial⟩, trivial, trivial, ⟨rfl, rfl⟩, ⟨rfl, rfl⟩, trivial⟩ ⟨⟨rfl, trivial⟩, .inr rfl, trivial⟩), he⟩
        ·exact ⟨(i_11, i_31, i_01, i_21), he, (leads_ren [(10004000, 10003000), (10004001, 10003001)] rfl rfl ⟨⟨⟨⟨rfl, rfl⟩, trivial⟩, rfl, ⟨⟨rfl, rfl⟩, trivial⟩, .inl rfl, trivial⟩, trivial, ⟨rfl, rfl⟩, ⟨rfl, rfl⟩, trivial⟩ ⟨⟨⟨rfl, rfl⟩, rfl⟩, .inl rfl, trivial⟩)⟩
       ·skip
        refine go_rq he fun he => ?_
        refine loop_model mixed tys_ok (t_impl_searching_visit__R0s n_ ih) (S := Int × Int × Bool × (List D3_) × (List D6_)) (I := (fun (i3, i_1, i_3, i_0, i_2) => (envOf [(0, .c (.ptr 0 0)), (1, .c (.imm y0_ a1)), (82, .c (.own 10002000 false)), (83, .c (.int .i64 ([r4_.1, (0 - r4_.1)].length:Int))), (84, .c (.int .i64 i3))], [(0, .rc [.own 10002001 false, .int .i64 i_1, .own 10002002 false, .bool i_3]), (1, .dead), (10002000, .sl 3 y0_ [r4_.1, (0 - r4_.1)] .shallow), (10002001, .sl 56 y3_ i_0 .shallow), (10002002, .sl 70 y6_ i_2 (.deep true .no))]))) (f := impl_searching_visit__R0s_l1 a1 r4_) (K := (fun r => k (.tup [.c (.own 900 false), .c (.bool r.1)]) [(0, .rc [.own 901 false, .int .i64 r.2.1, .own 902 false, .bool r.2.2.1]), (1, .dead), (900, .sl 4 .bool r.2.2.2.1 .shallow), (901, .sl 56 y3_ r.2.2.2.2.1 .shallow), (902, .sl 70 y6_ r.2.2.2.2.2 (.deep true .no))])) he (leads_ren [(10002000, 82), (10002001, 1)] rfl rfl ⟨⟨⟨⟨rfl, rfl⟩, trivial⟩, rfl, ⟨rfl, trivial⟩, .inl rfl, trivial⟩, trivial, ⟨rfl, rfl⟩, ⟨rfl, rfl⟩, trivial, trivial⟩ ⟨⟨⟨rfl, rfl⟩, rfl⟩, .inl rfl, ⟨⟨rfl, rfl⟩, trivial⟩, rfl, rfl, trivial⟩) ?_
        rintro ⟨i3, i_1, i_3, i_0, i_2⟩ J1 he
        refine go_if he (fun he => ?_) fun he => ?_
        ·refine go_rq he fun he => ?_
         refine go_bind he fun r7_ he => ?_
         refine go_rq he fun he => ?_
         refine go_bind he fun r8_ he => ?_
         refine go_if2 he (fun he => ?_) fun he => ?_
         ·refine go_if he (fun he => ?_) fun he => ?_
          ·have he := ok_some he
           exact ⟨rfl, _, _, (leads_ren [(900, 96900), (901, 96901), (902, 96902)] (l := [(4, .c (.own 900 false)), (5, .c (.bool r8_.1))]) (st' := [(0, .rc [.own 901 false, .int .i64 r8_.2.1, .own 902 false, .bool r8_.2.2.1]), (1, .dead), (900, .sl 4 .bool r8_.2.2.2.1 .shallow), (901, .sl 56 y3_ r8_.2.2.2.2.1 .shallow), (902, .sl 70 y6_ r8_.2.2.2.2.2 (.deep true .no))]) rfl rfl ⟨⟨⟨⟨rfl, rfl⟩, trivial⟩, rfl, ⟨⟨rfl, rfl⟩, trivial⟩, .inl rfl, trivial⟩, trivial, ⟨rfl, rfl⟩, ⟨rfl, rfl⟩, ⟨rfl, rfl⟩, trivial⟩ ⟨⟨⟨rfl, rfl⟩, trivial⟩, .inl rfl, trivial⟩), he⟩
          ·refine go_rq he fun he => ?_
           have he := ok_some he
           exact ⟨((i3 + (1:Int)), r8_.2.1, r8_.2.2.1, r8_.2.2.2.2.1, r8_.2.2.2.2.2), he, (leads_ren [(10002001, 96901), (10002002, 96902)] rfl rfl ⟨⟨⟨⟨rfl, rfl⟩, trivial⟩, rfl, ⟨⟨rfl, rfl⟩, trivial⟩, .inl rfl, trivial⟩, trivial, ⟨rfl, rfl⟩, ⟨rfl, rfl⟩, ⟨rfl, rfl⟩, trivial⟩ ⟨⟨⟨rfl, rfl⟩, rfl⟩, .inl rfl, ⟨⟨rfl, rfl⟩, trivial⟩, rfl, rfl, trivial⟩)⟩
         ·have he := ok_some he
          exact ⟨rfl, _, _, (leads_ren [(900, 96900), (901, 96901), (902, 96902)] (l := [(4, .c (.own 900 false)), (5, .c (.bool r8_.1))]) (st' := [(0, .rc [.own 901 false, .int .i64 r8_.2.1, .own 902 false, .bool r8_.2.2.1]), (1, .dead), (900, .sl 4 .bool r8_.2.2.2.1 .shallow), (901, .sl 56 y3_ r8_.2.2.2.2.1 .shallow), (902, .sl 70 y6_ r8_.2.2.2.2.2 (.deep true .no))]) rfl rfl ⟨⟨⟨⟨rfl, rfl⟩, trivial⟩, rfl, ⟨⟨rfl, rfl⟩, trivial⟩, .inl rfl, trivial⟩, trivial, ⟨rfl, rfl⟩, ⟨rfl, rfl⟩, ⟨rfl, rfl⟩, trivial⟩ ⟨⟨⟨rfl, rfl⟩, trivial⟩, .inl rfl, trivial⟩), he⟩
        ·exact ⟨(i_1, i_3, i_0, i_2), ok_up he, (leads_ren [(10003000, 10002001), (10003001, 10002002)] rfl rfl ⟨⟨⟨⟨rfl, rfl⟩, trivial⟩, rfl, ⟨⟨rfl, rfl⟩, trivial⟩, .inl rfl, trivial⟩, trivial, ⟨rfl, rfl⟩, ⟨rfl, rfl⟩, trivial⟩ ⟨⟨⟨rfl, rfl⟩, rfl⟩, .inl rfl, trivial⟩)⟩
     ·exact ⟨((o0_1 - (1:Int)), o0_3, o1, ([] : List D6_)), he, (leads_ren [(10004000, 1)] rfl rfl ⟨⟨⟨⟨rfl, rfl⟩, trivial⟩, rfl, ⟨rfl, trivial⟩, .inl rfl, trivial⟩, trivial, ⟨rfl, rfl⟩, trivial, trivial⟩ ⟨⟨⟨rfl, rfl⟩, rfl⟩, .inl rfl, trivial⟩)⟩
   ·skip
    refine loop_model mixed tys_ok (t_impl_searching_visit__R0s n_ ih) (S := Int × (List Int)) (I := (fun (i, i1) => (envOf [(0, .c (.ptr 0 0)), (1, .c (.imm y0_ a1)), (6, .c (.own 10000000 false)), (41, .c (.imm y0_ a1)), (42, .c (.int .i64 (a1.length:Int))), (43, .c (.int .i64 i))], [(0, .rc [.own 1 false, .int .i64 (o0_1 - (1:Int)), .nil, .bool o0_3]), (1, .sl 56 y3_ o1 .shallow), (10000000, .sl 3 y0_ i1 .shallow)]))) (f := impl_searching_visit__R0s_l2 a1 o0_1 o0_3 o1) (K := (fun r => k (.tup [.c (.own 900 false), .c (.bool r.1)]) [(0, .rc [.own 901 false, .int .i64 r.2.1, .own 902 false, .bool r.2.2.1]), (1, .dead), (900, .sl 4 .bool r.2.2.2.1 .shallow), (901, .sl 56 y3_ r.2.2.2.2.1 .shallow), (902, .sl 70 y6_ r.2.2.2.2.2 (.deep true .no))])) he (leads_ren [(10000000, 40)] rfl rfl ⟨⟨⟨⟨rfl, rfl⟩, trivial⟩, rfl, rfl, .inl rfl, trivial⟩, ⟨rfl, rfl⟩, ⟨rfl, rfl⟩, trivial⟩ ⟨⟨⟨rfl, rfl⟩, rfl⟩, .inl rfl, ⟨⟨rfl, rfl⟩, trivial⟩, .inl rfl, rfl, rfl, trivial⟩) ?_
    rintro ⟨i, i1⟩ J1 he
    refine go_if he (fun he => ?_) fun he => ?_
    ·refine go_rq he fun he => ?_
     refine go_bind he fun r2_ he => ?_
     refine go_rq he fun he => ?_
     refine go_rq he fun he => ?_
     refine go_if he (fun he => ?_) fun he => ?_
     ·refine go_rq he fun he => ?_
      refine go_rq he fun he => ?_
      refine go_rq he fun he => ?_
      refine go_rq he fun he => ?_
      have he := ok_some he
      exact ⟨((i + (1:Int)), ((i1.set (r2_ - (1:Int)).toNat (1:Int)).set ((0 - (a1.getD i.toNat 0)) - (1:Int)).toNat (-1:Int))), he, (leads_ren [] rfl rfl ⟨⟨⟨⟨rfl, rfl⟩, trivial⟩, rfl, rfl, .inl rfl, trivial⟩, ⟨rfl, rfl⟩, ⟨rfl, rfl⟩, trivial⟩ ⟨⟨⟨rfl, rfl⟩, rfl⟩, .inl rfl, ⟨⟨rfl, rfl⟩, trivial⟩, .inl rfl, rfl, rfl, trivial⟩)⟩
     ·refine go_rq he fun he => ?_
      have he := ok_some he
      exact ⟨((i + (1:Int)), (i1.set (r2_ - (1:Int)).toNat (1:Int))), he, (leads_ren [] rfl rfl ⟨⟨⟨⟨rfl, rfl⟩, trivial⟩, rfl, rfl, .inl rfl, trivial⟩, ⟨rfl, rfl⟩, ⟨rfl, rfl⟩, trivial⟩ ⟨⟨⟨rfl, rfl⟩, rfl⟩, .inl rfl, ⟨⟨rfl, rfl⟩, trivial⟩, .inl rfl, rfl, rfl, trivial⟩)⟩
    ·exact ⟨i1, ok_up he, (leads_ren [(10001000, 10000000)] rfl rfl ⟨⟨⟨⟨rfl, rfl⟩, trivial⟩, rfl, rfl, .inl rfl, trivial⟩, ⟨rfl, rfl⟩, ⟨rfl, rfl⟩, trivial⟩ ⟨⟨⟨rfl, rfl⟩, rfl⟩, .inl rfl, ⟨⟨rfl, rfl⟩, trivial⟩, trivial⟩)⟩
 ·have he := ok_some he
  exact ⟨rfl, _, _, (leads_ren [(901, 1)] (l := [(4, .c (.own 900 false)), (5, .c (.bool false))]) (st' := [(0, .rc [.own 901 false, .int .i64 o0_1, .own 902 false, .bool true]), (1, .dead), (900, .sl 4 .bool ([] : List Bool) .shallow), (901, .sl 56 y3_ o1 .shallow), (902, .sl 70 y6_ ([] : List D6_) (.deep true .no))]) rfl rfl ⟨⟨⟨⟨rfl, rfl⟩, trivial⟩, rfl, ⟨rfl, trivial⟩, .inr rfl, trivial⟩, trivial, trivial, ⟨rfl, rfl⟩, trivial, trivial⟩ ⟨⟨rfl, trivial⟩, .inr rfl, trivial⟩), he⟩

theorem k_impl_searching_visit__R0s : ∀ n_, Entry Try.prog 25 (c_impl_searching_visit__R0s n_)
  | 0 => by
    refine entry_by (C := { y := tys, n := 120, h := 2, tab := [], cut := [], hand := [], good := [], deep := [], sched := [] }) mixed tys_ok (tabOk_of (fun p h => by cases h)) (fn := Try.f25) (c := bd Try.f25) (by kernel_rfl) (by kernel_rfl) (by kernel_rfl) (by kernel_rfl) ?_
    intro args st k he
    unfold c_impl_searching_visit__R0s at he
    split at he
    · obtain ⟨x, hx, _⟩ := he
      cases hx
    · exact he.elim
  | n_ + 1 => k_impl_searching_visit__R0s_step n_ (k_impl_searching_visit__R0s n_)

noncomputable def c_impl_SolveProblem : Con := fun args st => match args, st with
  | [.c (.imm (.pair (.sl (.pair (.int .i64) (.int .i64))) (.int .i64)) list_), .c (.int .i64 fuel)], [] => .opt (Int × (List Bool) × (List D6_)) (impl_SolveProblem list_ fuel) (fun r => .ret (.tup [.c (.int .i64 r.1), .c (.own 900 false), .c (.own 901 false)]) [(900, .sl 4 .bool r.2.1 .shallow), (901, .sl 70 y6_ r.2.2 (.deep true .no))])
  | _, _ => .fail

noncomputable def C_impl_SolveProblem : Cfg := { y := tys, n := 40, h := 0, tab := [(14, c_impl_ProblemValid), (15, c_impl_isFuel), (24, c_slices_Clone_impl_Constraint), (25, (c_impl_searching_visit__R0s 64))], cut := [], hand := [], good := [], deep := [], sched := [] }

theorem t_impl_SolveProblem : TabOk Try.prog C_impl_SolveProblem := by
  refine tabOk_of ?_
  simp only [C_impl_SolveProblem, List.forall_mem_cons]
  exact ⟨k_impl_ProblemValid, k_impl_isFuel, k_slices_Clone_impl_Constraint, (k_impl_searching_visit__R0s 64), fun p h => by cases h⟩

theorem k_impl_SolveProblem : Entry Try.prog 7 c_impl_SolveProblem := by
 refine entry_by (C := C_impl_SolveProblem) mixed tys_ok t_impl_SolveProblem (fn := Try.f7) (c := bd Try.f7) (by kernel_rfl) (by kernel_rfl) (by kernel_rfl) (by kernel_rfl) ?_
 intro args st k he
 unfold c_impl_SolveProblem at he
 split at he
 rotate_left
 ·exact he.elim
 rename_i list_ fuel
 have he : Ok (impl_SolveProblem list_ fuel) (fun r => k (.tup [.c (.int .i64 r.1), .c (.own 900 false), .c (.own 901 false)]) [(900, .sl 4 .bool r.2.1 .shallow), (901, .sl 70 y6_ r.2.2 (.deep true .no))]) := he
 refine ⟨rfl, rfl, ?_⟩
 refine go_bind he fun r1_ he => ?_
 refine go_if2 he (fun he => ?_) fun he => ?_
 ·refine go_bind he fun r2_ he => ?_
  refine go_if he (fun he => ?_) fun he => ?_
  ·have he := ok_some he
   exact ⟨rfl, _, _, (leads_ren [] (l := [(4, .c (.int .i64 (3:Int))), (5, .c (.own 900 false)), (6, .c (.own 901 false))]) (st' := [(900, .sl 4 .bool ([] : List Bool) .shallow), (901, .sl 70 y6_ ([] : List D6_) (.deep true .no))]) rfl rfl ⟨trivial, trivial, trivial⟩ ⟨rfl, ⟨rfl, trivial⟩, ⟨rfl, trivial⟩, trivial⟩), he⟩
  ·refine go_bind he fun r3_ he => ?_
   refine go_bind he fun r4_ he => ?_
   refine go_if he (fun he => ?_) fun he => ?_
   ·have he := ok_some he
    exact ⟨rfl, _, _, (leads_ren [(900, 26900)] (l := [(4, .c (.int .i64 (1:Int))), (5, .c (.own 900 false)), (6, .c (.own 901 false))]) (st' := [(900, .sl 4 .bool r4_.2.2.2.1 .shallow), (901, .sl 70 y6_ ([] : List D6_) (.deep true .no))]) rfl rfl ⟨⟨rfl, rfl⟩, trivial, trivial⟩ ⟨rfl, ⟨⟨rfl, rfl⟩, trivial⟩, ⟨rfl, trivial⟩, trivial⟩), he⟩
   ·refine go_if he (fun he => ?_) fun he => ?_
    ·have he := ok_some he
     exact ⟨rfl, _, _, (leads_ren [] (l := [(4, .c (.int .i64 (0:Int))), (5, .c (.own 900 false)), (6, .c (.own 901 false))]) (st' := [(900, .sl 4 .bool ([] : List Bool) .shallow), (901, .sl 70 y6_ ([] : List D6_) (.deep true .no))]) rfl rfl ⟨trivial, trivial, trivial⟩ ⟨rfl, ⟨rfl, trivial⟩, ⟨rfl, trivial⟩, trivial⟩), he⟩
    ·refine And.intro (by kernel_rfl) ?_
     have he := ok_some he
     exact ⟨rfl, _, _, (leads_ren [(901, 26902)] (l := [(4, .c (.int .i64 (2:Int))), (5, .c (.own 900 false)), (6, .c (.own 901 false))]) (st' := [(900, .sl 4 .bool ([] : List Bool) .shallow), (901, .sl 70 y6_ r4_.2.2.2.2.2 (.deep true .no))]) rfl rfl ⟨trivial, ⟨rfl, rfl⟩, trivial⟩ ⟨rfl, ⟨rfl, trivial⟩, ⟨⟨rfl, rfl⟩, trivial⟩, trivial⟩), he⟩
 ·have he := ok_some he
  exact ⟨rfl, _, _, (leads_ren [] (l := [(4, .c (.int .i64 (3:Int))), (5, .c (.own 900 false)), (6, .c (.own 901 false))]) (st' := [(900, .sl 4 .bool ([] : List Bool) .shallow), (901, .sl 70 y6_ ([] : List D6_) (.deep true .no))]) rfl rfl ⟨trivial, trivial, trivial⟩ ⟨rfl, ⟨rfl, trivial⟩, ⟨rfl, trivial⟩, trivial⟩), he⟩

noncomputable def c_impl_negations : Con := fun args st => match args, st with
  | [.c (.imm (.int .i64) lits)], [] => .opt ((List Int)) (impl_negations lits) (fun r => .ret (.c (.own 900 false)) [(900, .sl 3 y0_ r .shallow)])
  | _, _ => .fail

noncomputable def C_impl_negations : Cfg := { y := tys, n := 19, h := 0, tab := [], cut := [], hand := [], good := [], deep := [], sched := [] }

theorem t_impl_negations : TabOk Try.prog C_impl_negations := tabOk_of (fun p h => by cases h)

theorem k_impl_negations : Entry Try.prog 38 c_impl_negations := by
 refine entry_by (C := C_impl_negations) mixed tys_ok t_impl_negations (fn := Try.f38) (c := bd Try.f38) (by kernel_rfl) (by kernel_rfl) (by kernel_rfl) (by kernel_rfl) ?_
 intro args st k he
 unfold c_impl_negations at he
 split at he
 rotate_left
 ·exact he.elim
 rename_i lits
 have he : Ok (impl_negations lits) (fun r => k (.c (.own 900 false)) [(900, .sl 3 y0_ r .shallow)]) := he
 refine ⟨rfl, rfl, ?_⟩
 refine loop_model mixed tys_ok t_impl_negations (S := Int × (List Int)) (I := (fun (i, out) => (envOf [(3, .c (.own 10000000 false)), (6, .c (.imm y0_ lits)), (7, .c (.int .i64 (lits.length:Int))), (8, .c (.int .i64 i))], [(10000000, .sl 3 y0_ out .shallow)]))) (f := impl_negations_l1 lits) (K := (fun r => k (.c (.own 900 false)) [(900, .sl 3 y0_ r .shallow)])) he (leads_ren [] rfl rfl ⟨trivial, trivial⟩ ⟨⟨rfl, trivial⟩, .inl rfl, rfl, rfl, trivial⟩) ?_
 rintro ⟨i, out⟩ J1 he
 refine go_if he (fun he => ?_) fun he => ?_
 ·refine go_rq he fun he => ?_
  refine go_rq he fun he => ?_
  refine go_rq he fun he => ?_
  refine go_rq he fun he => ?_
  have he := ok_some he
  exact ⟨((i + (1:Int)), (out ++ [(0 - (lits.getD i.toNat 0))])), he, (leads_ren [(10000000, 16)] rfl rfl ⟨⟨rfl, rfl⟩, trivial⟩ ⟨⟨⟨rfl, rfl⟩, trivial⟩, .inl rfl, rfl, rfl, trivial⟩)⟩
 ·have he := ok_some he
  exact ⟨rfl, _, _, (leads_ren [(900, 10000000)] (l := [(2, .c (.own 900 false))]) (st' := [(900, .sl 3 y0_ out .shallow)]) rfl rfl ⟨⟨rfl, rfl⟩, trivial⟩ ⟨⟨⟨rfl, rfl⟩, trivial⟩, trivial⟩), he⟩

noncomputable def c_impl_LiftStep : Con := fun args st => match args, st with
  | [.agg [.int .i64 a0_0, .int .i64 a0_1, .int .i64 a0_2, .imm (.pair (.int .i64) (.int .i64)) a0_3, .int .i64 a0_4], .c (.imm (.int .i64) a1)], [] => .opt (Bool × Int × Int × Int × Int × (List D2_)) (impl_LiftStep (a0_0, (a0_1, (a0_2, (a0_3, a0_4)))) a1) (fun r => .ret (.tup [.agg [.int .i64 r.2.1, .int .i64 r.2.2.1, .int .i64 r.2.2.2.1, .own 901 false, .int .i64 r.2.2.2.2.1], .c (.bool r.1)]) [(900, .rc [.int .i64 r.2.1, .int .i64 r.2.2.1, .int .i64 r.2.2.2.1, .own 901 false, .int .i64 r.2.2.2.2.1]), (901, .sl 66 y2_ r.2.2.2.2.2 .shallow)])
  | _, _ => .fail

noncomputable def C_impl_LiftStep : Cfg := { y := tys, n := 72, h := 0, tab := [(34, c_impl_isCube), (37, c_impl_ClauseOf), (38, c_impl_negations), (54, c_impl_ConstraintValid)], cut := [11], hand := [], good := [], deep := [], sched := [] }

theorem t_impl_LiftStep : TabOk Try.prog C_impl_LiftStep := by
  refine tabOk_of ?_
  simp only [C_impl_LiftStep, List.forall_mem_cons]
  exact ⟨k_impl_isCube, k_impl_ClauseOf, k_impl_negations, k_impl_ConstraintValid, fun p h => by cases h⟩

theorem k_impl_LiftStep : Entry Try.prog 36 c_impl_LiftStep := by
 refine entry_by (C := C_impl_LiftStep) mixed tys_ok t_impl_LiftStep (fn := Try.f36) (c := bd Try.f36) (by kernel_rfl) (by kernel_rfl) (by kernel_rfl) (by kernel_rfl) ?_
 intro args st k he
 unfold c_impl_LiftStep at he
 split at he
 rotate_left
 ·exact he.elim
 rename_i a0_0 a0_1 a0_2 a0_3 a0_4 a1
 have he : Ok (impl_LiftStep (a0_0, (a0_1, (a0_2, (a0_3, a0_4)))) a1) (fun r => k (.tup [.agg [.int .i64 r.2.1, .int .i64 r.2.2.1, .int .i64 r.2.2.2.1, .own 901 false, .int .i64 r.2.2.2.2.1], .c (.bool r.1)]) [(900, .rc [.int .i64 r.2.1, .int .i64 r.2.2.1, .int .i64 r.2.2.2.1, .own 901 false, .int .i64 r.2.2.2.2.1]), (901, .sl 66 y2_ r.2.2.2.2.2 .shallow)]) := he
 refine ⟨rfl, rfl, ?_⟩
 refine go_if2 he (fun he => ?_) fun he => ?_
 ·refine go_if2 he (fun he => ?_) fun he => ?_
  ·refine go_if2 he (fun he => ?_) fun he => ?_
   ·refine go_bind he fun r1_ he => ?_
    refine go_if2 he (fun he => ?_) fun he => ?_
    ·refine go_if2 he (fun he => ?_) fun he => ?_
     ·refine go_bind he fun r2_ he => ?_
      refine go_if he (fun he => ?_) fun he => ?_
      ·have he := ok_some he
       exact ⟨rfl, _, _, (leads_ren [(900, 4)] (l := [(4, .c (.ptr 900 0)), (5, .c (.bool false))]) (st' := [(900, .rc [.int .i64 (0:Int), .int .i64 (0:Int), .int .i64 (0:Int), .own 901 false, .int .i64 (0:Int)]), (901, .sl 66 y2_ ([] : List D2_) .shallow)]) rfl rfl ⟨⟨rfl, rfl, rfl, ⟨rfl, trivial⟩, rfl, trivial⟩, trivial, trivial⟩ ⟨⟨⟨rfl, rfl⟩, rfl⟩, .inr rfl, trivial⟩), he⟩
      ·refine go_bind he fun r3_ he => ?_
       refine seq_model mixed tys_ok t_impl_LiftStep (S := (List Int)) (I := (fun i2 => (envOf [(4, .c (.ptr 10001000 0)), (6, .c (.own 10001001 false))], [(10001000, .rc [.int .i64 (0:Int), .int .i64 (0:Int), .int .i64 (0:Int), .nil, .int .i64 (0:Int)]), (10001001, .sl 3 y0_ i2 .shallow)]))) (B := fun s => Ok (impl_LiftStep_j1 s) (fun r => k (.tup [.agg [.int .i64 r.2.1, .int .i64 r.2.2.1, .int .i64 r.2.2.2.1, .own 901 false, .int .i64 r.2.2.2.2.1], .c (.bool r.1)]) [(900, .rc [.int .i64 r.2.1, .int .i64 r.2.2.1, .int .i64 r.2.2.2.1, .own 901 false, .int .i64 r.2.2.2.2.1]), (901, .sl 66 y2_ r.2.2.2.2.2 .shallow)])) ?_ ?_
       ·rintro i2 he
        refine go_bind he fun r4_ he => ?_
        refine go_if he (fun he => ?_) fun he => ?_
        ·have he := ok_some he
         exact ⟨rfl, _, _, (leads_ren [(900, 10001000)] (l := [(4, .c (.ptr 900 0)), (5, .c (.bool false))]) (st' := [(900, .rc [.int .i64 (0:Int), .int .i64 (0:Int), .int .i64 (0:Int), .own 901 false, .int .i64 (0:Int)]), (901, .sl 66 y2_ ([] : List D2_) .shallow)]) rfl rfl ⟨⟨rfl, rfl, rfl, ⟨rfl, trivial⟩, rfl, trivial⟩, trivial, trivial⟩ ⟨⟨⟨rfl, rfl⟩, rfl⟩, .inr rfl, trivial⟩), he⟩
        ·have he := ok_some he
         exact ⟨rfl, _, _, (leads_ren [(900, 10001000), (901, 65901)] (l := [(4, .c (.ptr 900 0)), (5, .c (.bool true))]) (st' := [(900, .rc [.int .i64 (7:Int), .int .i64 (0:Int), .int .i64 (0:Int), .own 901 false, .int .i64 r4_.2.1]), (901, .sl 66 y2_ r4_.2.2 .shallow)]) rfl rfl ⟨⟨rfl, rfl, rfl, ⟨⟨rfl, rfl⟩, trivial⟩, rfl, trivial⟩, ⟨rfl, rfl⟩, trivial⟩ ⟨⟨⟨rfl, rfl⟩, rfl⟩, .inr rfl, trivial⟩), he⟩
       ·skip
        refine loop_model mixed tys_ok t_impl_LiftStep (S := Int × (List Int)) (I := (fun (i, i1) => (envOf [(4, .c (.ptr 10000000 0)), (6, .c (.own 10000001 false)), (46, .c (.imm y2_ (a0_0, (a0_1, (a0_2, (a0_3, a0_4)))).2.2.2.1)), (47, .c (.int .i64 ((a0_0, (a0_1, (a0_2, (a0_3, a0_4)))).2.2.2.1.length:Int))), (48, .c (.int .i64 i))], [(10000000, .rc [.int .i64 (0:Int), .int .i64 (0:Int), .int .i64 (0:Int), .nil, .int .i64 (0:Int)]), (10000001, .sl 3 y0_ i1 .shallow)]))) (f := impl_LiftStep_l1 (a0_0, (a0_1, (a0_2, (a0_3, a0_4))))) (K := (fun r => k (.tup [.agg [.int .i64 r.2.1, .int .i64 r.2.2.1, .int .i64 r.2.2.2.1, .own 901 false, .int .i64 r.2.2.2.2.1], .c (.bool r.1)]) [(900, .rc [.int .i64 r.2.1, .int .i64 r.2.2.1, .int .i64 r.2.2.2.1, .own 901 false, .int .i64 r.2.2.2.2.1]), (901, .sl 66 y2_ r.2.2.2.2.2 .shallow)])) he (leads_ren [(10000000, 4), (10000001, 44900)] rfl rfl ⟨⟨rfl, rfl, rfl, rfl, rfl, trivial⟩, ⟨rfl, rfl⟩, trivial⟩ ⟨⟨⟨rfl, rfl⟩, rfl⟩, ⟨⟨rfl, rfl⟩, trivial⟩, .inl rfl, rfl, rfl, trivial⟩) ?_
        rintro ⟨i, i1⟩ J1 he
        refine go_if he (fun he => ?_) fun he => ?_
        ·refine go_rq he fun he => ?_
         refine go_if he (fun he => ?_) fun he => ?_
         ·have he := ok_some he
          exact ⟨rfl, _, _, (leads_ren [(900, 10000000)] (l := [(4, .c (.ptr 900 0)), (5, .c (.bool false))]) (st' := [(900, .rc [.int .i64 (0:Int), .int .i64 (0:Int), .int .i64 (0:Int), .own 901 false, .int .i64 (0:Int)]), (901, .sl 66 y2_ ([] : List D2_) .shallow)]) rfl rfl ⟨⟨rfl, rfl, rfl, ⟨rfl, trivial⟩, rfl, trivial⟩, trivial, trivial⟩ ⟨⟨⟨rfl, rfl⟩, rfl⟩, .inr rfl, trivial⟩), he⟩
         ·refine go_rq he fun he => ?_
          refine go_rq he fun he => ?_
          have he := ok_some he
          exact ⟨((i + (1:Int)), (i1 ++ [((a0_0, (a0_1, (a0_2, (a0_3, a0_4)))).2.2.2.1.getD i.toNat (0, 0)).2])), he, (leads_ren [(10000001, 60)] rfl rfl ⟨⟨rfl, rfl, rfl, rfl, rfl, trivial⟩, ⟨rfl, rfl⟩, trivial⟩ ⟨⟨⟨rfl, rfl⟩, rfl⟩, ⟨⟨rfl, rfl⟩, trivial⟩, .inl rfl, rfl, rfl, trivial⟩)⟩
        ·exact ⟨i1, ok_up he, (leads_ren [(10001000, 10000000), (10001001, 10000001)] rfl rfl ⟨⟨rfl, rfl, rfl, rfl, rfl, trivial⟩, ⟨rfl, rfl⟩, trivial⟩ ⟨⟨⟨rfl, rfl⟩, rfl⟩, ⟨⟨rfl, rfl⟩, trivial⟩, trivial⟩)⟩
     ·have he := ok_some he
      exact ⟨rfl, _, _, (leads_ren [(900, 4)] (l := [(4, .c (.ptr 900 0)), (5, .c (.bool false))]) (st' := [(900, .rc [.int .i64 (0:Int), .int .i64 (0:Int), .int .i64 (0:Int), .own 901 false, .int .i64 (0:Int)]), (901, .sl 66 y2_ ([] : List D2_) .shallow)]) rfl rfl ⟨⟨rfl, rfl, rfl, ⟨rfl, trivial⟩, rfl, trivial⟩, trivial, trivial⟩ ⟨⟨⟨rfl, rfl⟩, rfl⟩, .inr rfl, trivial⟩), he⟩
    ·have he := ok_some he
     exact ⟨rfl, _, _, (leads_ren [(900, 4)] (l := [(4, .c (.ptr 900 0)), (5, .c (.bool false))]) (st' := [(900, .rc [.int .i64 (0:Int), .int .i64 (0:Int), .int .i64 (0:Int), .own 901 false, .int .i64 (0:Int)]), (901, .sl 66 y2_ ([] : List D2_) .shallow)]) rfl rfl ⟨⟨rfl, rfl, rfl, ⟨rfl, trivial⟩, rfl, trivial⟩, trivial, trivial⟩ ⟨⟨⟨rfl, rfl⟩, rfl⟩, .inr rfl, trivial⟩), he⟩
   ·have he := ok_some he
    exact ⟨rfl, _, _, (leads_ren [(900, 4)] (l := [(4, .c (.ptr 900 0)), (5, .c (.bool false))]) (st' := [(900, .rc [.int .i64 (0:Int), .int .i64 (0:Int), .int .i64 (0:Int), .own 901 false, .int .i64 (0:Int)]), (901, .sl 66 y2_ ([] : List D2_) .shallow)]) rfl rfl ⟨⟨rfl, rfl, rfl, ⟨rfl, trivial⟩, rfl, trivial⟩, trivial, trivial⟩ ⟨⟨⟨rfl, rfl⟩, rfl⟩, .inr rfl, trivial⟩), he⟩
  ·have he := ok_some he
   exact ⟨rfl, _, _, (leads_ren [(900, 4)] (l := [(4, .c (.ptr 900 0)), (5, .c (.bool false))]) (st' := [(900, .rc [.int .i64 (0:Int), .int .i64 (0:Int), .int .i64 (0:Int), .own 901 false, .int .i64 (0:Int)]), (901, .sl 66 y2_ ([] : List D2_) .shallow)]) rfl rfl ⟨⟨rfl, rfl, rfl, ⟨rfl, trivial⟩, rfl, trivial⟩, trivial, trivial⟩ ⟨⟨⟨rfl, rfl⟩, rfl⟩, .inr rfl, trivial⟩), he⟩
 ·have he := ok_some he
  exact ⟨rfl, _, _, (leads_ren [(900, 4)] (l := [(4, .c (.ptr 900 0)), (5, .c (.bool false))]) (st' := [(900, .rc [.int .i64 (0:Int), .int .i64 (0:Int), .int .i64 (0:Int), .own 901 false, .int .i64 (0:Int)]), (901, .sl 66 y2_ ([] : List D2_) .shallow)]) rfl rfl ⟨⟨rfl, rfl, rfl, ⟨rfl, trivial⟩, rfl, trivial⟩, trivial, trivial⟩ ⟨⟨⟨rfl, rfl⟩, rfl⟩, .inr rfl, trivial⟩), he⟩

noncomputable def c_impl_MergeProofs : Con := fun args st => match args, st with
  | [.c (.imm (.int .i64) a0), .c (.imm (.sl (.pair (.int .i64) (.pair (.int .i64) (.pair (.int .i64) (.pair (.sl (.pair (.int .i64) (.int .i64))) (.int .i64)))))) a1)], [] => .opt (Bool × (List D6_)) (impl_MergeProofs a0 a1) (fun r => .ret (.tup [.c (.own 900 false), .c (.bool r.1)]) [(900, .sl 70 y6_ r.2 (.deep true .no))])
  | _, _ => .fail

noncomputable def C_impl_MergeProofs : Cfg := { y := tys, n := 101, h := 0, tab := [(13, c_impl_SplitCubes), (31, c_impl_cubesOf), (36, c_impl_LiftStep), (37, c_impl_ClauseOf), (38, c_impl_negations)], cut := [18, 27], hand := [], good := [], deep := [65, 94], sched := [] }

theorem t_impl_MergeProofs : TabOk Try.prog C_impl_MergeProofs := by
  refine tabOk_of ?_
  simp only [C_impl_MergeProofs, List.forall_mem_cons]
  exact ⟨k_impl_SplitCubes, k_impl_cubesOf, k_impl_LiftStep, k_impl_ClauseOf, k_impl_negations, fun p h => by cases h⟩

theorem k_impl_MergeProofs : Entry Try.prog 17 c_impl_MergeProofs := by
 refine entry_by (C := C_impl_MergeProofs) mixed tys_ok t_impl_MergeProofs (fn := Try.f17) (c := bd Try.f17) (by kernel_rfl) (by kernel_rfl) (by kernel_rfl) (by kernel_rfl) ?_
 intro args st k he
 unfold c_impl_MergeProofs at he
 split at he
 rotate_left
 ·exact he.elim
 rename_i a0 a1
 have he : Ok (impl_MergeProofs a0 a1) (fun r => k (.tup [.c (.own 900 false), .c (.bool r.1)]) [(900, .sl 70 y6_ r.2 (.deep true .no))]) := he
 refine ⟨rfl, rfl, ?_⟩
 refine go_bind he fun r1_ he => ?_
 refine go_if2 he (fun he => ?_) fun he => ?_
 ·refine go_if he (fun he => ?_) fun he => ?_
  ·have he := ok_some he
   exact ⟨rfl, _, _, (leads_ren [] (l := [(4, .c (.own 900 false)), (5, .c (.bool false))]) (st' := [(900, .sl 70 y6_ ([] : List D6_) (.deep true .no))]) rfl rfl ⟨trivial, trivial⟩ ⟨⟨rfl, trivial⟩, .inr rfl, trivial⟩), he⟩
  ·refine seq_model mixed tys_ok t_impl_MergeProofs (S := (List D6_)) (I := (fun i7 => (envOf [(0, .c (.imm y0_ a0)), (8, .c (.own 10003000 false))], [(10003000, .sl 70 y6_ i7 (.deep true .no))]))) (B := fun s => Ok (impl_MergeProofs_j1 a0 s) (fun r => k (.tup [.c (.own 900 false), .c (.bool r.1)]) [(900, .sl 70 y6_ r.2 (.deep true .no))])) ?_ ?_
   ·rintro i7 he
    refine seq_model mixed tys_ok t_impl_MergeProofs (S := (List D6_)) (I := (fun i16 => (envOf [(8, .c (.own 10007000 false))], [(10007000, .sl 70 y6_ i16 (.deep true .no))]))) (B := fun s => Ok (impl_MergeProofs_j2 s) (fun r => k (.tup [.c (.own 900 false), .c (.bool r.1)]) [(900, .sl 70 y6_ r.2 (.deep true .no))])) ?_ ?_
    ·rintro i16 he
     refine go_if he (fun he => ?_) fun he => ?_
     ·have he := ok_some he
      exact ⟨rfl, _, _, (leads_ren [] (l := [(4, .c (.own 900 false)), (5, .c (.bool false))]) (st' := [(900, .sl 70 y6_ ([] : List D6_) (.deep true .no))]) rfl rfl ⟨trivial, trivial⟩ ⟨⟨rfl, trivial⟩, .inr rfl, trivial⟩), he⟩
     ·have he := ok_some he
      exact ⟨rfl, _, _, (leads_ren [(900, 10007000)] (l := [(4, .c (.own 900 false)), (5, .c (.bool true))]) (st' := [(900, .sl 70 y6_ i16 (.deep true .no))]) rfl rfl ⟨⟨rfl, rfl⟩, trivial⟩ ⟨⟨⟨rfl, rfl⟩, trivial⟩, .inr rfl, trivial⟩), he⟩
    ·skip
     refine go_rq he fun he => ?_
     refine loop_model mixed tys_ok t_impl_MergeProofs (S := Int × (List D6_)) (I := (fun (i8, i12) => (envOf [(0, .c (.imm y0_ a0)), (8, .c (.own 10004000 false)), (15, .c (.int .i64 i8))], [(10004000, .sl 70 y6_ i12 (.deep true .no))]))) (f := impl_MergeProofs_l1 a0) (K := (fun r => k (.tup [.c (.own 900 false), .c (.bool r.1)]) [(900, .sl 70 y6_ r.2 (.deep true .no))])) he (leads_ren [(10004000, 10003000)] rfl rfl ⟨⟨rfl, rfl⟩, trivial⟩ ⟨.inl rfl, ⟨⟨rfl, rfl⟩, trivial⟩, rfl, trivial⟩) ?_
     rintro ⟨i8, i12⟩ J1 he
     refine go_if he (fun he => ?_) fun he => ?_
     ·refine go_rq he fun he => ?_
      refine go_bind he fun r11_ he => ?_
      refine loop_model mixed tys_ok t_impl_MergeProofs (S := Int × (List D6_) × (List (List Int))) (I := (fun (i13, i14, i15) => (envOf [(0, .c (.imm y0_ a0)), (8, .c (.own 10006000 false)), (15, .c (.int .i64 i8)), (79, .c (.own 10006001 false)), (80, .c (.int .i64 (r11_.length:Int))), (81, .c (.int .i64 i13))], [(10006000, .sl 70 y6_ i14 (.deep true .no)), (10006001, .sl 24 (.sl y0_) i15 (.deep true .no))]))) (f := impl_MergeProofs_l2 i8 r11_) (K := (LK J1 (fun r => k (.tup [.c (.own 900 false), .c (.bool r.1)]) [(900, .sl 70 y6_ r.2 (.deep true .no))]))) he (leads_ren [(10006000, 10004000), (10006001, 80900)] rfl rfl ⟨⟨rfl, rfl⟩, ⟨rfl, rfl⟩, trivial⟩ ⟨.inl rfl, ⟨⟨rfl, rfl⟩, trivial⟩, rfl, ⟨⟨rfl, rfl⟩, trivial⟩, rfl, rfl, trivial⟩) ?_
      rintro ⟨i13, i14, i15⟩ J2 he
      refine go_if he (fun he => ?_) fun he => ?_
      ·refine go_rq he fun he => ?_
       refine go_bind he fun r14_ he => ?_
       refine go_bind he fun r15_ he => ?_
       refine go_rq he fun he => ?_
       refine go_rq he fun he => ?_
       have he := ok_some he
       exact ⟨((i13 + (1:Int)), (i14 ++ [((7:Int), ((0:Int), ((0:Int), (r15_.2.2, r15_.2.1))))]), (i15.set i13.toNat (i15.getD i13.toNat []))), he, ((leads_close [10006001] rfl).trans (leads_ren [(10006000, 95)] (l := [(0, .c (.imm y0_ a0)), (8, .c (.own 10006000 false)), (15, .c (.int .i64 i8)), (79, .c (.own 10006001 false)), (80, .c (.int .i64 (r11_.length:Int))), (81, .c (.int .i64 (i13 + (1:Int))))]) (st' := [(10006000, .sl 70 y6_ (i14 ++ [((7:Int), ((0:Int), ((0:Int), (r15_.2.2, r15_.2.1))))]) (.deep true .no)), (10006001, .sl 24 (.sl y0_) (i15.set i13.toNat (i15.getD i13.toNat [])) (.deep true .no))]) rfl rfl (by exact ⟨⟨rfl, rfl⟩, ⟨rfl, rfl⟩, trivial⟩) (by exact ⟨.inl rfl, ⟨⟨rfl, rfl⟩, trivial⟩, rfl, ⟨⟨rfl, rfl⟩, trivial⟩, rfl, rfl, trivial⟩)))⟩
      ·refine go_rq he fun he => ?_
       have he := ok_some he
       exact ⟨((i8 - (1:Int)), i14), he, (leads_ren [(10004000, 10006000)] rfl rfl ⟨⟨rfl, rfl⟩, trivial⟩ ⟨.inl rfl, ⟨⟨rfl, rfl⟩, trivial⟩, rfl, trivial⟩)⟩
     ·exact ⟨i12, ok_up he, (leads_ren [(10007000, 10004000)] rfl rfl ⟨⟨rfl, rfl⟩, trivial⟩ ⟨⟨⟨rfl, rfl⟩, trivial⟩, trivial⟩)⟩
   ·skip
    refine loop_model mixed tys_ok t_impl_MergeProofs (S := Int × (List D6_) × (List (List Int))) (I := (fun (i, i3, i4) => (envOf [(0, .c (.imm y0_ a0)), (1, .c (.imm (.sl y6_) a1)), (8, .c (.own 10000000 false)), (34, .c (.own 10000001 false)), (35, .c (.int .i64 (r1_.2.length:Int))), (36, .c (.int .i64 i))], [(10000000, .sl 70 y6_ i3 (.deep true .no)), (10000001, .sl 24 (.sl y0_) i4 (.deep true .no))]))) (f := impl_MergeProofs_l3 a0 a1 r1_) (K := (fun r => k (.tup [.c (.own 900 false), .c (.bool r.1)]) [(900, .sl 70 y6_ r.2 (.deep true .no))])) he (leads_ren [(10000001, 23900)] rfl rfl ⟨trivial, ⟨rfl, rfl⟩, trivial⟩ ⟨.inl rfl, .inl rfl, ⟨rfl, trivial⟩, ⟨⟨rfl, rfl⟩, trivial⟩, rfl, rfl, trivial⟩) ?_
    rintro ⟨i, i3, i4⟩ J1 he
    refine go_if he (fun he => ?_) fun he => ?_
    ·refine go_rq he fun he => ?_
     refine go_rq he fun he => ?_
     refine go_if he (fun he => ?_) fun he => ?_
     ·have he := ok_some he
      exact ⟨rfl, _, _, ((leads_close [10000001] rfl).trans (leads_ren [] (l := [(4, .c (.own 900 false)), (5, .c (.bool false))]) (st' := [(900, .sl 70 y6_ ([] : List D6_) (.deep true .no))]) rfl rfl (by exact ⟨trivial, trivial⟩) (by exact ⟨⟨rfl, trivial⟩, .inr rfl, trivial⟩))), he⟩
     ·refine go_rq he fun he => ?_
      refine loop_model mixed tys_ok t_impl_MergeProofs (S := Int × (List D6_)) (I := (fun (i5, i6) => (envOf [(0, .c (.imm y0_ a0)), (1, .c (.imm (.sl y6_) a1)), (8, .c (.own 10002000 false)), (10, .c (.own 41000 false)), (34, .c (.own 10000001 false)), (35, .c (.int .i64 (r1_.2.length:Int))), (36, .c (.int .i64 i)), (50, .c (.imm y6_ (a1.getD i.toNat []))), (51, .c (.int .i64 ((a1.getD i.toNat []).length:Int))), (52, .c (.int .i64 i5))], [(41000, .sl 0 y0_ (i4.getD i.toNat []) (.deep false .no)), (10000001, .sl 24 (.sl y0_) i4 (.deep true (.at i.toNat 0 1 41000))), (10002000, .sl 70 y6_ i6 (.deep true .no))]))) (f := impl_MergeProofs_l4 a1 i i4) (K := (LK J1 (fun r => k (.tup [.c (.own 900 false), .c (.bool r.1)]) [(900, .sl 70 y6_ r.2 (.deep true .no))]))) he (leads_ren [(10002000, 10000000)] rfl rfl ⟨⟨rfl, rfl⟩, ⟨rfl, rfl⟩, ⟨rfl, rfl⟩, trivial⟩ ⟨.inl rfl, .inl rfl, ⟨⟨rfl, rfl⟩, trivial⟩, ⟨⟨rfl, rfl⟩, trivial⟩, ⟨⟨rfl, rfl⟩, trivial⟩, rfl, rfl, .inl rfl, rfl, rfl, trivial⟩) ?_
      rintro ⟨i5, i6⟩ J2 he
      refine go_if he (fun he => ?_) fun he => ?_
      ·refine go_rq he fun he => ?_
       refine go_bind he fun r5_ he => ?_
       refine go_if he (fun he => ?_) fun he => ?_
       ·refine go_rq he fun he => ?_
        refine go_rq he fun he => ?_
        have he := ok_some he
        exact ⟨((i5 + (1:Int)), (i6 ++ [(r5_.2.1, (r5_.2.2.1, (r5_.2.2.2.1, (r5_.2.2.2.2.2, r5_.2.2.2.2.1))))])), he, (leads_ren [(10002000, 66)] rfl rfl ⟨⟨rfl, rfl⟩, ⟨rfl, rfl⟩, ⟨rfl, rfl⟩, trivial⟩ ⟨.inl rfl, .inl rfl, ⟨⟨rfl, rfl⟩, trivial⟩, ⟨⟨rfl, rfl⟩, trivial⟩, ⟨⟨rfl, rfl⟩, trivial⟩, rfl, rfl, .inl rfl, rfl, rfl, trivial⟩)⟩
       ·refine go_rq he fun he => ?_
        have he := ok_some he
        exact ⟨((i5 + (1:Int)), i6), he, (leads_ren [] rfl rfl ⟨⟨rfl, rfl⟩, ⟨rfl, rfl⟩, ⟨rfl, rfl⟩, trivial⟩ ⟨.inl rfl, .inl rfl, ⟨⟨rfl, rfl⟩, trivial⟩, ⟨⟨rfl, rfl⟩, trivial⟩, ⟨⟨rfl, rfl⟩, trivial⟩, rfl, rfl, .inl rfl, rfl, rfl, trivial⟩)⟩
      ·refine go_rq he fun he => ?_
       have he := ok_some he
       exact ⟨((i + (1:Int)), i6, (i4.set i.toNat (i4.getD i.toNat []))), he, ((leads_close [10000001] rfl).trans (leads_ren [(10000000, 10002000)] (l := [(0, .c (.imm y0_ a0)), (1, .c (.imm (.sl y6_) a1)), (8, .c (.own 10000000 false)), (34, .c (.own 10000001 false)), (35, .c (.int .i64 (r1_.2.length:Int))), (36, .c (.int .i64 (i + (1:Int))))]) (st' := [(10000000, .sl 70 y6_ i6 (.deep true .no)), (10000001, .sl 24 (.sl y0_) (i4.set i.toNat (i4.getD i.toNat [])) (.deep true .no))]) rfl rfl (by exact ⟨⟨rfl, rfl⟩, ⟨rfl, rfl⟩, trivial⟩) (by exact ⟨.inl rfl, .inl rfl, ⟨⟨rfl, rfl⟩, trivial⟩, ⟨⟨rfl, rfl⟩, trivial⟩, rfl, rfl, trivial⟩)))⟩
    ·exact ⟨i3, ok_up he, (leads_ren [(10003000, 10000000)] rfl rfl ⟨⟨rfl, rfl⟩, trivial⟩ ⟨.inl rfl, ⟨⟨rfl, rfl⟩, trivial⟩, trivial⟩)⟩
 ·have he := ok_some he
  exact ⟨rfl, _, _, (leads_ren [] (l := [(4, .c (.own 900 false)), (5, .c (.bool false))]) (st' := [(900, .sl 70 y6_ ([] : List D6_) (.deep true .no))]) rfl rfl ⟨trivial, trivial⟩ ⟨⟨rfl, trivial⟩, .inr rfl, trivial⟩), he⟩

noncomputable def c_impl_SolveCubes : Con := fun args st => match args, st with
  | [.c (.imm (.pair (.sl (.pair (.int .i64) (.int .i64))) (.int .i64)) a0), .c (.imm (.int .i64) a1), .c (.int .i64 a2)], [] => .opt (Int × (List Bool) × (List D6_)) (impl_SolveCubes a0 a1 a2) (fun r => .ret (.tup [.c (.int .i64 r.1), .c (.own 900 false), .c (.own 901 false)]) [(900, .sl 4 .bool r.2.1 .shallow), (901, .sl 70 y6_ r.2.2 (.deep true .no))])
  | _, _ => .fail

noncomputable def C_impl_SolveCubes : Cfg := { y := tys, n := 82, h := 0, tab := [(7, c_impl_SolveProblem), (13, c_impl_SplitCubes), (14, c_impl_ProblemValid), (15, c_impl_isFuel), (16, c_impl_CubeProblem), (17, c_impl_MergeProofs)], cut := [14], hand := [], good := [], deep := [70], sched := [] }

theorem t_impl_SolveCubes : TabOk Try.prog C_impl_SolveCubes := by
  refine tabOk_of ?_
  simp only [C_impl_SolveCubes, List.forall_mem_cons]
  exact ⟨k_impl_SolveProblem, k_impl_SplitCubes, k_impl_ProblemValid, k_impl_isFuel, k_impl_CubeProblem, k_impl_MergeProofs, fun p h => by cases h⟩

theorem k_impl_SolveCubes : Entry Try.prog 5 c_impl_SolveCubes := by
 refine entry_by (C := C_impl_SolveCubes) mixed tys_ok t_impl_SolveCubes (fn := Try.f5) (c := bd Try.f5) (by kernel_rfl) (by kernel_rfl) (by kernel_rfl) (by kernel_rfl) ?_
 intro args st k he
 unfold c_impl_SolveCubes at he
 split at he
 rotate_left
 ·exact he.elim
 rename_i a0 a1 a2
 have he : Ok (impl_SolveCubes a0 a1 a2) (fun r => k (.tup [.c (.int .i64 r.1), .c (.own 900 false), .c (.own 901 false)]) [(900, .sl 4 .bool r.2.1 .shallow), (901, .sl 70 y6_ r.2.2 (.deep true .no))]) := he
 refine ⟨rfl, rfl, ?_⟩
 refine go_bind he fun r1_ he => ?_
 refine go_if2 he (fun he => ?_) fun he => ?_
 ·refine go_bind he fun r2_ he => ?_
  refine go_if2 he (fun he => ?_) fun he => ?_
  ·refine go_bind he fun r3_ he => ?_
   refine go_if2 he (fun he => ?_) fun he => ?_
   ·refine go_rq he fun he => ?_
    refine go_if he (fun he => ?_) fun he => ?_
    ·have he := ok_some he
     exact ⟨rfl, _, _, (leads_ren [] (l := [(6, .c (.int .i64 (3:Int))), (7, .c (.own 900 false)), (8, .c (.own 901 false))]) (st' := [(900, .sl 4 .bool ([] : List Bool) .shallow), (901, .sl 70 y6_ ([] : List D6_) (.deep true .no))]) rfl rfl ⟨trivial, trivial, trivial⟩ ⟨rfl, ⟨rfl, trivial⟩, ⟨rfl, trivial⟩, trivial⟩), he⟩
    ·refine seq_model mixed tys_ok t_impl_SolveCubes (S := (List (List D6_))) (I := (fun i3 => (envOf [(1, .c (.imm y0_ a1)), (11, .c (.own 10001000 false))], [(10001000, .sl 28 (.sl y6_) i3 (.deep true .no))]))) (B := fun s => Ok (impl_SolveCubes_j1 a1 s) (fun r => k (.tup [.c (.int .i64 r.1), .c (.own 900 false), .c (.own 901 false)]) [(900, .sl 4 .bool r.2.1 .shallow), (901, .sl 70 y6_ r.2.2 (.deep true .no))])) ?_ ?_
     ·rintro i3 he
      refine go_bind he fun r8_ he => ?_
      refine go_if he (fun he => ?_) fun he => ?_
      ·have he := ok_some he
       exact ⟨rfl, _, _, (leads_ren [] (l := [(6, .c (.int .i64 (0:Int))), (7, .c (.own 900 false)), (8, .c (.own 901 false))]) (st' := [(900, .sl 4 .bool ([] : List Bool) .shallow), (901, .sl 70 y6_ ([] : List D6_) (.deep true .no))]) rfl rfl ⟨trivial, trivial, trivial⟩ ⟨rfl, ⟨rfl, trivial⟩, ⟨rfl, trivial⟩, trivial⟩), he⟩
      ·have he := ok_some he
       exact ⟨rfl, _, _, (leads_ren [(901, 77900)] (l := [(6, .c (.int .i64 (2:Int))), (7, .c (.own 900 false)), (8, .c (.own 901 false))]) (st' := [(900, .sl 4 .bool ([] : List Bool) .shallow), (901, .sl 70 y6_ r8_.2 (.deep true .no))]) rfl rfl ⟨trivial, ⟨rfl, rfl⟩, trivial⟩ ⟨rfl, ⟨rfl, trivial⟩, ⟨⟨rfl, rfl⟩, trivial⟩, trivial⟩), he⟩
     ·skip
      refine loop_model mixed tys_ok t_impl_SolveCubes (S := Int × (List (List D6_)) × (List (List Int))) (I := (fun (i, i1, i2) => (envOf [(0, .c (.imm y3_ a0)), (1, .c (.imm y0_ a1)), (2, .c (.int .i64 a2)), (11, .c (.own 10000000 false)), (45, .c (.own 10000001 false)), (46, .c (.int .i64 (r1_.2.length:Int))), (47, .c (.int .i64 i))], [(10000000, .sl 28 (.sl y6_) i1 (.deep true .no)), (10000001, .sl 24 (.sl y0_) i2 (.deep true .no))]))) (f := impl_SolveCubes_l1 a0 a1 a2 r1_) (K := (fun r => k (.tup [.c (.int .i64 r.1), .c (.own 900 false), .c (.own 901 false)]) [(900, .sl 4 .bool r.2.1 .shallow), (901, .sl 70 y6_ r.2.2 (.deep true .no))])) he (leads_ren [(10000001, 23900)] rfl rfl ⟨trivial, ⟨rfl, rfl⟩, trivial⟩ ⟨.inl rfl, .inl rfl, rfl, ⟨rfl, trivial⟩, ⟨⟨rfl, rfl⟩, trivial⟩, rfl, rfl, trivial⟩) ?_
      rintro ⟨i, i1, i2⟩ J1 he
      refine go_if he (fun he => ?_) fun he => ?_
      ·refine go_rq he fun he => ?_
       refine go_bind he fun r6_ he => ?_
       refine go_bind he fun r7_ he => ?_
       refine go_if he (fun he => ?_) fun he => ?_
       ·have he := ok_some he
        exact ⟨rfl, _, _, ((leads_close [10000001] rfl).trans (leads_ren [(900, 61900)] (l := [(6, .c (.int .i64 r7_.1)), (7, .c (.own 900 false)), (8, .c (.own 901 false))]) (st' := [(900, .sl 4 .bool r7_.2.1 .shallow), (901, .sl 70 y6_ ([] : List D6_) (.deep true .no))]) rfl rfl (by exact ⟨⟨rfl, rfl⟩, trivial, trivial⟩) (by exact ⟨rfl, ⟨⟨rfl, rfl⟩, trivial⟩, ⟨rfl, trivial⟩, trivial⟩))), he⟩
       ·refine go_rq he fun he => ?_
        refine go_rq he fun he => ?_
        have he := ok_some he
        exact ⟨((i + (1:Int)), (i1 ++ [r7_.2.2]), (i2.set i.toNat (i2.getD i.toNat []))), he, ((leads_close [10000001] rfl).trans (leads_ren [(10000000, 71)] (l := [(0, .c (.imm y3_ a0)), (1, .c (.imm y0_ a1)), (2, .c (.int .i64 a2)), (11, .c (.own 10000000 false)), (45, .c (.own 10000001 false)), (46, .c (.int .i64 (r1_.2.length:Int))), (47, .c (.int .i64 (i + (1:Int))))]) (st' := [(10000000, .sl 28 (.sl y6_) (i1 ++ [r7_.2.2]) (.deep true .no)), (10000001, .sl 24 (.sl y0_) (i2.set i.toNat (i2.getD i.toNat [])) (.deep true .no))]) rfl rfl (by exact ⟨⟨rfl, rfl⟩, ⟨rfl, rfl⟩, trivial⟩) (by exact ⟨.inl rfl, .inl rfl, rfl, ⟨⟨rfl, rfl⟩, trivial⟩, ⟨⟨rfl, rfl⟩, trivial⟩, rfl, rfl, trivial⟩)))⟩
      ·exact ⟨i1, ok_up he, (leads_ren [(10001000, 10000000)] rfl rfl ⟨⟨rfl, rfl⟩, trivial⟩ ⟨.inl rfl, ⟨⟨rfl, rfl⟩, trivial⟩, trivial⟩)⟩
   ·have he := ok_some he
    exact ⟨rfl, _, _, (leads_ren [] (l := [(6, .c (.int .i64 (3:Int))), (7, .c (.own 900 false)), (8, .c (.own 901 false))]) (st' := [(900, .sl 4 .bool ([] : List Bool) .shallow), (901, .sl 70 y6_ ([] : List D6_) (.deep true .no))]) rfl rfl ⟨trivial, trivial, trivial⟩ ⟨rfl, ⟨rfl, trivial⟩, ⟨rfl, trivial⟩, trivial⟩), he⟩
  ·have he := ok_some he
   exact ⟨rfl, _, _, (leads_ren [] (l := [(6, .c (.int .i64 (3:Int))), (7, .c (.own 900 false)), (8, .c (.own 901 false))]) (st' := [(900, .sl 4 .bool ([] : List Bool) .shallow), (901, .sl 70 y6_ ([] : List D6_) (.deep true .no))]) rfl rfl ⟨trivial, trivial, trivial⟩ ⟨rfl, ⟨rfl, trivial⟩, ⟨rfl, trivial⟩, trivial⟩), he⟩
 ·have he := ok_some he
  exact ⟨rfl, _, _, (leads_ren [] (l := [(6, .c (.int .i64 (3:Int))), (7, .c (.own 900 false)), (8, .c (.own 901 false))]) (st' := [(900, .sl 4 .bool ([] : List Bool) .shallow), (901, .sl 70 y6_ ([] : List D6_) (.deep true .no))]) rfl rfl ⟨trivial, trivial, trivial⟩ ⟨rfl, ⟨rfl, trivial⟩, ⟨rfl, trivial⟩, trivial⟩), he⟩

noncomputable def c_spec_l1Lit : Con := fun args st => match args, st with
  | [.c (.int .i64 n)], [] => .opt (Bool) (spec_l1Lit n) (fun r => .ret (.c (.bool r)) [])
  | _, _ => .fail

noncomputable def C_spec_l1Lit : Cfg := { y := tys, n := 13, h := 0, tab := [], cut := [], hand := [], good := [], deep := [], sched := [] }

theorem t_spec_l1Lit : TabOk Try.prog C_spec_l1Lit := tabOk_of (fun p h => by cases h)

theorem k_spec_l1Lit : Entry Try.prog 61 c_spec_l1Lit := by
 refine entry_by (C := C_spec_l1Lit) mixed tys_ok t_spec_l1Lit (fn := Try.f61) (c := bd Try.f61) (by kernel_rfl) (by kernel_rfl) (by kernel_rfl) (by kernel_rfl) ?_
 intro args st k he
 unfold c_spec_l1Lit at he
 split at he
 rotate_left
 ·exact he.elim
 rename_i n
 have he : Ok (spec_l1Lit n) (fun r => k (.c (.bool r)) []) := he
 refine ⟨rfl, rfl, ?_⟩
 refine go_if he (fun he => ?_) fun he => ?_
 ·refine go_if he (fun he => ?_) fun he => ?_
  ·have he := ok_some he
   exact ⟨rfl, _, _, Leads.refl _ _, he⟩
  ·have he := ok_some he
   exact ⟨rfl, _, _, Leads.refl _ _, he⟩
 ·have he := ok_some he
  exact ⟨rfl, _, _, Leads.refl _ _, he⟩

noncomputable def c_spec_l1Abs : Con := fun args st => match args, st with
  | [.c (.int .i64 n)], [] => .opt (Int) (spec_l1Abs n) (fun r => .ret (.c (.int .i64 r)) [])
  | _, _ => .fail

noncomputable def C_spec_l1Abs : Cfg := { y := tys, n := 8, h := 0, tab := [], cut := [], hand := [], good := [], deep := [], sched := [] }

theorem t_spec_l1Abs : TabOk Try.prog C_spec_l1Abs := tabOk_of (fun p h => by cases h)

theorem k_spec_l1Abs : Entry Try.prog 62 c_spec_l1Abs := by
 refine entry_by (C := C_spec_l1Abs) mixed tys_ok t_spec_l1Abs (fn := Try.f62) (c := bd Try.f62) (by kernel_rfl) (by kernel_rfl) (by kernel_rfl) (by kernel_rfl) ?_
 intro args st k he
 unfold c_spec_l1Abs at he
 split at he
 rotate_left
 ·exact he.elim
 rename_i n
 have he : Ok (spec_l1Abs n) (fun r => k (.c (.int .i64 r)) []) := he
 refine ⟨rfl, rfl, ?_⟩
 refine go_if he (fun he => ?_) fun he => ?_
 ·refine go_rq he fun he => ?_
  have he := ok_some he
  exact ⟨rfl, _, _, Leads.refl _ _, he⟩
 ·have he := ok_some he
  exact ⟨rfl, _, _, Leads.refl _ _, he⟩

noncomputable def c_spec_ConstraintValid : Con := fun args st => match args, st with
  | [.agg [.imm (.pair (.int .i64) (.int .i64)) c__0, .int .i64 c__1]], [] => .opt (Bool) (spec_ConstraintValid (c__0, c__1)) (fun r => .ret (.c (.bool r)) [])
  | _, _ => .fail

noncomputable def C_spec_ConstraintValid : Cfg := { y := tys, n := 57, h := 0, tab := [(61, c_spec_l1Lit), (62, c_spec_l1Abs)], cut := [], hand := [], good := [], deep := [], sched := [(5, (.first 0 (.alt 1 (.alt 2 (.first 3 (.first 4 (.first 5 (.alt 6 (.first 7 (.first 8 (.first 9 (.first 10 (.alt 11 (.first 12 (.first 13 (.first 14 (.first 15 (.first 16 (.first 17 (.first 18 (.first 20 (.first 21 (.first 26 (.alt 19 (.first 22 (.first 23 (.first 24 (.alt 25 (.alt 27 (.alt 28 (.first 29 (.first 30 (.first 31 .done))) .stop) .stop) (.alt 27 (.alt 25 (.alt 28 (.first 29 (.first 30 (.first 31 .done))) .stop) .stop) .stop))))) (.alt 27 (.alt 19 (.first 22 (.first 23 (.first 24 (.alt 25 (.alt 28 (.first 29 (.first 30 (.first 31 .done))) .stop) .stop)))) .stop) .stop)))))))))))) .stop))))) .stop)))) .stop) .stop)))] }

theorem t_spec_ConstraintValid : TabOk Try.prog C_spec_ConstraintValid := by
  refine tabOk_of ?_
  simp only [C_spec_ConstraintValid, List.forall_mem_cons]
  exact ⟨k_spec_l1Lit, k_spec_l1Abs, fun p h => by cases h⟩

theorem k_spec_ConstraintValid : Entry Try.prog 39 c_spec_ConstraintValid := by
 refine entry_by (C := C_spec_ConstraintValid) mixed tys_ok t_spec_ConstraintValid (fn := Try.f39) (c := bd Try.f39) (by kernel_rfl) (by kernel_rfl) (by kernel_rfl) (by kernel_rfl) ?_
 intro args st k he
 unfold c_spec_ConstraintValid at he
 split at he
 rotate_left
 ·exact he.elim
 rename_i c__0 c__1
 have he : Ok (spec_ConstraintValid (c__0, c__1)) (fun r => k (.c (.bool r)) []) := he
 refine ⟨rfl, rfl, ?_⟩
 refine loop_model mixed tys_ok t_spec_ConstraintValid (S := Int) (I := (fun i => (envOf [(1, .c (.ptr 10000000 0)), (3, .c (.int .i64 i))], [(10000000, .rc [.imm y2_ (c__0, c__1).1, .int .i64 (c__0, c__1).2])]))) (f := spec_ConstraintValid_l1 (c__0, c__1)) (K := (fun r => k (.c (.bool r)) [])) he (leads_ren [(10000000, 1)] rfl rfl ⟨⟨.inl rfl, rfl, trivial⟩, trivial⟩ ⟨⟨⟨rfl, rfl⟩, rfl⟩, rfl, trivial⟩) ?_
 rintro i J1 he
 refine go_if he (fun he => ?_) fun he => ?_
 ·refine go_rq he fun he => ?_
  refine And.intro (by kernel_rfl) ?_
  refine And.intro ?_ trivial
  refine And.intro ?_ trivial
  refine go_bind he fun r4_ he => ?_
  refine go_if2 he (fun he => ?_) fun he => ?_
  ·refine And.intro ?_ trivial
   refine go_if2 he (fun he => ?_) fun he => ?_
   ·refine And.intro ?_ trivial
    refine go_if2 he (fun he => ?_) fun he => ?_
    ·refine go_if he (fun he => ?_) fun he => ?_
     ·refine go_rq he fun he => ?_
      have he := ok_rq he
      have hq1 := he.1
      have he := he.2
      obtain ⟨r5_, hq2, he⟩ := ok_bind he
      obtain ⟨r6_, hq3, he⟩ := ok_bind he
      refine And.intro ?_ (And.intro ?_ (trivial))
      ·skip
       refine And.intro hq1 ?_
       refine And.intro ?_ (And.intro ?_ (trivial))
       ·skip
        refine ⟨r5_, hq2, ?_⟩
        refine And.intro ?_ trivial
        refine And.intro ?_ trivial
        refine ⟨r6_, hq3, ?_⟩
        refine go_if he (fun he => ?_) fun he => ?_
        ·have he := ok_some he
         exact ⟨rfl, _, _, (leads_ren [] (l := [(2, .c (.bool false))]) (st' := []) rfl rfl trivial ⟨.inr rfl, trivial⟩), he⟩
        ·refine go_rq he fun he => ?_
         have he := ok_some he
         exact ⟨(i + (1:Int)), he, (leads_ren [] rfl rfl ⟨⟨.inl rfl, rfl, trivial⟩, trivial⟩ ⟨⟨⟨rfl, rfl⟩, rfl⟩, rfl, trivial⟩)⟩
       ·skip
        refine And.intro ?_ trivial
        refine ⟨r5_, hq2, ?_⟩
        refine And.intro ?_ trivial
        refine ⟨r6_, hq3, ?_⟩
        refine go_if he (fun he => ?_) fun he => ?_
        ·have he := ok_some he
         exact ⟨rfl, _, _, (leads_ren [] (l := [(2, .c (.bool false))]) (st' := []) rfl rfl trivial ⟨.inr rfl, trivial⟩), he⟩
        ·refine go_rq he fun he => ?_
         have he := ok_some he
         exact ⟨(i + (1:Int)), he, (leads_ren [] rfl rfl ⟨⟨.inl rfl, rfl, trivial⟩, trivial⟩ ⟨⟨⟨rfl, rfl⟩, rfl⟩, rfl, trivial⟩)⟩
      ·skip
       refine And.intro ?_ trivial
       refine And.intro hq1 ?_
       refine And.intro ?_ trivial
       refine ⟨r5_, hq2, ?_⟩
       refine And.intro ?_ trivial
       refine ⟨r6_, hq3, ?_⟩
       refine go_if he (fun he => ?_) fun he => ?_
       ·have he := ok_some he
        exact ⟨rfl, _, _, (leads_ren [] (l := [(2, .c (.bool false))]) (st' := []) rfl rfl trivial ⟨.inr rfl, trivial⟩), he⟩
       ·refine go_rq he fun he => ?_
        have he := ok_some he
        exact ⟨(i + (1:Int)), he, (leads_ren [] rfl rfl ⟨⟨.inl rfl, rfl, trivial⟩, trivial⟩ ⟨⟨⟨rfl, rfl⟩, rfl⟩, rfl, trivial⟩)⟩
     ·refine And.intro ?_ (And.intro ?_ (trivial))
      ·skip
       refine And.intro ?_ (And.intro ?_ (trivial))
       ·skip
        refine And.intro ?_ trivial
        refine And.intro ?_ trivial
        refine go_rq he fun he => ?_
        have he := ok_some he
        exact ⟨(i + (1:Int)), he, (leads_ren [] rfl rfl ⟨⟨.inl rfl, rfl, trivial⟩, trivial⟩ ⟨⟨⟨rfl, rfl⟩, rfl⟩, rfl, trivial⟩)⟩
       ·skip
        refine And.intro ?_ trivial
        refine And.intro ?_ trivial
        refine go_rq he fun he => ?_
        have he := ok_some he
        exact ⟨(i + (1:Int)), he, (leads_ren [] rfl rfl ⟨⟨.inl rfl, rfl, trivial⟩, trivial⟩ ⟨⟨⟨rfl, rfl⟩, rfl⟩, rfl, trivial⟩)⟩
      ·skip
       refine And.intro ?_ trivial
       refine And.intro ?_ trivial
       refine And.intro ?_ trivial
       refine go_rq he fun he => ?_
       have he := ok_some he
       exact ⟨(i + (1:Int)), he, (leads_ren [] rfl rfl ⟨⟨.inl rfl, rfl, trivial⟩, trivial⟩ ⟨⟨⟨rfl, rfl⟩, rfl⟩, rfl, trivial⟩)⟩
    ·refine And.intro ?_ (And.intro ?_ (trivial))
     ·skip
      refine And.intro ?_ (And.intro ?_ (trivial))
      ·skip
       refine And.intro ?_ trivial
       refine And.intro ?_ trivial
       have he := ok_some he
       exact ⟨rfl, _, _, (leads_ren [] (l := [(2, .c (.bool false))]) (st' := []) rfl rfl trivial ⟨.inr rfl, trivial⟩), he⟩
      ·skip
       refine And.intro ?_ trivial
       refine And.intro ?_ trivial
       have he := ok_some he
       exact ⟨rfl, _, _, (leads_ren [] (l := [(2, .c (.bool false))]) (st' := []) rfl rfl trivial ⟨.inr rfl, trivial⟩), he⟩
     ·skip
      refine And.intro ?_ trivial
      refine And.intro ?_ trivial
      refine And.intro ?_ trivial
      have he := ok_some he
      exact ⟨rfl, _, _, (leads_ren [] (l := [(2, .c (.bool false))]) (st' := []) rfl rfl trivial ⟨.inr rfl, trivial⟩), he⟩
   ·refine And.intro ?_ trivial
    refine And.intro ?_ (And.intro ?_ (trivial))
    ·skip
     refine And.intro ?_ (And.intro ?_ (trivial))
     ·skip
      refine And.intro ?_ trivial
      refine And.intro ?_ trivial
      have he := ok_some he
      exact ⟨rfl, _, _, (leads_ren [] (l := [(2, .c (.bool false))]) (st' := []) rfl rfl trivial ⟨.inr rfl, trivial⟩), he⟩
     ·skip
      refine And.intro ?_ trivial
      refine And.intro ?_ trivial
      have he := ok_some he
      exact ⟨rfl, _, _, (leads_ren [] (l := [(2, .c (.bool false))]) (st' := []) rfl rfl trivial ⟨.inr rfl, trivial⟩), he⟩
    ·skip
     refine And.intro ?_ trivial
     refine And.intro ?_ trivial
     refine And.intro ?_ trivial
     have he := ok_some he
     exact ⟨rfl, _, _, (leads_ren [] (l := [(2, .c (.bool false))]) (st' := []) rfl rfl trivial ⟨.inr rfl, trivial⟩), he⟩
  ·refine And.intro ?_ trivial
   refine And.intro ?_ trivial
   refine And.intro ?_ (And.intro ?_ (trivial))
   ·skip
    refine And.intro ?_ (And.intro ?_ (trivial))
    ·skip
     refine And.intro ?_ trivial
     refine And.intro ?_ trivial
     have he := ok_some he
     exact ⟨rfl, _, _, (leads_ren [] (l := [(2, .c (.bool false))]) (st' := []) rfl rfl trivial ⟨.inr rfl, trivial⟩), he⟩
    ·skip
     refine And.intro ?_ trivial
     refine And.intro ?_ trivial
     have he := ok_some he
     exact ⟨rfl, _, _, (leads_ren [] (l := [(2, .c (.bool false))]) (st' := []) rfl rfl trivial ⟨.inr rfl, trivial⟩), he⟩
   ·skip
    refine And.intro ?_ trivial
    refine And.intro ?_ trivial
    refine And.intro ?_ trivial
    have he := ok_some he
    exact ⟨rfl, _, _, (leads_ren [] (l := [(2, .c (.bool false))]) (st' := []) rfl rfl trivial ⟨.inr rfl, trivial⟩), he⟩
 ·refine go_if he (fun he => ?_) fun he => ?_
  ·have he := ok_some he
   exact ⟨rfl, _, _, (leads_ren [] (l := [(2, .c (.bool (decide ((c__0, c__1).2 ≤ (20000:Int)))))]) (st' := []) rfl rfl trivial ⟨.inl rfl, trivial⟩), he⟩
  ·have he := ok_some he
   exact ⟨rfl, _, _, (leads_ren [] (l := [(2, .c (.bool false))]) (st' := []) rfl rfl trivial ⟨.inr rfl, trivial⟩), he⟩

noncomputable def c_spec_ProblemValid : Con := fun args st => match args, st with
  | [.c (.imm (.pair (.sl (.pair (.int .i64) (.int .i64))) (.int .i64)) list_)], [] => .opt (Bool) (spec_ProblemValid list_) (fun r => .ret (.c (.bool r)) [])
  | _, _ => .fail

noncomputable def C_spec_ProblemValid : Cfg := { y := tys, n := 19, h := 0, tab := [(39, c_spec_ConstraintValid)], cut := [], hand := [], good := [], deep := [], sched := [] }

theorem t_spec_ProblemValid : TabOk Try.prog C_spec_ProblemValid := by
  refine tabOk_of ?_
  simp only [C_spec_ProblemValid, List.forall_mem_cons]
  exact ⟨k_spec_ConstraintValid, fun p h => by cases h⟩

theorem k_spec_ProblemValid : Entry Try.prog 18 c_spec_ProblemValid := by
 refine entry_by (C := C_spec_ProblemValid) mixed tys_ok t_spec_ProblemValid (fn := Try.f18) (c := bd Try.f18) (by kernel_rfl) (by kernel_rfl) (by kernel_rfl) (by kernel_rfl) ?_
 intro args st k he
 unfold c_spec_ProblemValid at he
 split at he
 rotate_left
 ·exact he.elim
 rename_i list_
 have he : Ok (spec_ProblemValid list_) (fun r => k (.c (.bool r)) []) := he
 refine ⟨rfl, rfl, ?_⟩
 refine loop_model mixed tys_ok t_spec_ProblemValid (S := Int) (I := (fun i => (envOf [(0, .c (.imm y3_ list_)), (3, .c (.int .i64 i))], []))) (f := spec_ProblemValid_l1 list_) (K := (fun r => k (.c (.bool r)) [])) he (leads_ren [] rfl rfl trivial ⟨.inl rfl, rfl, trivial⟩) ?_
 rintro i J1 he
 refine go_if he (fun he => ?_) fun he => ?_
 ·refine go_rq he fun he => ?_
  refine go_bind he fun r1_ he => ?_
  refine go_if he (fun he => ?_) fun he => ?_
  ·have he := ok_some he
   exact ⟨rfl, _, _, Leads.refl _ _, he⟩
  ·refine go_rq he fun he => ?_
   have he := ok_some he
   exact ⟨(i + (1:Int)), he, (leads_ren [] rfl rfl trivial ⟨.inl rfl, rfl, trivial⟩)⟩
 ·have he := ok_some he
  exact ⟨rfl, _, _, Leads.refl _ _, he⟩

noncomputable def c_spec_l12Vars : Con := fun args st => match args, st with
  | [.c (.imm (.int .i64) vars)], [] => .opt (Bool) (spec_l12Vars vars) (fun r => .ret (.c (.bool r)) [])
  | _, _ => .fail

noncomputable def C_spec_l12Vars : Cfg := { y := tys, n := 41, h := 0, tab := [], cut := [], hand := [], good := [], deep := [], sched := [] }

theorem t_spec_l12Vars : TabOk Try.prog C_spec_l12Vars := tabOk_of (fun p h => by cases h)

theorem k_spec_l12Vars : Entry Try.prog 19 c_spec_l12Vars := by
 refine entry_by (C := C_spec_l12Vars) mixed tys_ok t_spec_l12Vars (fn := Try.f19) (c := bd Try.f19) (by kernel_rfl) (by kernel_rfl) (by kernel_rfl) (by kernel_rfl) ?_
 intro args st k he
 unfold c_spec_l12Vars at he
 split at he
 rotate_left
 ·exact he.elim
 rename_i vars
 have he : Ok (spec_l12Vars vars) (fun r => k (.c (.bool r)) []) := he
 refine ⟨rfl, rfl, ?_⟩
 refine loop_model mixed tys_ok t_spec_l12Vars (S := Int) (I := (fun i => (envOf [(0, .c (.imm y0_ vars)), (3, .c (.int .i64 i))], []))) (f := spec_l12Vars_l1 vars) (K := (fun r => k (.c (.bool r)) [])) he (leads_ren [] rfl rfl trivial ⟨.inl rfl, rfl, trivial⟩) ?_
 rintro i J1 he
 refine go_if he (fun he => ?_) fun he => ?_
 ·refine And.intro (by kernel_rfl) ?_
  refine go_rq he fun he => ?_
  refine go_if2 he (fun he => ?_) fun he => ?_
  ·refine go_rq he fun he => ?_
   refine go_if2 he (fun he => ?_) fun he => ?_
   ·refine go_if he (fun he => ?_) fun he => ?_
    ·refine go_rq he fun he => ?_
     refine go_rq he fun he => ?_
     refine go_rq he fun he => ?_
     refine go_if he (fun he => ?_) fun he => ?_
     ·have he := ok_some he
      exact ⟨rfl, _, _, Leads.refl _ _, he⟩
     ·refine go_rq he fun he => ?_
      have he := ok_some he
      exact ⟨(i + (1:Int)), he, (leads_ren [] rfl rfl trivial ⟨.inl rfl, rfl, trivial⟩)⟩
    ·refine go_rq he fun he => ?_
     have he := ok_some he
     exact ⟨(i + (1:Int)), he, (leads_ren [] rfl rfl trivial ⟨.inl rfl, rfl, trivial⟩)⟩
   ·have he := ok_some he
    exact ⟨rfl, _, _, Leads.refl _ _, he⟩
  ·have he := ok_some he
   exact ⟨rfl, _, _, Leads.refl _ _, he⟩
 ·have he := ok_some he
  exact ⟨rfl, _, _, Leads.refl _ _, he⟩

noncomputable def c_spec_l12Cubes : Con := fun args st => match args, st with
  | [.c (.imm (.int .i64) vars)], [] => .opt ((List (List Int))) (spec_l12Cubes vars) (fun r => .ret (.c (.own 900 false)) [(900, .sl 24 (.sl y0_) r (.deep true .no))])
  | _, _ => .fail

noncomputable def C_spec_l12Cubes : Cfg := { y := tys, n := 55, h := 0, tab := [], cut := [10], hand := [], good := [], deep := [8, 15, 35, 51], sched := [(9, (.first 0 (.first 2 (.first 3 (.first 4 (.first 7 (.first 8 (.first 9 (.first 10 (.alt 1 (.alt 5 (.alt 6 (.alt 11 (.alt 12 (.alt 13 (.alt 14 (.first 15 .done) .stop) .stop) .stop) .stop) (.alt 11 (.alt 6 (.alt 12 (.alt 13 (.alt 14 (.first 15 .done) .stop) .stop) .stop) .stop) .stop)) (.alt 11 (.alt 5 (.alt 6 (.alt 12 (.alt 13 (.alt 14 (.first 15 .done) .stop) .stop) .stop) .stop) .stop) .stop)) (.alt 5 (.alt 1 (.alt 6 (.alt 11 (.alt 12 (.alt 13 (.alt 14 (.first 15 .done) .stop) .stop) .stop) .stop) (.alt 11 (.alt 6 (.alt 12 (.alt 13 (.alt 14 (.first 15 .done) .stop) .stop) .stop) .stop) .stop)) (.alt 11 (.alt 1 (.alt 6 (.alt 12 (.alt 13 (.alt 14 (.first 15 .done) .stop) .stop) .stop) .stop) .stop) .stop)) (.alt 11 (.alt 1 (.alt 5 (.alt 6 (.alt 12 (.alt 13 (.alt 14 (.first 15 .done) .stop) .stop) .stop) .stop) .stop) (.alt 5 (.alt 1 (.alt 6 (.alt 12 (.alt 13 (.alt 14 (.first 15 .done) .stop) .stop) .stop) .stop) .stop) .stop)) .stop)))))))))))), (10, (.first 0 (.first 2 (.first 3 (.first 4 (.first 7 (.first 8 (.first 9 (.first 10 (.first 11 (.alt 1 (.alt 5 (.alt 6 (.alt 12 (.alt 13 (.alt 14 (.alt 15 (.first 16 .done) .stop) .stop) .stop) .stop) (.alt 12 (.alt 6 (.alt 13 (.alt 14 (.alt 15 (.first 16 .done) .stop) .stop) .stop) .stop) .stop)) (.alt 12 (.alt 5 (.alt 6 (.alt 13 (.alt 14 (.alt 15 (.first 16 .done) .stop) .stop) .stop) .stop) .stop) .stop)) (.alt 5 (.alt 1 (.alt 6 (.alt 12 (.alt 13 (.alt 14 (.alt 15 (.first 16 .done) .stop) .stop) .stop) .stop) (.alt 12 (.alt 6 (.alt 13 (.alt 14 (.alt 15 (.first 16 .done) .stop) .stop) .stop) .stop) .stop)) (.alt 12 (.alt 1 (.alt 6 (.alt 13 (.alt 14 (.alt 15 (.first 16 .done) .stop) .stop) .stop) .stop) .stop) .stop)) (.alt 12 (.alt 1 (.alt 5 (.alt 6 (.alt 13 (.alt 14 (.alt 15 (.first 16 .done) .stop) .stop) .stop) .stop) .stop) (.alt 5 (.alt 1 (.alt 6 (.alt 13 (.alt 14 (.alt 15 (.first 16 .done) .stop) .stop) .stop) .stop) .stop) .stop)) .stop)))))))))))))] }

theorem t_spec_l12Cubes : TabOk Try.prog C_spec_l12Cubes := tabOk_of (fun p h => by cases h)

theorem k_spec_l12Cubes : Entry Try.prog 20 c_spec_l12Cubes := by
 refine entry_by (C := C_spec_l12Cubes) mixed tys_ok t_spec_l12Cubes (fn := Try.f20) (c := bd Try.f20) (by kernel_rfl) (by kernel_rfl) (by kernel_rfl) (by kernel_rfl) ?_
 intro args st k he
 unfold c_spec_l12Cubes at he
 split at he
 rotate_left
 ·exact he.elim
 rename_i vars
 have he : Ok (spec_l12Cubes vars) (fun r => k (.c (.own 900 false)) [(900, .sl 24 (.sl y0_) r (.deep true .no))]) := he
 refine ⟨rfl, rfl, ?_⟩
 refine loop_model mixed tys_ok t_spec_l12Cubes (S := Int × (List (List Int))) (I := (fun (i, out1) => (envOf [(0, .c (.imm y0_ vars)), (3, .c (.own 10000000 false)), (4, .c (.int .i64 i))], [(10000000, .sl 24 (.sl y0_) out1 (.deep true .no))]))) (f := spec_l12Cubes_l1 vars) (K := (fun r => k (.c (.own 900 false)) [(900, .sl 24 (.sl y0_) r (.deep true .no))])) he (leads_ren [(10000000, 8)] rfl rfl ⟨⟨rfl, rfl⟩, trivial⟩ ⟨.inl rfl, ⟨⟨rfl, rfl⟩, trivial⟩, rfl, trivial⟩) ?_
 rintro ⟨i, out1⟩ J1 he
 refine go_if he (fun he => ?_) fun he => ?_
 ·refine loop_model mixed tys_ok t_spec_l12Cubes (S := Int × (List (List Int)) × (List (List Int))) (I := (fun (k_1, out2, next1) => (envOf [(0, .c (.imm y0_ vars)), (3, .c (.own 10004000 false)), (4, .c (.int .i64 i)), (5, .c (.own 10004001 false)), (6, .c (.int .i64 k_1))], [(10004000, .sl 24 (.sl y0_) out2 (.deep true .no)), (10004001, .sl 24 (.sl y0_) next1 (.deep true .no))]))) (f := spec_l12Cubes_l2 vars i) (K := (LK J1 (fun r => k (.c (.own 900 false)) [(900, .sl 24 (.sl y0_) r (.deep true .no))]))) he (leads_ren [(10004000, 10000000), (10004001, 15)] rfl rfl ⟨⟨rfl, rfl⟩, ⟨rfl, rfl⟩, trivial⟩ ⟨.inl rfl, ⟨⟨rfl, rfl⟩, trivial⟩, rfl, ⟨⟨rfl, rfl⟩, trivial⟩, rfl, trivial⟩) ?_
  rintro ⟨k_1, out2, next1⟩ J2 he
  refine go_if he (fun he => ?_) fun he => ?_
  ·refine seq_model mixed tys_ok t_spec_l12Cubes (S := Unit) (I := (fun _ => (envOf [(0, .c (.imm y0_ vars)), (3, .c (.own 10006000 false)), (4, .c (.int .i64 i)), (5, .c (.own 10006001 false)), (6, .c (.int .i64 k_1))], [(10006000, .sl 24 (.sl y0_) (out2.set k_1.toNat (out2.getD k_1.toNat [])) (.deep true .no)), (10006001, .sl 24 (.sl y0_) (next1 ++ [((([] : List Int) ++ (out2.getD k_1.toNat [])) ++ [(vars.getD i.toNat 0)])]) (.deep true .no))]))) (B := fun s => Ok (spec_l12Cubes_j1 vars i k_1 out2 next1 s) (LK J2 (LK J1 (fun r => k (.c (.own 900 false)) [(900, .sl 24 (.sl y0_) r (.deep true .no))])))) ?_ ?_
   ·rintro ⟨⟩ he
    refine And.intro (by kernel_rfl) ?_
    refine go_rq he fun he => ?_
    refine go_rq he fun he => ?_
    refine go_rq he fun he => ?_
    have he := ok_rq he
    have hq1 := he.1
    have he := he.2
    have he := ok_rq he
    have hq2 := he.1
    have he := he.2
    have he := ok_rq he
    have hq3 := he.1
    have he := he.2
    refine And.intro ?_ (And.intro ?_ (And.intro ?_ (trivial)))
    ·skip
     refine And.intro ?_ (And.intro ?_ (trivial))
     ·skip
      refine And.intro ?_ (And.intro ?_ (trivial))
      ·skip
       refine And.intro hq1 ?_
       refine And.intro ?_ trivial
       refine And.intro ?_ trivial
       refine And.intro hq2 ?_
       refine And.intro ?_ trivial
       refine And.intro ?_ trivial
       refine And.intro hq3 ?_
       refine go_rq he fun he => ?_
       have he := ok_some he
       exact ⟨((k_1 + (1:Int)), ((out2.set k_1.toNat (out2.getD k_1.toNat [])).set k_1.toNat ((out2.set k_1.toNat (out2.getD k_1.toNat [])).getD k_1.toNat [])), ((next1 ++ [((([] : List Int) ++ (out2.getD k_1.toNat [])) ++ [(vars.getD i.toNat 0)])]) ++ [((([] : List Int) ++ ((out2.set k_1.toNat (out2.getD k_1.toNat [])).getD k_1.toNat [])) ++ [(0 - (vars.getD i.toNat 0))])])), he, ((leads_close [10006000] rfl).trans (leads_ren [(10004000, 10006000), (10004001, 52)] (l := [(0, .c (.imm y0_ vars)), (3, .c (.own 10004000 false)), (4, .c (.int .i64 i)), (5, .c (.own 10004001 false)), (6, .c (.int .i64 (k_1 + (1:Int))))]) (st' := [(10004000, .sl 24 (.sl y0_) ((out2.set k_1.toNat (out2.getD k_1.toNat [])).set k_1.toNat ((out2.set k_1.toNat (out2.getD k_1.toNat [])).getD k_1.toNat [])) (.deep true .no)), (10004001, .sl 24 (.sl y0_) ((next1 ++ [((([] : List Int) ++ (out2.getD k_1.toNat [])) ++ [(vars.getD i.toNat 0)])]) ++ [((([] : List Int) ++ ((out2.set k_1.toNat (out2.getD k_1.toNat [])).getD k_1.toNat [])) ++ [(0 - (vars.getD i.toNat 0))])]) (.deep true .no))]) rfl rfl (by exact ⟨⟨rfl, rfl⟩, ⟨rfl, rfl⟩, trivial⟩) (by exact ⟨.inl rfl, ⟨⟨rfl, rfl⟩, trivial⟩, rfl, ⟨⟨rfl, rfl⟩, trivial⟩, rfl, trivial⟩)))⟩
      ·skip
       refine And.intro ?_ trivial
       refine And.intro hq1 ?_
       refine And.intro ?_ trivial
       refine And.intro hq2 ?_
       refine And.intro ?_ trivial
       refine And.intro ?_ trivial
       refine And.intro hq3 ?_
       refine go_rq he fun he => ?_
       have he := ok_some he
       exact ⟨((k_1 + (1:Int)), ((out2.set k_1.toNat (out2.getD k_1.toNat [])).set k_1.toNat ((out2.set k_1.toNat (out2.getD k_1.toNat [])).getD k_1.toNat [])), ((next1 ++ [((([] : List Int) ++ (out2.getD k_1.toNat [])) ++ [(vars.getD i.toNat 0)])]) ++ [((([] : List Int) ++ ((out2.set k_1.toNat (out2.getD k_1.toNat [])).getD k_1.toNat [])) ++ [(0 - (vars.getD i.toNat 0))])])), he, ((leads_close [10006000] rfl).trans (leads_ren [(10004000, 10006000), (10004001, 52)] (l := [(0, .c (.imm y0_ vars)), (3, .c (.own 10004000 false)), (4, .c (.int .i64 i)), (5, .c (.own 10004001 false)), (6, .c (.int .i64 (k_1 + (1:Int))))]) (st' := [(10004000, .sl 24 (.sl y0_) ((out2.set k_1.toNat (out2.getD k_1.toNat [])).set k_1.toNat ((out2.set k_1.toNat (out2.getD k_1.toNat [])).getD k_1.toNat [])) (.deep true .no)), (10004001, .sl 24 (.sl y0_) ((next1 ++ [((([] : List Int) ++ (out2.getD k_1.toNat [])) ++ [(vars.getD i.toNat 0)])]) ++ [((([] : List Int) ++ ((out2.set k_1.toNat (out2.getD k_1.toNat [])).getD k_1.toNat [])) ++ [(0 - (vars.getD i.toNat 0))])]) (.deep true .no))]) rfl rfl (by exact ⟨⟨rfl, rfl⟩, ⟨rfl, rfl⟩, trivial⟩) (by exact ⟨.inl rfl, ⟨⟨rfl, rfl⟩, trivial⟩, rfl, ⟨⟨rfl, rfl⟩, trivial⟩, rfl, trivial⟩)))⟩
     ·skip
      refine And.intro ?_ trivial
      refine And.intro ?_ trivial
      refine And.intro hq1 ?_
      refine And.intro ?_ trivial
      refine And.intro hq2 ?_
      refine And.intro ?_ trivial
      refine And.intro ?_ trivial
      refine And.intro hq3 ?_
      refine go_rq he fun he => ?_
      have he := ok_some he
      exact ⟨((k_1 + (1:Int)), ((out2.set k_1.toNat (out2.getD k_1.toNat [])).set k_1.toNat ((out2.set k_1.toNat (out2.getD k_1.toNat [])).getD k_1.toNat [])), ((next1 ++ [((([] : List Int) ++ (out2.getD k_1.toNat [])) ++ [(vars.getD i.toNat 0)])]) ++ [((([] : List Int) ++ ((out2.set k_1.toNat (out2.getD k_1.toNat [])).getD k_1.toNat [])) ++ [(0 - (vars.getD i.toNat 0))])])), he, ((leads_close [10006000] rfl).trans (leads_ren [(10004000, 10006000), (10004001, 52)] (l := [(0, .c (.imm y0_ vars)), (3, .c (.own 10004000 false)), (4, .c (.int .i64 i)), (5, .c (.own 10004001 false)), (6, .c (.int .i64 (k_1 + (1:Int))))]) (st' := [(10004000, .sl 24 (.sl y0_) ((out2.set k_1.toNat (out2.getD k_1.toNat [])).set k_1.toNat ((out2.set k_1.toNat (out2.getD k_1.toNat [])).getD k_1.toNat [])) (.deep true .no)), (10004001, .sl 24 (.sl y0_) ((next1 ++ [((([] : List Int) ++ (out2.getD k_1.toNat [])) ++ [(vars.getD i.toNat 0)])]) ++ [((([] : List Int) ++ ((out2.set k_1.toNat (out2.getD k_1.toNat [])).getD k_1.toNat [])) ++ [(0 - (vars.getD i.toNat 0))])]) (.deep true .no))]) rfl rfl (by exact ⟨⟨rfl, rfl⟩, ⟨rfl, rfl⟩, trivial⟩) (by exact ⟨.inl rfl, ⟨⟨rfl, rfl⟩, trivial⟩, rfl, ⟨⟨rfl, rfl⟩, trivial⟩, rfl, trivial⟩)))⟩
    ·skip
     refine And.intro ?_ (And.intro ?_ (trivial))
     ·skip
      refine And.intro ?_ (And.intro ?_ (trivial))
      ·skip
       refine And.intro hq1 ?_
       refine And.intro ?_ trivial
       refine And.intro ?_ trivial
       refine And.intro hq2 ?_
       refine And.intro ?_ trivial
       refine And.intro ?_ trivial
       refine And.intro hq3 ?_
       refine go_rq he fun he => ?_
       have he := ok_some he
       exact ⟨((k_1 + (1:Int)), ((out2.set k_1.toNat (out2.getD k_1.toNat [])).set k_1.toNat ((out2.set k_1.toNat (out2.getD k_1.toNat [])).getD k_1.toNat [])), ((next1 ++ [((([] : List Int) ++ (out2.getD k_1.toNat [])) ++ [(vars.getD i.toNat 0)])]) ++ [((([] : List Int) ++ ((out2.set k_1.toNat (out2.getD k_1.toNat [])).getD k_1.toNat [])) ++ [(0 - (vars.getD i.toNat 0))])])), he, ((leads_close [10006000] rfl).trans (leads_ren [(10004000, 10006000), (10004001, 52)] (l := [(0, .c (.imm y0_ vars)), (3, .c (.own 10004000 false)), (4, .c (.int .i64 i)), (5, .c (.own 10004001 false)), (6, .c (.int .i64 (k_1 + (1:Int))))]) (st' := [(10004000, .sl 24 (.sl y0_) ((out2.set k_1.toNat (out2.getD k_1.toNat [])).set k_1.toNat ((out2.set k_1.toNat (out2.getD k_1.toNat [])).getD k_1.toNat [])) (.deep true .no)), (10004001, .sl 24 (.sl y0_) ((next1 ++ [((([] : List Int) ++ (out2.getD k_1.toNat [])) ++ [(vars.getD i.toNat 0)])]) ++ [((([] : List Int) ++ ((out2.set k_1.toNat (out2.getD k_1.toNat [])).getD k_1.toNat [])) ++ [(0 - (vars.getD i.toNat 0))])]) (.deep true .no))]) rfl rfl (by exact ⟨⟨rfl, rfl⟩, ⟨rfl, rfl⟩, trivial⟩) (by exact ⟨.inl rfl, ⟨⟨rfl, rfl⟩, trivial⟩, rfl, ⟨⟨rfl, rfl⟩, trivial⟩, rfl, trivial⟩)))⟩
      ·skip
       refine And.intro ?_ trivial
       refine And.intro hq1 ?_
       refine And.intro ?_ trivial
       refine And.intro hq2 ?_
       refine And.intro ?_ trivial
       refine And.intro ?_ trivial
       refine And.intro hq3 ?_
       refine go_rq he fun he => ?_
       have he := ok_some he
       exact ⟨((k_1 + (1:Int)), ((out2.set k_1.toNat (out2.getD k_1.toNat [])).set k_1.toNat ((out2.set k_1.toNat (out2.getD k_1.toNat [])).getD k_1.toNat [])), ((next1 ++ [((([] : List Int) ++ (out2.getD k_1.toNat [])) ++ [(vars.getD i.toNat 0)])]) ++ [((([] : List Int) ++ ((out2.set k_1.toNat (out2.getD k_1.toNat [])).getD k_1.toNat [])) ++ [(0 - (vars.getD i.toNat 0))])])), he, ((leads_close [10006000] rfl).trans (leads_ren [(10004000, 10006000), (10004001, 52)] (l := [(0, .c (.imm y0_ vars)), (3, .c (.own 10004000 false)), (4, .c (.int .i64 i)), (5, .c (.own 10004001 false)), (6, .c (.int .i64 (k_1 + (1:Int))))]) (st' := [(10004000, .sl 24 (.sl y0_) ((out2.set k_1.toNat (out2.getD k_1.toNat [])).set k_1.toNat ((out2.set k_1.toNat (out2.getD k_1.toNat [])).getD k_1.toNat [])) (.deep true .no)), (10004001, .sl 24 (.sl y0_) ((next1 ++ [((([] : List Int) ++ (out2.getD k_1.toNat [])) ++ [(vars.getD i.toNat 0)])]) ++ [((([] : List Int) ++ ((out2.set k_1.toNat (out2.getD k_1.toNat [])).getD k_1.toNat [])) ++ [(0 - (vars.getD i.toNat 0))])]) (.deep true .no))]) rfl rfl (by exact ⟨⟨rfl, rfl⟩, ⟨rfl, rfl⟩, trivial⟩) (by exact ⟨.inl rfl, ⟨⟨rfl, rfl⟩, trivial⟩, rfl, ⟨⟨rfl, rfl⟩, trivial⟩, rfl, trivial⟩)))⟩
     ·skip
      refine And.intro ?_ trivial
      refine And.intro ?_ trivial
      refine And.intro hq1 ?_
      refine And.intro ?_ trivial
      refine And.intro hq2 ?_
      refine And.intro ?_ trivial
      refine And.intro ?_ trivial
      refine And.intro hq3 ?_
      refine go_rq he fun he => ?_
      have he := ok_some he
      exact ⟨((k_1 + (1:Int)), ((out2.set k_1.toNat (out2.getD k_1.toNat [])).set k_1.toNat ((out2.set k_1.toNat (out2.getD k_1.toNat [])).getD k_1.toNat [])), ((next1 ++ [((([] : List Int) ++ (out2.getD k_1.toNat [])) ++ [(vars.getD i.toNat 0)])]) ++ [((([] : List Int) ++ ((out2.set k_1.toNat (out2.getD k_1.toNat [])).getD k_1.toNat [])) ++ [(0 - (vars.getD i.toNat 0))])])), he, ((leads_close [10006000] rfl).trans (leads_ren [(10004000, 10006000), (10004001, 52)] (l := [(0, .c (.imm y0_ vars)), (3, .c (.own 10004000 false)), (4, .c (.int .i64 i)), (5, .c (.own 10004001 false)), (6, .c (.int .i64 (k_1 + (1:Int))))]) (st' := [(10004000, .sl 24 (.sl y0_) ((out2.set k_1.toNat (out2.getD k_1.toNat [])).set k_1.toNat ((out2.set k_1.toNat (out2.getD k_1.toNat [])).getD k_1.toNat [])) (.deep true .no)), (10004001, .sl 24 (.sl y0_) ((next1 ++ [((([] : List Int) ++ (out2.getD k_1.toNat [])) ++ [(vars.getD i.toNat 0)])]) ++ [((([] : List Int) ++ ((out2.set k_1.toNat (out2.getD k_1.toNat [])).getD k_1.toNat [])) ++ [(0 - (vars.getD i.toNat 0))])]) (.deep true .no))]) rfl rfl (by exact ⟨⟨rfl, rfl⟩, ⟨rfl, rfl⟩, trivial⟩) (by exact ⟨.inl rfl, ⟨⟨rfl, rfl⟩, trivial⟩, rfl, ⟨⟨rfl, rfl⟩, trivial⟩, rfl, trivial⟩)))⟩
    ·skip
     refine And.intro ?_ (And.intro ?_ (trivial))
     ·skip
      refine And.intro ?_ trivial
      refine And.intro ?_ trivial
      refine And.intro hq1 ?_
      refine And.intro ?_ trivial
      refine And.intro hq2 ?_
      refine And.intro ?_ trivial
      refine And.intro ?_ trivial
      refine And.intro hq3 ?_
      refine go_rq he fun he => ?_
      have he := ok_some he
      exact ⟨((k_1 + (1:Int)), ((out2.set k_1.toNat (out2.getD k_1.toNat [])).set k_1.toNat ((out2.set k_1.toNat (out2.getD k_1.toNat [])).getD k_1.toNat [])), ((next1 ++ [((([] : List Int) ++ (out2.getD k_1.toNat [])) ++ [(vars.getD i.toNat 0)])]) ++ [((([] : List Int) ++ ((out2.set k_1.toNat (out2.getD k_1.toNat [])).getD k_1.toNat [])) ++ [(0 - (vars.getD i.toNat 0))])])), he, ((leads_close [10006000] rfl).trans (leads_ren [(10004000, 10006000), (10004001, 52)] (l := [(0, .c (.imm y0_ vars)), (3, .c (.own 10004000 false)), (4, .c (.int .i64 i)), (5, .c (.own 10004001 false)), (6, .c (.int .i64 (k_1 + (1:Int))))]) (st' := [(10004000, .sl 24 (.sl y0_) ((out2.set k_1.toNat (out2.getD k_1.toNat [])).set k_1.toNat ((out2.set k_1.toNat (out2.getD k_1.toNat [])).getD k_1.toNat [])) (.deep true .no)), (10004001, .sl 24 (.sl y0_) ((next1 ++ [((([] : List Int) ++ (out2.getD k_1.toNat [])) ++ [(vars.getD i.toNat 0)])]) ++ [((([] : List Int) ++ ((out2.set k_1.toNat (out2.getD k_1.toNat [])).getD k_1.toNat [])) ++ [(0 - (vars.getD i.toNat 0))])]) (.deep true .no))]) rfl rfl (by exact ⟨⟨rfl, rfl⟩, ⟨rfl, rfl⟩, trivial⟩) (by exact ⟨.inl rfl, ⟨⟨rfl, rfl⟩, trivial⟩, rfl, ⟨⟨rfl, rfl⟩, trivial⟩, rfl, trivial⟩)))⟩
     ·skip
      refine And.intro ?_ trivial
      refine And.intro ?_ trivial
      refine And.intro hq1 ?_
      refine And.intro ?_ trivial
      refine And.intro hq2 ?_
      refine And.intro ?_ trivial
      refine And.intro ?_ trivial
      refine And.intro hq3 ?_
      refine go_rq he fun he => ?_
      have he := ok_some he
      exact ⟨((k_1 + (1:Int)), ((out2.set k_1.toNat (out2.getD k_1.toNat [])).set k_1.toNat ((out2.set k_1.toNat (out2.getD k_1.toNat [])).getD k_1.toNat [])), ((next1 ++ [((([] : List Int) ++ (out2.getD k_1.toNat [])) ++ [(vars.getD i.toNat 0)])]) ++ [((([] : List Int) ++ ((out2.set k_1.toNat (out2.getD k_1.toNat [])).getD k_1.toNat [])) ++ [(0 - (vars.getD i.toNat 0))])])), he, ((leads_close [10006000] rfl).trans (leads_ren [(10004000, 10006000), (10004001, 52)] (l := [(0, .c (.imm y0_ vars)), (3, .c (.own 10004000 false)), (4, .c (.int .i64 i)), (5, .c (.own 10004001 false)), (6, .c (.int .i64 (k_1 + (1:Int))))]) (st' := [(10004000, .sl 24 (.sl y0_) ((out2.set k_1.toNat (out2.getD k_1.toNat [])).set k_1.toNat ((out2.set k_1.toNat (out2.getD k_1.toNat [])).getD k_1.toNat [])) (.deep true .no)), (10004001, .sl 24 (.sl y0_) ((next1 ++ [((([] : List Int) ++ (out2.getD k_1.toNat [])) ++ [(vars.getD i.toNat 0)])]) ++ [((([] : List Int) ++ ((out2.set k_1.toNat (out2.getD k_1.toNat [])).getD k_1.toNat [])) ++ [(0 - (vars.getD i.toNat 0))])]) (.deep true .no))]) rfl rfl (by exact ⟨⟨rfl, rfl⟩, ⟨rfl, rfl⟩, trivial⟩) (by exact ⟨.inl rfl, ⟨⟨rfl, rfl⟩, trivial⟩, rfl, ⟨⟨rfl, rfl⟩, trivial⟩, rfl, trivial⟩)))⟩
   ·skip
    refine And.intro (by kernel_rfl) ?_
    refine go_rq he fun he => ?_
    refine go_rq he fun he => ?_
    have he := ok_rq he
    have hq1 := he.1
    have he := he.2
    have he := ok_rq he
    have hq2 := he.1
    have he := he.2
    have he := ok_rq he
    have hq3 := he.1
    have he := he.2
    refine And.intro ?_ (And.intro ?_ (And.intro ?_ (trivial)))
    ·skip
     refine And.intro ?_ (And.intro ?_ (trivial))
     ·skip
      refine And.intro ?_ (And.intro ?_ (trivial))
      ·skip
       refine And.intro hq1 ?_
       refine And.intro ?_ trivial
       refine And.intro ?_ trivial
       refine And.intro hq2 ?_
       refine And.intro ?_ trivial
       refine And.intro ?_ trivial
       refine And.intro hq3 ?_
       exact ⟨(), he, ((leads_close [10004000] rfl).trans (leads_ren [(10006000, 10004000), (10006001, 36)] (l := [(0, .c (.imm y0_ vars)), (3, .c (.own 10006000 false)), (4, .c (.int .i64 i)), (5, .c (.own 10006001 false)), (6, .c (.int .i64 k_1))]) (st' := [(10006000, .sl 24 (.sl y0_) (out2.set k_1.toNat (out2.getD k_1.toNat [])) (.deep true .no)), (10006001, .sl 24 (.sl y0_) (next1 ++ [((([] : List Int) ++ (out2.getD k_1.toNat [])) ++ [(vars.getD i.toNat 0)])]) (.deep true .no))]) rfl rfl (by exact ⟨⟨rfl, rfl⟩, ⟨rfl, rfl⟩, trivial⟩) (by exact ⟨.inl rfl, ⟨⟨rfl, rfl⟩, trivial⟩, rfl, ⟨⟨rfl, rfl⟩, trivial⟩, rfl, trivial⟩)))⟩
      ·skip
       refine And.intro ?_ trivial
       refine And.intro hq1 ?_
       refine And.intro ?_ trivial
       refine And.intro hq2 ?_
       refine And.intro ?_ trivial
       refine And.intro ?_ trivial
       refine And.intro hq3 ?_
       exact ⟨(), he, ((leads_close [10004000] rfl).trans (leads_ren [(10006000, 10004000), (10006001, 36)] (l := [(0, .c (.imm y0_ vars)), (3, .c (.own 10006000 false)), (4, .c (.int .i64 i)), (5, .c (.own 10006001 false)), (6, .c (.int .i64 k_1))]) (st' := [(10006000, .sl 24 (.sl y0_) (out2.set k_1.toNat (out2.getD k_1.toNat [])) (.deep true .no)), (10006001, .sl 24 (.sl y0_) (next1 ++ [((([] : List Int) ++ (out2.getD k_1.toNat [])) ++ [(vars.getD i.toNat 0)])]) (.deep true .no))]) rfl rfl (by exact ⟨⟨rfl, rfl⟩, ⟨rfl, rfl⟩, trivial⟩) (by exact ⟨.inl rfl, ⟨⟨rfl, rfl⟩, trivial⟩, rfl, ⟨⟨rfl, rfl⟩, trivial⟩, rfl, trivial⟩)))⟩
     ·skip
      refine And.intro ?_ trivial
      refine And.intro ?_ trivial
      refine And.intro hq1 ?_
      refine And.intro ?_ trivial
      refine And.intro hq2 ?_
      refine And.intro ?_ trivial
      refine And.intro ?_ trivial
      refine And.intro hq3 ?_
      exact ⟨(), he, ((leads_close [10004000] rfl).trans (leads_ren [(10006000, 10004000), (10006001, 36)] (l := [(0, .c (.imm y0_ vars)), (3, .c (.own 10006000 false)), (4, .c (.int .i64 i)), (5, .c (.own 10006001 false)), (6, .c (.int .i64 k_1))]) (st' := [(10006000, .sl 24 (.sl y0_) (out2.set k_1.toNat (out2.getD k_1.toNat [])) (.deep true .no)), (10006001, .sl 24 (.sl y0_) (next1 ++ [((([] : List Int) ++ (out2.getD k_1.toNat [])) ++ [(vars.getD i.toNat 0)])]) (.deep true .no))]) rfl rfl (by exact ⟨⟨rfl, rfl⟩, ⟨rfl, rfl⟩, trivial⟩) (by exact ⟨.inl rfl, ⟨⟨rfl, rfl⟩, trivial⟩, rfl, ⟨⟨rfl, rfl⟩, trivial⟩, rfl, trivial⟩)))⟩
    ·skip
     refine And.intro ?_ (And.intro ?_ (trivial))
     ·skip
      refine And.intro ?_ (And.intro ?_ (trivial))
      ·skip
       refine And.intro hq1 ?_
       refine And.intro ?_ trivial
       refine And.intro ?_ trivial
       refine And.intro hq2 ?_
       refine And.intro ?_ trivial
       refine And.intro ?_ trivial
       refine And.intro hq3 ?_
       exact ⟨(), he, ((leads_close [10004000] rfl).trans (leads_ren [(10006000, 10004000), (10006001, 36)] (l := [(0, .c (.imm y0_ vars)), (3, .c (.own 10006000 false)), (4, .c (.int .i64 i)), (5, .c (.own 10006001 false)), (6, .c (.int .i64 k_1))]) (st' := [(10006000, .sl 24 (.sl y0_) (out2.set k_1.toNat (out2.getD k_1.toNat [])) (.deep true .no)), (10006001, .sl 24 (.sl y0_) (next1 ++ [((([] : List Int) ++ (out2.getD k_1.toNat [])) ++ [(vars.getD i.toNat 0)])]) (.deep true .no))]) rfl rfl (by exact ⟨⟨rfl, rfl⟩, ⟨rfl, rfl⟩, trivial⟩) (by exact ⟨.inl rfl, ⟨⟨rfl, rfl⟩, trivial⟩, rfl, ⟨⟨rfl, rfl⟩, trivial⟩, rfl, trivial⟩)))⟩
      ·skip
       refine And.intro ?_ trivial
       refine And.intro hq1 ?_
       refine And.intro ?_ trivial
       refine And.intro hq2 ?_
       refine And.intro ?_ trivial
       refine And.intro ?_ trivial
       refine And.intro hq3 ?_
       exact ⟨(), he, ((leads_close [10004000] rfl).trans (leads_ren [(10006000, 10004000), (10006001, 36)] (l := [(0, .c (.imm y0_ vars)), (3, .c (.own 10006000 false)), (4, .c (.int .i64 i)), (5, .c (.own 10006001 false)), (6, .c (.int .i64 k_1))]) (st' := [(10006000, .sl 24 (.sl y0_) (out2.set k_1.toNat (out2.getD k_1.toNat [])) (.deep true .no)), (10006001, .sl 24 (.sl y0_) (next1 ++ [((([] : List Int) ++ (out2.getD k_1.toNat [])) ++ [(vars.getD i.toNat 0)])]) (.deep true .no))]) rfl rfl (by exact ⟨⟨rfl, rfl⟩, ⟨rfl, rfl⟩, trivial⟩) (by exact ⟨.inl rfl, ⟨⟨rfl, rfl⟩, trivial⟩, rfl, ⟨⟨rfl, rfl⟩, trivial⟩, rfl, trivial⟩)))⟩
     ·skip
      refine And.intro ?_ trivial
      refine And.intro ?_ trivial
      refine And.intro hq1 ?_
      refine And.intro ?_ trivial
      refine And.intro hq2 ?_
      refine And.intro ?_ trivial
      refine And.intro ?_ trivial
      refine And.intro hq3 ?_
      exact ⟨(), he, ((leads_close [10004000] rfl).trans (leads_ren [(10006000, 10004000), (10006001, 36)] (l := [(0, .c (.imm y0_ vars)), (3, .c (.own 10006000 false)), (4, .c (.int .i64 i)), (5, .c (.own 10006001 false)), (6, .c (.int .i64 k_1))]) (st' := [(10006000, .sl 24 (.sl y0_) (out2.set k_1.toNat (out2.getD k_1.toNat [])) (.deep true .no)), (10006001, .sl 24 (.sl y0_) (next1 ++ [((([] : List Int) ++ (out2.getD k_1.toNat [])) ++ [(vars.getD i.toNat 0)])]) (.deep true .no))]) rfl rfl (by exact ⟨⟨rfl, rfl⟩, ⟨rfl, rfl⟩, trivial⟩) (by exact ⟨.inl rfl, ⟨⟨rfl, rfl⟩, trivial⟩, rfl, ⟨⟨rfl, rfl⟩, trivial⟩, rfl, trivial⟩)))⟩
    ·skip
     refine And.intro ?_ (And.intro ?_ (trivial))
     ·skip
      refine And.intro ?_ trivial
      refine And.intro ?_ trivial
      refine And.intro hq1 ?_
      refine And.intro ?_ trivial
      refine And.intro hq2 ?_
      refine And.intro ?_ trivial
      refine And.intro ?_ trivial
      refine And.intro hq3 ?_
      exact ⟨(), he, ((leads_close [10004000] rfl).trans (leads_ren [(10006000, 10004000), (10006001, 36)] (l := [(0, .c (.imm y0_ vars)), (3, .c (.own 10006000 false)), (4, .c (.int .i64 i)), (5, .c (.own 10006001 false)), (6, .c (.int .i64 k_1))]) (st' := [(10006000, .sl 24 (.sl y0_) (out2.set k_1.toNat (out2.getD k_1.toNat [])) (.deep true .no)), (10006001, .sl 24 (.sl y0_) (next1 ++ [((([] : List Int) ++ (out2.getD k_1.toNat [])) ++ [(vars.getD i.toNat 0)])]) (.deep true .no))]) rfl rfl (by exact ⟨⟨rfl, rfl⟩, ⟨rfl, rfl⟩, trivial⟩) (by exact ⟨.inl rfl, ⟨⟨rfl, rfl⟩, trivial⟩, rfl, ⟨⟨rfl, rfl⟩, trivial⟩, rfl, trivial⟩)))⟩
     ·skip
      refine And.intro ?_ trivial
      refine And.intro ?_ trivial
      refine And.intro hq1 ?_
      refine And.intro ?_ trivial
      refine And.intro hq2 ?_
      refine And.intro ?_ trivial
      refine And.intro ?_ trivial
      refine And.intro hq3 ?_
      exact ⟨(), he, ((leads_close [10004000] rfl).trans (leads_ren [(10006000, 10004000), (10006001, 36)] (l := [(0, .c (.imm y0_ vars)), (3, .c (.own 10006000 false)), (4, .c (.int .i64 i)), (5, .c (.own 10006001 false)), (6, .c (.int .i64 k_1))]) (st' := [(10006000, .sl 24 (.sl y0_) (out2.set k_1.toNat (out2.getD k_1.toNat [])) (.deep true .no)), (10006001, .sl 24 (.sl y0_) (next1 ++ [((([] : List Int) ++ (out2.getD k_1.toNat [])) ++ [(vars.getD i.toNat 0)])]) (.deep true .no))]) rfl rfl (by exact ⟨⟨rfl, rfl⟩, ⟨rfl, rfl⟩, trivial⟩) (by exact ⟨.inl rfl, ⟨⟨rfl, rfl⟩, trivial⟩, rfl, ⟨⟨rfl, rfl⟩, trivial⟩, rfl, trivial⟩)))⟩
  ·refine go_rq he fun he => ?_
   have he := ok_some he
   exact ⟨((i + (1:Int)), next1), he, (leads_ren [(10000000, 10004001)] rfl rfl ⟨⟨rfl, rfl⟩, trivial⟩ ⟨.inl rfl, ⟨⟨rfl, rfl⟩, trivial⟩, rfl, trivial⟩)⟩
 ·have he := ok_some he
  exact ⟨rfl, _, _, (leads_ren [(900, 10000000)] (l := [(2, .c (.own 900 false))]) (st' := [(900, .sl 24 (.sl y0_) out1 (.deep true .no))]) rfl rfl ⟨⟨rfl, rfl⟩, trivial⟩ ⟨⟨⟨rfl, rfl⟩, trivial⟩, trivial⟩), he⟩

noncomputable def c_spec_l12Under : Con := fun args st => match args, st with
  | [.c (.imm (.pair (.sl (.pair (.int .i64) (.int .i64))) (.int .i64)) list_), .c (.imm (.int .i64) cube)], [] => .opt ((List D3_)) (spec_l12Under list_ cube) (fun r => .ret (.c (.own 900 false)) [(900, .sl 56 y3_ r (.deep true .no))])
  | _, _ => .fail

noncomputable def C_spec_l12Under : Cfg := { y := tys, n := 40, h := 0, tab := [(41, c_spec_l1Copy)], cut := [6], hand := [], good := [], deep := [8, 21, 37], sched := [] }

theorem t_spec_l12Under : TabOk Try.prog C_spec_l12Under := by
  refine tabOk_of ?_
  simp only [C_spec_l12Under, List.forall_mem_cons]
  exact ⟨k_spec_l1Copy, fun p h => by cases h⟩

theorem k_spec_l12Under : Entry Try.prog 22 c_spec_l12Under := by
 refine entry_by (C := C_spec_l12Under) mixed tys_ok t_spec_l12Under (fn := Try.f22) (c := bd Try.f22) (by kernel_rfl) (by kernel_rfl) (by kernel_rfl) (by kernel_rfl) ?_
 intro args st k he
 unfold c_spec_l12Under at he
 split at he
 rotate_left
 ·exact he.elim
 rename_i list_ cube
 have he : Ok (spec_l12Under list_ cube) (fun r => k (.c (.own 900 false)) [(900, .sl 56 y3_ r (.deep true .no))]) := he
 refine ⟨rfl, rfl, ?_⟩
 refine seq_model mixed tys_ok t_spec_l12Under (S := (List D3_)) (I := (fun out1 => (envOf [(1, .c (.imm y0_ cube)), (5, .c (.own 10001000 false))], [(10001000, .sl 56 y3_ out1 (.deep true .no))]))) (B := fun s => Ok (spec_l12Under_j1 cube s) (fun r => k (.c (.own 900 false)) [(900, .sl 56 y3_ r (.deep true .no))])) ?_ ?_
 ·rintro out1 he
  refine loop_model mixed tys_ok t_spec_l12Under (S := Int × (List D3_)) (I := (fun (i1, out2) => (envOf [(1, .c (.imm y0_ cube)), (5, .c (.own 10002000 false)), (7, .c (.int .i64 i1))], [(10002000, .sl 56 y3_ out2 (.deep true .no))]))) (f := spec_l12Under_l1 cube) (K := (fun r => k (.c (.own 900 false)) [(900, .sl 56 y3_ r (.deep true .no))])) he (leads_ren [(10002000, 10001000)] rfl rfl ⟨⟨rfl, rfl⟩, trivial⟩ ⟨.inl rfl, ⟨⟨rfl, rfl⟩, trivial⟩, rfl, trivial⟩) ?_
  rintro ⟨i1, out2⟩ J1 he
  refine go_if he (fun he => ?_) fun he => ?_
  ·refine go_rq he fun he => ?_
   refine go_rq he fun he => ?_
   refine go_rq he fun he => ?_
   have he := ok_some he
   exact ⟨((i1 + (1:Int)), (out2 ++ [([((1:Int), (cube.getD i1.toNat 0))], (1:Int))])), he, (leads_ren [(10002000, 38)] rfl rfl ⟨⟨rfl, rfl⟩, trivial⟩ ⟨.inl rfl, ⟨⟨rfl, rfl⟩, trivial⟩, rfl, trivial⟩)⟩
  ·have he := ok_some he
   exact ⟨rfl, _, _, (leads_ren [(900, 10002000)] (l := [(4, .c (.own 900 false))]) (st' := [(900, .sl 56 y3_ out2 (.deep true .no))]) rfl rfl ⟨⟨rfl, rfl⟩, trivial⟩ ⟨⟨⟨rfl, rfl⟩, trivial⟩, trivial⟩), he⟩
 ·skip
  refine loop_model mixed tys_ok t_spec_l12Under (S := Int × (List D3_)) (I := (fun (i, out) => (envOf [(0, .c (.imm y3_ list_)), (1, .c (.imm y0_ cube)), (5, .c (.own 10000000 false)), (6, .c (.int .i64 i))], [(10000000, .sl 56 y3_ out (.deep true .no))]))) (f := spec_l12Under_l2 list_ cube) (K := (fun r => k (.c (.own 900 false)) [(900, .sl 56 y3_ r (.deep true .no))])) he (leads_ren [(10000000, 8)] rfl rfl ⟨⟨rfl, rfl⟩, trivial⟩ ⟨.inl rfl, .inl rfl, ⟨⟨rfl, rfl⟩, trivial⟩, rfl, trivial⟩) ?_
  rintro ⟨i, out⟩ J1 he
  refine go_if he (fun he => ?_) fun he => ?_
  ·refine go_rq he fun he => ?_
   refine go_bind he fun r2_ he => ?_
   refine go_rq he fun he => ?_
   refine go_rq he fun he => ?_
   have he := ok_some he
   exact ⟨((i + (1:Int)), (out ++ [(r2_.2, r2_.1)])), he, (leads_ren [(10000000, 22)] rfl rfl ⟨⟨rfl, rfl⟩, trivial⟩ ⟨.inl rfl, .inl rfl, ⟨⟨rfl, rfl⟩, trivial⟩, rfl, trivial⟩)⟩
  ·exact ⟨out, ok_up he, (leads_ren [(10001000, 10000000)] rfl rfl ⟨⟨rfl, rfl⟩, trivial⟩ ⟨.inl rfl, ⟨⟨rfl, rfl⟩, trivial⟩, trivial⟩)⟩

end Go.AE.Y
