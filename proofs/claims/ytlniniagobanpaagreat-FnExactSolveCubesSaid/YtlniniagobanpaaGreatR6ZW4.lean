/-
  Walks: each function keeps the contract that its model gives. No conditions.
-/
import Derived.Test.YtlniniagobanpaaGreatR6ZTab
import Derived.Test.YtlniniagobanpaaGreatR6ZW3
import Derived.Test.YtlniniagobanpaaGreatR6ZS
namespace Go.AE.Y
open Go Go.AE Go.Proofs
set_option linter.unusedVariables false
set_option maxHeartbeats 2000000
set_option maxRecDepth 100000

noncomputable def c_slices_SortFunc_int__impl_ClauseOf_1 : Con := sortC0 77 impl_ClauseOf_1

theorem k_slices_SortFunc_int__impl_ClauseOf_1 : Entry Tryz.prog 76 c_slices_SortFunc_int__impl_ClauseOf_1 := sort_entry0 lays76 k_impl_ClauseOf_1 (fun x y => rfl)

noncomputable def c_slices_Compact_int : Con := fun args st => match args, st with
  | [.c (.own 0 false)], [(0, .sl 3 (.int .i64) s_ .shallow)] => .opt ((List Int)) (slices_Compact_int s_) (fun r => .ret (.c (.own 900 false)) [(0, .dead), (900, .sl 3 y0_ r .shallow)])
  | _, _ => .fail

noncomputable def C_slices_Compact_int : Cfg := { y := tys, n := 61, h := 1, tab := [], cut := [14], hand := [], good := [], deep := [], sched := [] }

theorem t_slices_Compact_int : TabOk Tryz.prog C_slices_Compact_int := tabOk_of (fun p h => by cases h)

theorem k_slices_Compact_int : Entry Tryz.prog 78 c_slices_Compact_int := by
 refine entry_by (C := C_slices_Compact_int) mixed tys_ok t_slices_Compact_int (fn := Tryz.f78) (c := bd Tryz.f78) (by kernel_rfl) (by kernel_rfl) (by kernel_rfl) (by kernel_rfl) ?_
 intro args st k he
 unfold c_slices_Compact_int at he
 split at he
 rotate_left
 ·exact he.elim
 rename_i s_
 have he : Ok (slices_Compact_int s_) (fun r => k (.c (.own 900 false)) [(0, .dead), (900, .sl 3 y0_ r .shallow)]) := he
 refine ⟨rfl, rfl, ?_⟩
 refine go_if he (fun he => ?_) fun he => ?_
 ·have he := ok_some he
  exact ⟨rfl, _, _, (leads_ren [(900, 0)] (l := [(2, .c (.own 900 false))]) (st' := [(0, .dead), (900, .sl 3 y0_ s_ .shallow)]) rfl rfl ⟨trivial, ⟨rfl, rfl⟩, trivial⟩ ⟨⟨⟨rfl, rfl⟩, trivial⟩, trivial⟩), he⟩
 ·refine loop_model mixed tys_ok t_slices_Compact_int (S := Int) (I := (fun k_ => (envOf [(0, .c (.own 0 false)), (3, .c (.int .i64 k_))], [(0, .sl 3 y0_ s_ .shallow)]))) (f := slices_Compact_int_l1 s_) (K := (fun r => k (.c (.own 900 false)) [(0, .dead), (900, .sl 3 y0_ r .shallow)])) he (leads_ren [] rfl rfl ⟨⟨rfl, rfl⟩, trivial⟩ ⟨⟨⟨rfl, rfl⟩, trivial⟩, rfl, trivial⟩) ?_
  rintro k_ J1 he
  refine go_if he (fun he => ?_) fun he => ?_
  ·refine And.intro (by kernel_rfl) ?_
   refine go_rq he fun he => ?_
   refine go_rq he fun he => ?_
   refine go_rq he fun he => ?_
   refine go_if he (fun he => ?_) fun he => ?_
   ·refine go_rq he fun he => ?_
    refine seq_model mixed tys_ok t_slices_Compact_int (S := Int × (List Int)) (I := (fun (k_2, s_2) => (envOf [(0, .c (.own 0 false)), (3, .c (.int .i64 k_2))], [(0, .sl 3 y0_ s_2 .shallow)]))) (B := fun s => Ok (slices_Compact_int_j1 s) (LK J1 (fun r => k (.c (.own 900 false)) [(0, .dead), (900, .sl 3 y0_ r .shallow)]))) ?_ ?_
    ·rintro ⟨k_2, s_2⟩ he
     refine go_rq he fun he => ?_
     refine go_rq he fun he => ?_
     have he := ok_some he
     exact ⟨rfl, _, _, (leads_ren [(900, 59)] (l := [(2, .c (.own 900 false))]) (st' := [(0, .dead), (900, .sl 3 y0_ ((s_2.take k_2.toNat ++ List.replicate (s_2.length - k_2.toNat) (0:Int)).take k_2.toNat) .shallow)]) rfl rfl ⟨trivial, ⟨rfl, rfl⟩, trivial⟩ ⟨⟨⟨rfl, rfl⟩, trivial⟩, trivial⟩), he⟩
    ·skip
     refine loop_model mixed tys_ok t_slices_Compact_int (S := Int × Int × (List Int)) (I := (fun (k_1, k2_, s_1) => (envOf [(0, .c (.own 0 false)), (3, .c (.int .i64 k_1)), (4, .c (.view 0 k_)), (5, .c (.int .i64 k2_))], [(0, .sl 3 y0_ s_1 .shallow)]))) (f := slices_Compact_int_l2 k_) (K := (LK J1 (fun r => k (.c (.own 900 false)) [(0, .dead), (900, .sl 3 y0_ r .shallow)]))) he (leads_ren [] rfl rfl ⟨⟨rfl, rfl⟩, trivial⟩ ⟨⟨⟨rfl, rfl⟩, trivial⟩, rfl, ⟨⟨rfl, rfl⟩, rfl⟩, rfl, trivial⟩) ?_
     rintro ⟨k_1, k2_, s_1⟩ J2 he
     refine go_if he (fun he => ?_) fun he => ?_
     ·refine And.intro (by kernel_rfl) ?_
      refine go_rq he fun he => ?_
      refine go_rq he fun he => ?_
      refine go_rq he fun he => ?_
      refine go_if he (fun he => ?_) fun he => ?_
      ·refine go_rq he fun he => ?_
       refine go_rq he fun he => ?_
       refine go_rq he fun he => ?_
       refine go_rq he fun he => ?_
       have he := ok_some he
       exact ⟨((k_1 + (1:Int)), (k2_ + (1:Int)), (s_1.set k_1.toNat (s_1.getD (k_ + k2_).toNat 0))), he, (leads_ren [] rfl rfl ⟨⟨rfl, rfl⟩, trivial⟩ ⟨⟨⟨rfl, rfl⟩, trivial⟩, rfl, ⟨⟨rfl, rfl⟩, rfl⟩, rfl, trivial⟩)⟩
      ·refine go_rq he fun he => ?_
       have he := ok_some he
       exact ⟨(k_1, (k2_ + (1:Int)), s_1), he, (leads_ren [] rfl rfl ⟨⟨rfl, rfl⟩, trivial⟩ ⟨⟨⟨rfl, rfl⟩, trivial⟩, rfl, ⟨⟨rfl, rfl⟩, rfl⟩, rfl, trivial⟩)⟩
     ·exact ⟨(k_1, s_1), ok_up he, (leads_ren [] rfl rfl ⟨⟨rfl, rfl⟩, trivial⟩ ⟨⟨⟨rfl, rfl⟩, trivial⟩, rfl, trivial⟩)⟩
   ·refine go_rq he fun he => ?_
    have he := ok_some he
    exact ⟨(k_ + (1:Int)), he, (leads_ren [] rfl rfl ⟨⟨rfl, rfl⟩, trivial⟩ ⟨⟨⟨rfl, rfl⟩, trivial⟩, rfl, trivial⟩)⟩
  ·have he := ok_some he
   exact ⟨rfl, _, _, (leads_ren [(900, 0)] (l := [(2, .c (.own 900 false))]) (st' := [(0, .dead), (900, .sl 3 y0_ s_ .shallow)]) rfl rfl ⟨trivial, ⟨rfl, rfl⟩, trivial⟩ ⟨⟨⟨rfl, rfl⟩, trivial⟩, trivial⟩), he⟩

noncomputable def c_impl_ClauseOf : Con := fun args st => match args, st with
  | [.c (.imm (.int .i64) lits)], [] => .opt (Bool × Int × (List D1_)) (impl_ClauseOf lits) (fun r => .ret (.tup [.agg [.own 901 false, .int .i64 r.2.1], .c (.bool r.1)]) [(900, .rc [.own 901 false, .int .i64 r.2.1]), (901, .sl 76 y1_ r.2.2 .shallow)])
  | _, _ => .fail

noncomputable def C_impl_ClauseOf : Cfg := { y := tys, n := 52, h := 0, tab := [(65, c_slices_Clone_int), (69, c_impl_isLiteral), (75, c_slices_Contains_int), (76, c_slices_SortFunc_int__impl_ClauseOf_1), (78, c_slices_Compact_int)], cut := [], hand := [(76, [0]), (78, [0])], good := [], deep := [], sched := [] }

theorem t_impl_ClauseOf : TabOk Tryz.prog C_impl_ClauseOf := by
  refine tabOk_of ?_
  simp only [C_impl_ClauseOf, List.forall_mem_cons]
  exact ⟨k_slices_Clone_int, k_impl_isLiteral, k_slices_Contains_int, k_slices_SortFunc_int__impl_ClauseOf_1, k_slices_Compact_int, fun p h => by cases h⟩

theorem k_impl_ClauseOf : Entry Tryz.prog 53 c_impl_ClauseOf := by
 refine entry_by (C := C_impl_ClauseOf) mixed tys_ok t_impl_ClauseOf (fn := Tryz.f53) (c := bd Tryz.f53) (by kernel_rfl) (by kernel_rfl) (by kernel_rfl) (by kernel_rfl) ?_
 intro args st k he
 unfold c_impl_ClauseOf at he
 split at he
 rotate_left
 ·exact he.elim
 rename_i lits
 have he : Ok (impl_ClauseOf lits) (fun r => k (.tup [.agg [.own 901 false, .int .i64 r.2.1], .c (.bool r.1)]) [(900, .rc [.own 901 false, .int .i64 r.2.1]), (901, .sl 76 y1_ r.2.2 .shallow)]) := he
 refine ⟨rfl, rfl, ?_⟩
 refine go_if he (fun he => ?_) fun he => ?_
 ·have he := ok_some he
  exact ⟨rfl, _, _, (leads_ren [(900, 2)] (l := [(2, .c (.ptr 900 0)), (3, .c (.bool false))]) (st' := [(900, .rc [.own 901 false, .int .i64 (0:Int)]), (901, .sl 76 y1_ ([] : List D1_) .shallow)]) rfl rfl ⟨⟨⟨rfl, trivial⟩, rfl, trivial⟩, trivial, trivial⟩ ⟨⟨⟨rfl, rfl⟩, rfl⟩, .inr rfl, trivial⟩), he⟩
 ·refine loop_model mixed tys_ok t_impl_ClauseOf (S := Int) (I := (fun i => (envOf [(0, .c (.imm y0_ lits)), (2, .c (.ptr 10000000 0)), (14, .c (.imm y0_ lits)), (15, .c (.int .i64 (lits.length:Int))), (16, .c (.int .i64 i))], [(10000000, .rc [.nil, .int .i64 (0:Int)])]))) (f := impl_ClauseOf_l1 lits) (K := (fun r => k (.tup [.agg [.own 901 false, .int .i64 r.2.1], .c (.bool r.1)]) [(900, .rc [.own 901 false, .int .i64 r.2.1]), (901, .sl 76 y1_ r.2.2 .shallow)])) he (leads_ren [(10000000, 2)] rfl rfl ⟨⟨rfl, rfl, trivial⟩, trivial⟩ ⟨.inl rfl, ⟨⟨rfl, rfl⟩, rfl⟩, .inl rfl, rfl, rfl, trivial⟩) ?_
  rintro i J1 he
  refine go_if he (fun he => ?_) fun he => ?_
  ·refine go_rq he fun he => ?_
   refine go_bind he fun r1_ he => ?_
   refine go_if2 he (fun he => ?_) fun he => ?_
   ·refine go_rq he fun he => ?_
    refine go_bind he fun r2_ he => ?_
    refine go_if he (fun he => ?_) fun he => ?_
    ·have he := ok_some he
     exact ⟨rfl, _, _, (leads_ren [(900, 10000000)] (l := [(2, .c (.ptr 900 0)), (3, .c (.bool false))]) (st' := [(900, .rc [.own 901 false, .int .i64 (0:Int)]), (901, .sl 76 y1_ ([] : List D1_) .shallow)]) rfl rfl ⟨⟨⟨rfl, trivial⟩, rfl, trivial⟩, trivial, trivial⟩ ⟨⟨⟨rfl, rfl⟩, rfl⟩, .inr rfl, trivial⟩), he⟩
    ·refine go_rq he fun he => ?_
     have he := ok_some he
     exact ⟨(i + (1:Int)), he, (leads_ren [] rfl rfl ⟨⟨rfl, rfl, trivial⟩, trivial⟩ ⟨.inl rfl, ⟨⟨rfl, rfl⟩, rfl⟩, .inl rfl, rfl, rfl, trivial⟩)⟩
   ·have he := ok_some he
    exact ⟨rfl, _, _, (leads_ren [(900, 10000000)] (l := [(2, .c (.ptr 900 0)), (3, .c (.bool false))]) (st' := [(900, .rc [.own 901 false, .int .i64 (0:Int)]), (901, .sl 76 y1_ ([] : List D1_) .shallow)]) rfl rfl ⟨⟨⟨rfl, trivial⟩, rfl, trivial⟩, trivial, trivial⟩ ⟨⟨⟨rfl, rfl⟩, rfl⟩, .inr rfl, trivial⟩), he⟩
  ·refine go_bind he fun r3_ he => ?_
   refine go_bind he fun r4_ he => ?_
   refine go_bind he fun r5_ he => ?_
   refine loop_model mixed tys_ok t_impl_ClauseOf (S := Int × (List D1_)) (I := (fun (i1, c_0) => (envOf [(2, .c (.ptr 10001000 0)), (7, .c (.ptr 10001001 0)), (37, .c (.own 10001002 false)), (38, .c (.int .i64 (r5_.length:Int))), (39, .c (.int .i64 i1))], [(10001000, .rc [.nil, .int .i64 (0:Int)]), (10001001, .rc [.own 10001003 false, .int .i64 (1:Int)]), (10001002, .sl 3 y0_ r5_ .shallow), (10001003, .sl 76 y1_ c_0 .shallow)]))) (f := impl_ClauseOf_l2 r5_) (K := (LK J1 (fun r => k (.tup [.agg [.own 901 false, .int .i64 r.2.1], .c (.bool r.1)]) [(900, .rc [.own 901 false, .int .i64 r.2.1]), (901, .sl 76 y1_ r.2.2 .shallow)]))) he (leads_ren [(10001000, 10000000), (10001001, 7), (10001002, 38900)] rfl rfl ⟨⟨rfl, rfl, trivial⟩, ⟨⟨rfl, trivial⟩, rfl, trivial⟩, ⟨rfl, rfl⟩, trivial, trivial⟩ ⟨⟨⟨rfl, rfl⟩, rfl⟩, ⟨⟨rfl, rfl⟩, rfl⟩, ⟨⟨rfl, rfl⟩, trivial⟩, rfl, rfl, trivial⟩) ?_
   rintro ⟨i1, c_0⟩ J2 he
   refine go_if he (fun he => ?_) fun he => ?_
   ·refine go_rq he fun he => ?_
    refine go_rq he fun he => ?_
    refine go_rq he fun he => ?_
    have he := ok_some he
    exact ⟨((i1 + (1:Int)), (c_0 ++ [((1:Int), (r5_.getD i1.toNat 0))])), he, (leads_ren [(10001003, 48)] rfl rfl ⟨⟨rfl, rfl, trivial⟩, ⟨⟨⟨rfl, rfl⟩, trivial⟩, rfl, trivial⟩, ⟨rfl, rfl⟩, ⟨rfl, rfl⟩, trivial⟩ ⟨⟨⟨rfl, rfl⟩, rfl⟩, ⟨⟨rfl, rfl⟩, rfl⟩, ⟨⟨rfl, rfl⟩, trivial⟩, rfl, rfl, trivial⟩)⟩
   ·have he := ok_some he
    exact ⟨rfl, _, _, (leads_ren [(900, 10001000), (901, 10001003)] (l := [(2, .c (.ptr 900 0)), (3, .c (.bool true))]) (st' := [(900, .rc [.own 901 false, .int .i64 (1:Int)]), (901, .sl 76 y1_ c_0 .shallow)]) rfl rfl ⟨⟨⟨⟨rfl, rfl⟩, trivial⟩, rfl, trivial⟩, ⟨rfl, rfl⟩, trivial⟩ ⟨⟨⟨rfl, rfl⟩, rfl⟩, .inr rfl, trivial⟩), he⟩

noncomputable def c_impl_searching_fail__Rsd : Con := fun args st => match args, st with
  | [.c (.ptr 0 0), .c (.imm (.int .i64) decisions)], [(0, .rc [.own 1 false, .int .i64 s_1, .own 2 false, .bool s_3]), (1, .sl 56 (.pair (.sl (.pair (.int .i64) (.int .i64))) (.int .i64)) o1 .shallow), (2, .sl 65 (.pair (.int .i64) (.pair (.int .i64) (.pair (.int .i64) (.pair (.sl (.pair (.int .i64) (.int .i64))) (.int .i64))))) o2 (.deep true .no))] => .opt ((List D2_) × (List D5_)) (impl_searching_fail__Rsd decisions s_1 s_3 o1 o2) (fun r => .ret (.tup []) [(0, .rc [.own 900 false, .int .i64 s_1, .own 901 false, .bool s_3]), (1, .dead), (2, .dead), (900, .sl 56 y2_ r.1 .shallow), (901, .sl 65 y5_ r.2 (.deep true .no))])
  | _, _ => .fail

noncomputable def C_impl_searching_fail__Rsd : Cfg := { y := tys, n := 48, h := 3, tab := [(53, c_impl_ClauseOf), (71, c_impl_Constraint_own)], cut := [6, 8], hand := [], good := [], deep := [44], sched := [(7, (.first 0 (.first 1 (.alt 2 (.first 3 (.alt 4 (.alt 5 (.alt 6 (.alt 7 (.alt 8 (.first 9 (.alt 10 .done .stop)) .stop) .stop) .stop) .stop) (.alt 5 (.alt 4 (.alt 6 (.alt 7 (.alt 8 (.first 9 (.alt 10 .done .stop)) .stop) .stop) .stop) (.alt 6 (.alt 4 (.alt 7 (.alt 8 (.first 9 (.alt 10 .done .stop)) .stop) .stop) .stop) .stop)) .stop))) (.alt 5 (.alt 2 (.first 3 (.alt 4 (.alt 6 (.alt 7 (.alt 8 (.first 9 (.alt 10 .done .stop)) .stop) .stop) .stop) (.alt 6 (.alt 4 (.alt 7 (.alt 8 (.first 9 (.alt 10 .done .stop)) .stop) .stop) .stop) .stop))) (.alt 6 (.alt 2 (.first 3 (.alt 4 (.alt 7 (.alt 8 (.first 9 (.alt 10 .done .stop)) .stop) .stop) .stop)) .stop) .stop)) .stop))))), (8, (.first 0 (.first 1 (.alt 2 (.first 3 (.alt 4 (.alt 5 (.alt 6 (.alt 7 (.alt 8 (.alt 9 (.alt 10 (.first 11 (.alt 12 .done .stop)) .stop) .stop) .stop) .stop) .stop) .stop) (.alt 5 (.alt 4 (.alt 6 (.alt 7 (.alt 8 (.alt 9 (.alt 10 (.first 11 (.alt 12 .done .stop)) .stop) .stop) .stop) .stop) .stop) (.alt 6 (.alt 4 (.alt 7 (.alt 8 (.alt 9 (.alt 10 (.first 11 (.alt 12 .done .stop)) .stop) .stop) .stop) .stop) (.alt 7 (.alt 4 (.alt 8 (.alt 9 (.alt 10 (.first 11 (.alt 12 .done .stop)) .stop) .stop) .stop) (.alt 8 (.alt 4 (.alt 9 (.alt 10 (.first 11 (.alt 12 .done .stop)) .stop) .stop) .stop) .stop)) .stop)) .stop)) .stop))) (.alt 5 (.alt 2 (.first 3 (.alt 4 (.alt 6 (.alt 7 (.alt 8 (.alt 9 (.alt 10 (.first 11 (.alt 12 .done .stop)) .stop) .stop) .stop) .stop) .stop) (.alt 6 (.alt 4 (.alt 7 (.alt 8 (.alt 9 (.alt 10 (.first 11 (.alt 12 .done .stop)) .stop) .stop) .stop) .stop) (.alt 7 (.alt 4 (.alt 8 (.alt 9 (.alt 10 (.first 11 (.alt 12 .done .stop)) .stop) .stop) .stop) (.alt 8 (.alt 4 (.alt 9 (.alt 10 (.first 11 (.alt 12 .done .stop)) .stop) .stop) .stop) .stop)) .stop)) .stop))) (.alt 6 (.alt 2 (.first 3 (.alt 4 (.alt 7 (.alt 8 (.alt 9 (.alt 10 (.first 11 (.alt 12 .done .stop)) .stop) .stop) .stop) .stop) (.alt 7 (.alt 4 (.alt 8 (.alt 9 (.alt 10 (.first 11 (.alt 12 .done .stop)) .stop) .stop) .stop) (.alt 8 (.alt 4 (.alt 9 (.alt 10 (.first 11 (.alt 12 .done .stop)) .stop) .stop) .stop) .stop)) .stop))) (.alt 7 (.alt 2 (.first 3 (.alt 4 (.alt 8 (.alt 9 (.alt 10 (.first 11 (.alt 12 .done .stop)) .stop) .stop) .stop) (.alt 8 (.alt 4 (.alt 9 (.alt 10 (.first 11 (.alt 12 .done .stop)) .stop) .stop) .stop) .stop))) (.alt 8 (.alt 2 (.first 3 (.alt 4 (.alt 9 (.alt 10 (.first 11 (.alt 12 .done .stop)) .stop) .stop) .stop)) .stop) .stop)) .stop)) .stop)) .stop)))))] }

theorem t_impl_searching_fail__Rsd : TabOk Tryz.prog C_impl_searching_fail__Rsd := by
  refine tabOk_of ?_
  simp only [C_impl_searching_fail__Rsd, List.forall_mem_cons]
  exact ⟨k_impl_ClauseOf, k_impl_Constraint_own, fun p h => by cases h⟩

theorem k_impl_searching_fail__Rsd : Entry Tryz.prog 74 c_impl_searching_fail__Rsd := by
 refine entry_by (C := C_impl_searching_fail__Rsd) mixed tys_ok t_impl_searching_fail__Rsd (fn := Tryz.f74) (c := bd Tryz.f74) (by kernel_rfl) (by kernel_rfl) (by kernel_rfl) (by kernel_rfl) ?_
 intro args st k he
 unfold c_impl_searching_fail__Rsd at he
 split at he
 rotate_left
 ·exact he.elim
 rename_i decisions s_1 s_3 o1 o2
 have he : Ok (impl_searching_fail__Rsd decisions s_1 s_3 o1 o2) (fun r => k (.tup []) [(0, .rc [.own 900 false, .int .i64 s_1, .own 901 false, .bool s_3]), (1, .dead), (2, .dead), (900, .sl 56 y2_ r.1 .shallow), (901, .sl 65 y5_ r.2 (.deep true .no))]) := he
 refine ⟨rfl, rfl, ?_⟩
 refine seq_model mixed tys_ok t_impl_searching_fail__Rsd (S := (List Int)) (I := (fun lits1 => (envOf [(0, .c (.ptr 0 0)), (4, .c (.own 10001000 false))], [(0, .rc [.own 1 false, .int .i64 s_1, .own 2 false, .bool s_3]), (1, .sl 56 y2_ o1 .shallow), (2, .sl 65 y5_ o2 (.deep true .no)), (10001000, .sl 3 y0_ lits1 .shallow)]))) (B := fun s => Ok (impl_searching_fail__Rsd_j1 o1 o2 s) (fun r => k (.tup []) [(0, .rc [.own 900 false, .int .i64 s_1, .own 901 false, .bool s_3]), (1, .dead), (2, .dead), (900, .sl 56 y2_ r.1 .shallow), (901, .sl 65 y5_ r.2 (.deep true .no))])) ?_ ?_
 ·rintro lits1 he
  refine go_bind he fun r1_ he => ?_
  refine seq_model mixed tys_ok t_impl_searching_fail__Rsd (S := Unit) (I := (fun _ => (envOf [(0, .c (.ptr 0 0)), (7, .c (.ptr 10002000 0))], [(0, .rc [.own 10002001 false, .int .i64 s_1, .own 2 false, .bool s_3]), (1, .dead), (2, .sl 65 y5_ o2 (.deep true .no)), (10002000, .rc [.imm y1_ r1_.2.2, .int .i64 r1_.2.1]), (10002001, .sl 56 y2_ (o1 ++ [(r1_.2.2, r1_.2.1)]) .shallow)]))) (B := fun s => Ok (impl_searching_fail__Rsd_j2 o1 o2 r1_ s) (fun r => k (.tup []) [(0, .rc [.own 900 false, .int .i64 s_1, .own 901 false, .bool s_3]), (1, .dead), (2, .dead), (900, .sl 56 y2_ r.1 .shallow), (901, .sl 65 y5_ r.2 (.deep true .no))])) ?_ ?_
  ·rintro ⟨⟩ he
   refine And.intro (by kernel_rfl) ?_
   obtain ⟨r3_, hq1, he⟩ := ok_bind he
   have he := ok_rq he
   have hq2 := he.1
   have he := he.2
   refine And.intro ?_ (And.intro ?_ (trivial))
   ·skip
    refine And.intro ?_ (And.intro ?_ (trivial))
    ·skip
     refine And.intro ?_ trivial
     refine And.intro ?_ trivial
     refine ⟨r3_, hq1, ?_⟩
     refine And.intro ?_ trivial
     refine And.intro ?_ trivial
     refine And.intro ?_ trivial
     refine And.intro hq2 ?_
     refine And.intro ?_ trivial
     refine And.intro ?_ trivial
     have he := ok_some he
     exact ⟨rfl, _, _, (leads_ren [(900, 10002001), (901, 45)] (l := []) (st' := [(0, .rc [.own 900 false, .int .i64 s_1, .own 901 false, .bool s_3]), (1, .dead), (2, .dead), (900, .sl 56 y2_ (o1 ++ [(r1_.2.2, r1_.2.1)]) .shallow), (901, .sl 65 y5_ (o2 ++ [((7:Int), ((0:Int), ((0:Int), (r3_.2, r3_.1))))]) (.deep true .no))]) rfl rfl ⟨⟨⟨⟨rfl, rfl⟩, trivial⟩, rfl, ⟨⟨rfl, rfl⟩, trivial⟩, .inl rfl, trivial⟩, trivial, trivial, ⟨rfl, rfl⟩, ⟨rfl, rfl⟩, trivial⟩ trivial), he⟩
    ·skip
     refine And.intro ?_ (And.intro ?_ (trivial))
     ·skip
      refine And.intro ?_ trivial
      refine ⟨r3_, hq1, ?_⟩
      refine And.intro ?_ trivial
      refine And.intro ?_ trivial
      refine And.intro ?_ trivial
      refine And.intro hq2 ?_
      refine And.intro ?_ trivial
      refine And.intro ?_ trivial
      have he := ok_some he
      exact ⟨rfl, _, _, (leads_ren [(900, 10002001), (901, 45)] (l := []) (st' := [(0, .rc [.own 900 false, .int .i64 s_1, .own 901 false, .bool s_3]), (1, .dead), (2, .dead), (900, .sl 56 y2_ (o1 ++ [(r1_.2.2, r1_.2.1)]) .shallow), (901, .sl 65 y5_ (o2 ++ [((7:Int), ((0:Int), ((0:Int), (r3_.2, r3_.1))))]) (.deep true .no))]) rfl rfl ⟨⟨⟨⟨rfl, rfl⟩, trivial⟩, rfl, ⟨⟨rfl, rfl⟩, trivial⟩, .inl rfl, trivial⟩, trivial, trivial, ⟨rfl, rfl⟩, ⟨rfl, rfl⟩, trivial⟩ trivial), he⟩
     ·skip
      refine ⟨r3_, hq1, ?_⟩
      refine And.intro ?_ (And.intro ?_ (trivial))
      ·skip
       refine And.intro ?_ trivial
       refine And.intro ?_ trivial
       refine And.intro ?_ trivial
       refine And.intro hq2 ?_
       refine And.intro ?_ trivial
       refine And.intro ?_ trivial
       have he := ok_some he
       exact ⟨rfl, _, _, (leads_ren [(900, 10002001), (901, 45)] (l := []) (st' := [(0, .rc [.own 900 false, .int .i64 s_1, .own 901 false, .bool s_3]), (1, .dead), (2, .dead), (900, .sl 56 y2_ (o1 ++ [(r1_.2.2, r1_.2.1)]) .shallow), (901, .sl 65 y5_ (o2 ++ [((7:Int), ((0:Int), ((0:Int), (r3_.2, r3_.1))))]) (.deep true .no))]) rfl rfl ⟨⟨⟨⟨rfl, rfl⟩, trivial⟩, rfl, ⟨⟨rfl, rfl⟩, trivial⟩, .inl rfl, trivial⟩, trivial, trivial, ⟨rfl, rfl⟩, ⟨rfl, rfl⟩, trivial⟩ trivial), he⟩
      ·skip
       refine And.intro ?_ (And.intro ?_ (trivial))
       ·skip
        refine And.intro ?_ trivial
        refine And.intro ?_ trivial
        refine And.intro hq2 ?_
        refine And.intro ?_ trivial
        refine And.intro ?_ trivial
        have he := ok_some he
        exact ⟨rfl, _, _, (leads_ren [(900, 10002001), (901, 45)] (l := []) (st' := [(0, .rc [.own 900 false, .int .i64 s_1, .own 901 false, .bool s_3]), (1, .dead), (2, .dead), (900, .sl 56 y2_ (o1 ++ [(r1_.2.2, r1_.2.1)]) .shallow), (901, .sl 65 y5_ (o2 ++ [((7:Int), ((0:Int), ((0:Int), (r3_.2, r3_.1))))]) (.deep true .no))]) rfl rfl ⟨⟨⟨⟨rfl, rfl⟩, trivial⟩, rfl, ⟨⟨rfl, rfl⟩, trivial⟩, .inl rfl, trivial⟩, trivial, trivial, ⟨rfl, rfl⟩, ⟨rfl, rfl⟩, trivial⟩ trivial), he⟩
       ·skip
        refine And.intro ?_ trivial
        refine And.intro ?_ trivial
        refine And.intro hq2 ?_
        refine And.intro ?_ trivial
        refine And.intro ?_ trivial
        have he := ok_some he
        exact ⟨rfl, _, _, (leads_ren [(900, 10002001), (901, 45)] (l := []) (st' := [(0, .rc [.own 900 false, .int .i64 s_1, .own 901 false, .bool s_3]), (1, .dead), (2, .dead), (900, .sl 56 y2_ (o1 ++ [(r1_.2.2, r1_.2.1)]) .shallow), (901, .sl 65 y5_ (o2 ++ [((7:Int), ((0:Int), ((0:Int), (r3_.2, r3_.1))))]) (.deep true .no))]) rfl rfl ⟨⟨⟨⟨rfl, rfl⟩, trivial⟩, rfl, ⟨⟨rfl, rfl⟩, trivial⟩, .inl rfl, trivial⟩, trivial, trivial, ⟨rfl, rfl⟩, ⟨rfl, rfl⟩, trivial⟩ trivial), he⟩
   ·skip
    refine And.intro ?_ (And.intro ?_ (trivial))
    ·skip
     refine And.intro ?_ (And.intro ?_ (trivial))
     ·skip
      refine And.intro ?_ trivial
      refine ⟨r3_, hq1, ?_⟩
      refine And.intro ?_ trivial
      refine And.intro ?_ trivial
      refine And.intro ?_ trivial
      refine And.intro hq2 ?_
      refine And.intro ?_ trivial
      refine And.intro ?_ trivial
      have he := ok_some he
      exact ⟨rfl, _, _, (leads_ren [(900, 10002001), (901, 45)] (l := []) (st' := [(0, .rc [.own 900 false, .int .i64 s_1, .own 901 false, .bool s_3]), (1, .dead), (2, .dead), (900, .sl 56 y2_ (o1 ++ [(r1_.2.2, r1_.2.1)]) .shallow), (901, .sl 65 y5_ (o2 ++ [((7:Int), ((0:Int), ((0:Int), (r3_.2, r3_.1))))]) (.deep true .no))]) rfl rfl ⟨⟨⟨⟨rfl, rfl⟩, trivial⟩, rfl, ⟨⟨rfl, rfl⟩, trivial⟩, .inl rfl, trivial⟩, trivial, trivial, ⟨rfl, rfl⟩, ⟨rfl, rfl⟩, trivial⟩ trivial), he⟩
     ·skip
      refine ⟨r3_, hq1, ?_⟩
      refine And.intro ?_ (And.intro ?_ (trivial))
      ·skip
       refine And.intro ?_ trivial
       refine And.intro ?_ trivial
       refine And.intro ?_ trivial
       refine And.intro hq2 ?_
       refine And.intro ?_ trivial
       refine And.intro ?_ trivial
       have he := ok_some he
       exact ⟨rfl, _, _, (leads_ren [(900, 10002001), (901, 45)] (l := []) (st' := [(0, .rc [.own 900 false, .int .i64 s_1, .own 901 false, .bool s_3]), (1, .dead), (2, .dead), (900, .sl 56 y2_ (o1 ++ [(r1_.2.2, r1_.2.1)]) .shallow), (901, .sl 65 y5_ (o2 ++ [((7:Int), ((0:Int), ((0:Int), (r3_.2, r3_.1))))]) (.deep true .no))]) rfl rfl ⟨⟨⟨⟨rfl, rfl⟩, trivial⟩, rfl, ⟨⟨rfl, rfl⟩, trivial⟩, .inl rfl, trivial⟩, trivial, trivial, ⟨rfl, rfl⟩, ⟨rfl, rfl⟩, trivial⟩ trivial), he⟩
      ·skip
       refine And.intro ?_ (And.intro ?_ (trivial))
       ·skip
        refine And.intro ?_ trivial
        refine And.intro ?_ trivial
        refine And.intro hq2 ?_
        refine And.intro ?_ trivial
        refine And.intro ?_ trivial
        have he := ok_some he
        exact ⟨rfl, _, _, (leads_ren [(900, 10002001), (901, 45)] (l := []) (st' := [(0, .rc [.own 900 false, .int .i64 s_1, .own 901 false, .bool s_3]), (1, .dead), (2, .dead), (900, .sl 56 y2_ (o1 ++ [(r1_.2.2, r1_.2.1)]) .shallow), (901, .sl 65 y5_ (o2 ++ [((7:Int), ((0:Int), ((0:Int), (r3_.2, r3_.1))))]) (.deep true .no))]) rfl rfl ⟨⟨⟨⟨rfl, rfl⟩, trivial⟩, rfl, ⟨⟨rfl, rfl⟩, trivial⟩, .inl rfl, trivial⟩, trivial, trivial, ⟨rfl, rfl⟩, ⟨rfl, rfl⟩, trivial⟩ trivial), he⟩
       ·skip
        refine And.intro ?_ trivial
        refine And.intro ?_ trivial
        refine And.intro hq2 ?_
        refine And.intro ?_ trivial
        refine And.intro ?_ trivial
        have he := ok_some he
        exact ⟨rfl, _, _, (leads_ren [(900, 10002001), (901, 45)] (l := []) (st' := [(0, .rc [.own 900 false, .int .i64 s_1, .own 901 false, .bool s_3]), (1, .dead), (2, .dead), (900, .sl 56 y2_ (o1 ++ [(r1_.2.2, r1_.2.1)]) .shallow), (901, .sl 65 y5_ (o2 ++ [((7:Int), ((0:Int), ((0:Int), (r3_.2, r3_.1))))]) (.deep true .no))]) rfl rfl ⟨⟨⟨⟨rfl, rfl⟩, trivial⟩, rfl, ⟨⟨rfl, rfl⟩, trivial⟩, .inl rfl, trivial⟩, trivial, trivial, ⟨rfl, rfl⟩, ⟨rfl, rfl⟩, trivial⟩ trivial), he⟩
    ·skip
     refine ⟨r3_, hq1, ?_⟩
     refine And.intro ?_ (And.intro ?_ (trivial))
     ·skip
      refine And.intro ?_ (And.intro ?_ (trivial))
      ·skip
       refine And.intro ?_ trivial
       refine And.intro ?_ trivial
       refine And.intro ?_ trivial
       refine And.intro hq2 ?_
       refine And.intro ?_ trivial
       refine And.intro ?_ trivial
       have he := ok_some he
       exact ⟨rfl, _, _, (leads_ren [(900, 10002001), (901, 45)] (l := []) (st' := [(0, .rc [.own 900 false, .int .i64 s_1, .own 901 false, .bool s_3]), (1, .dead), (2, .dead), (900, .sl 56 y2_ (o1 ++ [(r1_.2.2, r1_.2.1)]) .shallow), (901, .sl 65 y5_ (o2 ++ [((7:Int), ((0:Int), ((0:Int), (r3_.2, r3_.1))))]) (.deep true .no))]) rfl rfl ⟨⟨⟨⟨rfl, rfl⟩, trivial⟩, rfl, ⟨⟨rfl, rfl⟩, trivial⟩, .inl rfl, trivial⟩, trivial, trivial, ⟨rfl, rfl⟩, ⟨rfl, rfl⟩, trivial⟩ trivial), he⟩
      ·skip
       refine And.intro ?_ (And.intro ?_ (trivial))
       ·skip
        refine And.intro ?_ trivial
        refine And.intro ?_ trivial
        refine And.intro hq2 ?_
        refine And.intro ?_ trivial
        refine And.intro ?_ trivial
        have he := ok_some he
        exact ⟨rfl, _, _, (leads_ren [(900, 10002001), (901, 45)] (l := []) (st' := [(0, .rc [.own 900 false, .int .i64 s_1, .own 901 false, .bool s_3]), (1, .dead), (2, .dead), (900, .sl 56 y2_ (o1 ++ [(r1_.2.2, r1_.2.1)]) .shallow), (901, .sl 65 y5_ (o2 ++ [((7:Int), ((0:Int), ((0:Int), (r3_.2, r3_.1))))]) (.deep true .no))]) rfl rfl ⟨⟨⟨⟨rfl, rfl⟩, trivial⟩, rfl, ⟨⟨rfl, rfl⟩, trivial⟩, .inl rfl, trivial⟩, trivial, trivial, ⟨rfl, rfl⟩, ⟨rfl, rfl⟩, trivial⟩ trivial), he⟩
       ·skip
        refine And.intro ?_ trivial
        refine And.intro ?_ trivial
        refine And.intro hq2 ?_
        refine And.intro ?_ trivial
        refine And.intro ?_ trivial
        have he := ok_some he
        exact ⟨rfl, _, _, (leads_ren [(900, 10002001), (901, 45)] (l := []) (st' := [(0, .rc [.own 900 false, .int .i64 s_1, .own 901 false, .bool s_3]), (1, .dead), (2, .dead), (900, .sl 56 y2_ (o1 ++ [(r1_.2.2, r1_.2.1)]) .shallow), (901, .sl 65 y5_ (o2 ++ [((7:Int), ((0:Int), ((0:Int), (r3_.2, r3_.1))))]) (.deep true .no))]) rfl rfl ⟨⟨⟨⟨rfl, rfl⟩, trivial⟩, rfl, ⟨⟨rfl, rfl⟩, trivial⟩, .inl rfl, trivial⟩, trivial, trivial, ⟨rfl, rfl⟩, ⟨rfl, rfl⟩, trivial⟩ trivial), he⟩
     ·skip
      refine And.intro ?_ (And.intro ?_ (trivial))
      ·skip
       refine And.intro ?_ (And.intro ?_ (trivial))
       ·skip
        refine And.intro ?_ trivial
        refine And.intro ?_ trivial
        refine And.intro hq2 ?_
        refine And.intro ?_ trivial
        refine And.intro ?_ trivial
        have he := ok_some he
        exact ⟨rfl, _, _, (leads_ren [(900, 10002001), (901, 45)] (l := []) (st' := [(0, .rc [.own 900 false, .int .i64 s_1, .own 901 false, .bool s_3]), (1, .dead), (2, .dead), (900, .sl 56 y2_ (o1 ++ [(r1_.2.2, r1_.2.1)]) .shallow), (901, .sl 65 y5_ (o2 ++ [((7:Int), ((0:Int), ((0:Int), (r3_.2, r3_.1))))]) (.deep true .no))]) rfl rfl ⟨⟨⟨⟨rfl, rfl⟩, trivial⟩, rfl, ⟨⟨rfl, rfl⟩, trivial⟩, .inl rfl, trivial⟩, trivial, trivial, ⟨rfl, rfl⟩, ⟨rfl, rfl⟩, trivial⟩ trivial), he⟩
       ·skip
        refine And.intro ?_ trivial
        refine And.intro ?_ trivial
        refine And.intro hq2 ?_
        refine And.intro ?_ trivial
        refine And.intro ?_ trivial
        have he := ok_some he
        exact ⟨rfl, _, _, (leads_ren [(900, 10002001), (901, 45)] (l := []) (st' := [(0, .rc [.own 900 false, .int .i64 s_1, .own 901 false, .bool s_3]), (1, .dead), (2, .dead), (900, .sl 56 y2_ (o1 ++ [(r1_.2.2, r1_.2.1)]) .shallow), (901, .sl 65 y5_ (o2 ++ [((7:Int), ((0:Int), ((0:Int), (r3_.2, r3_.1))))]) (.deep true .no))]) rfl rfl ⟨⟨⟨⟨rfl, rfl⟩, trivial⟩, rfl, ⟨⟨rfl, rfl⟩, trivial⟩, .inl rfl, trivial⟩, trivial, trivial, ⟨rfl, rfl⟩, ⟨rfl, rfl⟩, trivial⟩ trivial), he⟩
      ·skip
       refine And.intro ?_ trivial
       refine And.intro ?_ trivial
       refine And.intro ?_ trivial
       refine And.intro hq2 ?_
       refine And.intro ?_ trivial
       refine And.intro ?_ trivial
       have he := ok_some he
       exact ⟨rfl, _, _, (leads_ren [(900, 10002001), (901, 45)] (l := []) (st' := [(0, .rc [.own 900 false, .int .i64 s_1, .own 901 false, .bool s_3]), (1, .dead), (2, .dead), (900, .sl 56 y2_ (o1 ++ [(r1_.2.2, r1_.2.1)]) .shallow), (901, .sl 65 y5_ (o2 ++ [((7:Int), ((0:Int), ((0:Int), (r3_.2, r3_.1))))]) (.deep true .no))]) rfl rfl ⟨⟨⟨⟨rfl, rfl⟩, trivial⟩, rfl, ⟨⟨rfl, rfl⟩, trivial⟩, .inl rfl, trivial⟩, trivial, trivial, ⟨rfl, rfl⟩, ⟨rfl, rfl⟩, trivial⟩ trivial), he⟩
  ·skip
   refine And.intro (by kernel_rfl) ?_
   have he := ok_rq he
   have hq1 := he.1
   have he := he.2
   refine And.intro ?_ (And.intro ?_ (trivial))
   ·skip
    refine And.intro ?_ (And.intro ?_ (trivial))
    ·skip
     refine And.intro ?_ trivial
     refine And.intro ?_ trivial
     refine And.intro ?_ trivial
     refine And.intro hq1 ?_
     refine And.intro ?_ trivial
     refine And.intro ?_ trivial
     exact ⟨(), he, (leads_ren [(10002000, 7), (10002001, 33)] rfl rfl ⟨⟨⟨⟨rfl, rfl⟩, trivial⟩, rfl, ⟨⟨rfl, rfl⟩, trivial⟩, .inl rfl, trivial⟩, trivial, ⟨rfl, rfl⟩, ⟨.inr (.inr ⟨_, _, _, rfl, rfl⟩), rfl, trivial⟩, ⟨rfl, rfl⟩, trivial⟩ ⟨⟨⟨rfl, rfl⟩, rfl⟩, ⟨⟨rfl, rfl⟩, rfl⟩, trivial⟩)⟩
    ·skip
     refine And.intro ?_ (And.intro ?_ (trivial))
     ·skip
      refine And.intro ?_ trivial
      refine And.intro ?_ trivial
      refine And.intro hq1 ?_
      refine And.intro ?_ trivial
      refine And.intro ?_ trivial
      exact ⟨(), he, (leads_ren [(10002000, 7), (10002001, 33)] rfl rfl ⟨⟨⟨⟨rfl, rfl⟩, trivial⟩, rfl, ⟨⟨rfl, rfl⟩, trivial⟩, .inl rfl, trivial⟩, trivial, ⟨rfl, rfl⟩, ⟨.inr (.inr ⟨_, _, _, rfl, rfl⟩), rfl, trivial⟩, ⟨rfl, rfl⟩, trivial⟩ ⟨⟨⟨rfl, rfl⟩, rfl⟩, ⟨⟨rfl, rfl⟩, rfl⟩, trivial⟩)⟩
     ·skip
      refine And.intro ?_ trivial
      refine And.intro ?_ trivial
      refine And.intro hq1 ?_
      refine And.intro ?_ trivial
      refine And.intro ?_ trivial
      exact ⟨(), he, (leads_ren [(10002000, 7), (10002001, 33)] rfl rfl ⟨⟨⟨⟨rfl, rfl⟩, trivial⟩, rfl, ⟨⟨rfl, rfl⟩, trivial⟩, .inl rfl, trivial⟩, trivial, ⟨rfl, rfl⟩, ⟨.inr (.inr ⟨_, _, _, rfl, rfl⟩), rfl, trivial⟩, ⟨rfl, rfl⟩, trivial⟩ ⟨⟨⟨rfl, rfl⟩, rfl⟩, ⟨⟨rfl, rfl⟩, rfl⟩, trivial⟩)⟩
   ·skip
    refine And.intro ?_ (And.intro ?_ (trivial))
    ·skip
     refine And.intro ?_ (And.intro ?_ (trivial))
     ·skip
      refine And.intro ?_ trivial
      refine And.intro ?_ trivial
      refine And.intro hq1 ?_
      refine And.intro ?_ trivial
      refine And.intro ?_ trivial
      exact ⟨(), he, (leads_ren [(10002000, 7), (10002001, 33)] rfl rfl ⟨⟨⟨⟨rfl, rfl⟩, trivial⟩, rfl, ⟨⟨rfl, rfl⟩, trivial⟩, .inl rfl, trivial⟩, trivial, ⟨rfl, rfl⟩, ⟨.inr (.inr ⟨_, _, _, rfl, rfl⟩), rfl, trivial⟩, ⟨rfl, rfl⟩, trivial⟩ ⟨⟨⟨rfl, rfl⟩, rfl⟩, ⟨⟨rfl, rfl⟩, rfl⟩, trivial⟩)⟩
     ·skip
      refine And.intro ?_ trivial
      refine And.intro ?_ trivial
      refine And.intro hq1 ?_
      refine And.intro ?_ trivial
      refine And.intro ?_ trivial
      exact ⟨(), he, (leads_ren [(10002000, 7), (10002001, 33)] rfl rfl ⟨⟨⟨⟨rfl, rfl⟩, trivial⟩, rfl, ⟨⟨rfl, rfl⟩, trivial⟩, .inl rfl, trivial⟩, trivial, ⟨rfl, rfl⟩, ⟨.inr (.inr ⟨_, _, _, rfl, rfl⟩), rfl, trivial⟩, ⟨rfl, rfl⟩, trivial⟩ ⟨⟨⟨rfl, rfl⟩, rfl⟩, ⟨⟨rfl, rfl⟩, rfl⟩, trivial⟩)⟩
    ·skip
     refine And.intro ?_ trivial
     refine And.intro ?_ trivial
     refine And.intro ?_ trivial
     refine And.intro hq1 ?_
     refine And.intro ?_ trivial
     refine And.intro ?_ trivial
     exact ⟨(), he, (leads_ren [(10002000, 7), (10002001, 33)] rfl rfl ⟨⟨⟨⟨rfl, rfl⟩, trivial⟩, rfl, ⟨⟨rfl, rfl⟩, trivial⟩, .inl rfl, trivial⟩, trivial, ⟨rfl, rfl⟩, ⟨.inr (.inr ⟨_, _, _, rfl, rfl⟩), rfl, trivial⟩, ⟨rfl, rfl⟩, trivial⟩ ⟨⟨⟨rfl, rfl⟩, rfl⟩, ⟨⟨rfl, rfl⟩, rfl⟩, trivial⟩)⟩
 ·skip
  refine loop_model mixed tys_ok t_impl_searching_fail__Rsd (S := Int × (List Int)) (I := (fun (i, lits) => (envOf [(0, .c (.ptr 0 0)), (4, .c (.own 10000000 false)), (9, .c (.imm y0_ decisions)), (10, .c (.int .i64 (decisions.length:Int))), (11, .c (.int .i64 i))], [(0, .rc [.own 1 false, .int .i64 s_1, .own 2 false, .bool s_3]), (1, .sl 56 y2_ o1 .shallow), (2, .sl 65 y5_ o2 (.deep true .no)), (10000000, .sl 3 y0_ lits .shallow)]))) (f := impl_searching_fail__Rsd_l1 decisions o1 o2) (K := (fun r => k (.tup []) [(0, .rc [.own 900 false, .int .i64 s_1, .own 901 false, .bool s_3]), (1, .dead), (2, .dead), (900, .sl 56 y2_ r.1 .shallow), (901, .sl 65 y5_ r.2 (.deep true .no))])) he (leads_ren [] rfl rfl ⟨⟨⟨⟨rfl, rfl⟩, trivial⟩, rfl, ⟨⟨rfl, rfl⟩, trivial⟩, .inl rfl, trivial⟩, ⟨rfl, rfl⟩, ⟨rfl, rfl⟩, trivial, trivial⟩ ⟨⟨⟨rfl, rfl⟩, rfl⟩, ⟨rfl, trivial⟩, .inl rfl, rfl, rfl, trivial⟩) ?_
  rintro ⟨i, lits⟩ J1 he
  refine go_if he (fun he => ?_) fun he => ?_
  ·refine go_rq he fun he => ?_
   refine go_rq he fun he => ?_
   refine go_rq he fun he => ?_
   refine go_rq he fun he => ?_
   have he := ok_some he
   exact ⟨((i + (1:Int)), (lits ++ [(0 - (decisions.getD i.toNat 0))])), he, (leads_ren [(10000000, 19)] rfl rfl ⟨⟨⟨⟨rfl, rfl⟩, trivial⟩, rfl, ⟨⟨rfl, rfl⟩, trivial⟩, .inl rfl, trivial⟩, ⟨rfl, rfl⟩, ⟨rfl, rfl⟩, ⟨rfl, rfl⟩, trivial⟩ ⟨⟨⟨rfl, rfl⟩, rfl⟩, ⟨⟨rfl, rfl⟩, trivial⟩, .inl rfl, rfl, rfl, trivial⟩)⟩
  ·exact ⟨lits, ok_up he, (leads_ren [(10001000, 10000000)] rfl rfl ⟨⟨⟨⟨rfl, rfl⟩, trivial⟩, rfl, ⟨⟨rfl, rfl⟩, trivial⟩, .inl rfl, trivial⟩, ⟨rfl, rfl⟩, ⟨rfl, rfl⟩, ⟨rfl, rfl⟩, trivial⟩ ⟨⟨⟨rfl, rfl⟩, rfl⟩, ⟨⟨rfl, rfl⟩, trivial⟩, trivial⟩)⟩

noncomputable def c_impl_searching_visit__Rsd (n_ : Nat) : Con := fun args st => match args, st with
  | [.c (.ptr 0 0), .c (.imm (.int .i64) a1)], [(0, .rc [.own 1 false, .int .i64 o0_1, .own 2 false, .bool o0_3]), (1, .sl 56 (.pair (.sl (.pair (.int .i64) (.int .i64))) (.int .i64)) o1 .shallow), (2, .sl 65 (.pair (.int .i64) (.pair (.int .i64) (.pair (.int .i64) (.pair (.sl (.pair (.int .i64) (.int .i64))) (.int .i64))))) o2 (.deep true .no))] => .opt (Bool × Int × Bool × (List Bool) × (List D2_) × (List D5_)) (impl_searching_visit__Rsd n_ a1 o0_1 o0_3 o1 o2) (fun r => .ret (.tup [.c (.own 900 false), .c (.bool r.1)]) [(0, .rc [.own 901 false, .int .i64 r.2.1, .own 902 false, .bool r.2.2.1]), (1, .dead), (2, .dead), (900, .sl 4 .bool r.2.2.2.1 .shallow), (901, .sl 56 y2_ r.2.2.2.2.1 .shallow), (902, .sl 65 y5_ r.2.2.2.2.2 (.deep true .no))])
  | _, _ => .fail

noncomputable def C_impl_searching_visit__Rsd (n_ : Nat) : Cfg := { y := tys, n := 120, h := 3, tab := [(51, c_impl_searching_visit__Rsd n_), (65, c_slices_Clone_int), (70, c_impl_variableOf), (72, c_impl_propagate), (73, c_impl_valuesOf), (74, c_impl_searching_fail__Rsd)], cut := [13, 25, 28], hand := [], good := [], deep := [], sched := [] }

theorem t_impl_searching_visit__Rsd (n_ : Nat) (ih : Entry Tryz.prog 51 (c_impl_searching_visit__Rsd n_)) : TabOk Tryz.prog (C_impl_searching_visit__Rsd n_) := by
  refine tabOk_of ?_
  simp only [C_impl_searching_visit__Rsd, List.forall_mem_cons]
  exact ⟨ih, k_slices_Clone_int, k_impl_variableOf, k_impl_propagate, k_impl_valuesOf, k_impl_searching_fail__Rsd, fun p h => by cases h⟩

theorem k_impl_searching_visit__Rsd_step (n_ : Nat) (ih : Entry Tryz.prog 51 (c_impl_searching_visit__Rsd n_)) : Entry Tryz.prog 51 (c_impl_searching_visit__Rsd (n_ + 1)) := by
 refine entry_by (C := (C_impl_searching_visit__Rsd n_)) mixed tys_ok (t_impl_searching_visit__Rsd n_ ih) (fn := Tryz.f51) (c := bd Tryz.f51) (by kernel_rfl) (by kernel_rfl) (by kernel_rfl) (by kernel_rfl) ?_
 intro args st k he
 unfold c_impl_searching_visit__Rsd at he
 split at he
 rotate_left
 ·exact he.elim
 rename_i a1 o0_1 o0_3 o1 o2
 have he : Ok (impl_searching_visit__Rsd_rec (impl_searching_visit__Rsd n_) a1 o0_1 o0_3 o1 o2) (fun r => k (.tup [.c (.own 900 false), .c (.bool r.1)]) [(0, .rc [.own 901 false, .int .i64 r.2.1, .own 902 false, .bool r.2.2.1]), (1, .dead), (2, .dead), (900, .sl 4 .bool r.2.2.2.1 .shallow), (901, .sl 56 y2_ r.2.2.2.2.1 .shallow), (902, .sl 65 y5_ r.2.2.2.2.2 (.deep true .no))]) := he
 refine ⟨rfl, rfl, ?_⟩
 refine go_if2 he (fun he => ?_) fun he => ?_
 ·refine go_if he (fun he => ?_) fun he => ?_
  ·have he := ok_some he
   exact ⟨rfl, _, _, (leads_ren [(901, 1), (902, 2)] (l := [(4, .c (.own 900 false)), (5, .c (.bool false))]) (st' := [(0, .rc [.own 901 false, .int .i64 o0_1, .own 902 false, .bool true]), (1, .dead), (2, .dead), (900, .sl 4 .bool ([] : List Bool) .shallow), (901, .sl 56 y2_ o1 .shallow), (902, .sl 65 y5_ o2 (.deep true .no))]) rfl rfl ⟨⟨⟨⟨rfl, rfl⟩, trivial⟩, rfl, ⟨⟨rfl, rfl⟩, trivial⟩, .inr rfl, trivial⟩, trivial, trivial, trivial, ⟨rfl, rfl⟩, ⟨rfl, rfl⟩, trivial⟩ ⟨⟨rfl, trivial⟩, .inr rfl, trivial⟩), he⟩
  ·refine go_rq he fun he => ?_
   refine go_rq he fun he => ?_
   refine seq_model mixed tys_ok (t_impl_searching_visit__Rsd n_ ih) (S := (List Int)) (I := (fun i2 => (envOf [(0, .c (.ptr 0 0)), (1, .c (.imm y0_ a1)), (6, .c (.own 10001000 false))], [(0, .rc [.own 1 false, .int .i64 (o0_1 - (1:Int)), .own 2 false, .bool o0_3]), (1, .sl 56 y2_ o1 .shallow), (2, .sl 65 y5_ o2 (.deep true .no)), (10001000, .sl 3 y0_ i2 .shallow)]))) (B := fun s => Ok (impl_searching_visit__Rsd_j1 a1 o0_1 o0_3 o1 o2 (impl_searching_visit__Rsd n_) s) (fun r => k (.tup [.c (.own 900 false), .c (.bool r.1)]) [(0, .rc [.own 901 false, .int .i64 r.2.1, .own 902 false, .bool r.2.2.1]), (1, .dead), (2, .dead), (900, .sl 4 .bool r.2.2.2.1 .shallow), (901, .sl 56 y2_ r.2.2.2.2.1 .shallow), (902, .sl 65 y5_ r.2.2.2.2.2 (.deep true .no))])) ?_ ?_
   ·rintro i2 he
    refine go_bind he fun r3_ he => ?_
    refine seq_model mixed tys_ok (t_impl_searching_visit__Rsd n_ ih) (S := Int × Bool × (List D2_) × (List D5_)) (I := (fun (i_12, i_32, i_02, i_22) => (envOf [(0, .c (.ptr 0 0)), (1, .c (.imm y0_ a1))], [(0, .rc [.own 10004000 false, .int .i64 i_12, .own 10004001 false, .bool i_32]), (1, .dead), (2, .dead), (10004000, .sl 56 y2_ i_02 .shallow), (10004001, .sl 65 y5_ i_22 (.deep true .no))]))) (B := fun s => Ok (impl_searching_visit__Rsd_j2 a1 s) (fun r => k (.tup [.c (.own 900 false), .c (.bool r.1)]) [(0, .rc [.own 901 false, .int .i64 r.2.1, .own 902 false, .bool r.2.2.1]), (1, .dead), (2, .dead), (900, .sl 4 .bool r.2.2.2.1 .shallow), (901, .sl 56 y2_ r.2.2.2.2.1 .shallow), (902, .sl 65 y5_ r.2.2.2.2.2 (.deep true .no))])) ?_ ?_
    ·rintro ⟨i_12, i_32, i_02, i_22⟩ he
     refine go_bind he fun r9_ he => ?_
     have he := ok_some he
     exact ⟨rfl, _, _, (leads_ren [(901, 120900), (902, 120901)] (l := [(4, .c (.own 900 false)), (5, .c (.bool false))]) (st' := [(0, .rc [.own 901 false, .int .i64 i_12, .own 902 false, .bool i_32]), (1, .dead), (2, .dead), (900, .sl 4 .bool ([] : List Bool) .shallow), (901, .sl 56 y2_ r9_.1 .shallow), (902, .sl 65 y5_ r9_.2 (.deep true .no))]) rfl rfl ⟨⟨⟨⟨rfl, rfl⟩, trivial⟩, rfl, ⟨⟨rfl, rfl⟩, trivial⟩, .inl rfl, trivial⟩, trivial, trivial, trivial, ⟨rfl, rfl⟩, ⟨rfl, rfl⟩, trivial⟩ ⟨⟨rfl, trivial⟩, .inr rfl, trivial⟩), he⟩
    ·skip
     refine go_if he (fun he => ?_) fun he => ?_
     ·refine go_bind he fun r4_ he => ?_
      refine go_if he (fun he => ?_) fun he => ?_
      ·have he := ok_some he
       exact ⟨rfl, _, _, (leads_ren [(900, 74900), (901, 1), (902, 2)] (l := [(4, .c (.own 900 false)), (5, .c (.bool true))]) (st' := [(0, .rc [.own 901 false, .int .i64 (o0_1 - (1:Int)), .own 902 false, .bool o0_3]), (1, .dead), (2, .dead), (900, .sl 4 .bool r4_.2.2 .shallow), (901, .sl 56 y2_ o1 .shallow), (902, .sl 65 y5_ o2 (.deep true .no))]) rfl rfl ⟨⟨⟨⟨rfl, rfl⟩, trivial⟩, rfl, ⟨⟨rfl, rfl⟩, trivial⟩, .inl rfl, trivial⟩, trivial, trivial, ⟨rfl, rfl⟩, ⟨rfl, rfl⟩, ⟨rfl, rfl⟩, trivial⟩ ⟨⟨⟨rfl, rfl⟩, trivial⟩, .inr rfl, trivial⟩), he⟩
      ·refine seq_model mixed tys_ok (t_impl_searching_visit__Rsd n_ ih) (S := Int × Bool × (List D2_) × (List D5_)) (I := (fun (i_11, i_31, i_01, i_21) => (envOf [(0, .c (.ptr 0 0)), (1, .c (.imm y0_ a1))], [(0, .rc [.own 10003000 false, .int .i64 i_11, .own 10003001 false, .bool i_31]), (1, .dead), (2, .dead), (10003000, .sl 56 y2_ i_01 .shallow), (10003001, .sl 65 y5_ i_21 (.deep true .no))]))) (B := fun s => Ok (impl_searching_visit__Rsd_j3 a1 s) (fun r => k (.tup [.c (.own 900 false), .c (.bool r.1)]) [(0, .rc [.own 901 false, .int .i64 r.2.1, .own 902 false, .bool r.2.2.1]), (1, .dead), (2, .dead), (900, .sl 4 .bool r.2.2.2.1 .shallow), (901, .sl 56 y2_ r.2.2.2.2.1 .shallow), (902, .sl 65 y5_ r.2.2.2.2.2 (.deep true .no))])) ?_ ?_
       ·rintro ⟨i_11, i_31, i_01, i_21⟩ he
        refine go_if he (fun he => ?_) fun he => ?_
        ·have he := ok_some he
         exact ⟨rfl, _, _, (leads_ren [(901, 10003000), (902, 10003001)] (l := [(4, .c (.own 900 false)), (5, .c (.bool false))]) (st' := [(0, .rc [.own 901 false, .int .i64 i_11, .own 902 false, .bool true]), (1, .dead), (2, .dead), (900, .sl 4 .bool ([] : List Bool) .shallow), (901, .sl 56 y2_ i_01 .shallow), (902, .sl 65 y5_ i_21 (.deep true .no))]) rfl rfl ⟨⟨⟨⟨rfl, rfl⟩, trivial⟩, rfl, ⟨⟨rfl, rfl⟩, trivial⟩, .inr rfl, trivial⟩, trivial, trivial, trivial, ⟨rfl, rfl⟩, ⟨rfl, rfl⟩, trivial⟩ ⟨⟨rfl, trivial⟩, .inr rfl, trivial⟩), he⟩
        ·exact ⟨(i_11, i_31, i_01, i_21), he, (leads_ren [(10004000, 10003000), (10004001, 10003001)] rfl rfl ⟨⟨⟨⟨rfl, rfl⟩, trivial⟩, rfl, ⟨⟨rfl, rfl⟩, trivial⟩, .inl rfl, trivial⟩, trivial, trivial, ⟨rfl, rfl⟩, ⟨rfl, rfl⟩, trivial⟩ ⟨⟨⟨rfl, rfl⟩, rfl⟩, .inl rfl, trivial⟩)⟩
       ·skip
        refine go_rq he fun he => ?_
        refine loop_model mixed tys_ok (t_impl_searching_visit__Rsd n_ ih) (S := Int × Int × Bool × (List D2_) × (List D5_)) (I := (fun (i3, i_1, i_3, i_0, i_2) => (envOf [(0, .c (.ptr 0 0)), (1, .c (.imm y0_ a1)), (82, .c (.own 10002000 false)), (83, .c (.int .i64 ([r4_.1, (0 - r4_.1)].length:Int))), (84, .c (.int .i64 i3))], [(0, .rc [.own 10002001 false, .int .i64 i_1, .own 10002002 false, .bool i_3]), (1, .dead), (2, .dead), (10002000, .sl 3 y0_ [r4_.1, (0 - r4_.1)] .shallow), (10002001, .sl 56 y2_ i_0 .shallow), (10002002, .sl 65 y5_ i_2 (.deep true .no))]))) (f := impl_searching_visit__Rsd_l1 a1 r4_ (impl_searching_visit__Rsd n_)) (K := (fun r => k (.tup [.c (.own 900 false), .c (.bool r.1)]) [(0, .rc [.own 901 false, .int .i64 r.2.1, .own 902 false, .bool r.2.2.1]), (1, .dead), (2, .dead), (900, .sl 4 .bool r.2.2.2.1 .shallow), (901, .sl 56 y2_ r.2.2.2.2.1 .shallow), (902, .sl 65 y5_ r.2.2.2.2.2 (.deep true .no))])) he (leads_ren [(10002000, 82), (10002001, 1), (10002002, 2)] rfl rfl ⟨⟨⟨⟨rfl, rfl⟩, trivial⟩, rfl, ⟨⟨rfl, rfl⟩, trivial⟩, .inl rfl, trivial⟩, trivial, trivial, ⟨rfl, rfl⟩, ⟨rfl, rfl⟩, ⟨rfl, rfl⟩, trivial⟩ ⟨⟨⟨rfl, rfl⟩, rfl⟩, .inl rfl, ⟨⟨rfl, rfl⟩, trivial⟩, rfl, rfl, trivial⟩) ?_
        rintro ⟨i3, i_1, i_3, i_0, i_2⟩ J1 he
        refine go_if he (fun he => ?_) fun he => ?_
        ·refine go_rq he fun he => ?_
         refine go_bind he fun r7_ he => ?_
         refine go_rq he fun he => ?_
         refine go_bind he fun r8_ he => ?_
         refine go_if2 he (fun he => ?_) fun he => ?_
         ·refine go_if he (fun he => ?_) fun he => ?_
          ·have he := ok_some he
           exact ⟨rfl, _, _, (leads_ren [(900, 96900), (901, 96901), (902, 96902)] (l := [(4, .c (.own 900 false)), (5, .c (.bool r8_.1))]) (st' := [(0, .rc [.own 901 false, .int .i64 r8_.2.1, .own 902 false, .bool r8_.2.2.1]), (1, .dead), (2, .dead), (900, .sl 4 .bool r8_.2.2.2.1 .shallow), (901, .sl 56 y2_ r8_.2.2.2.2.1 .shallow), (902, .sl 65 y5_ r8_.2.2.2.2.2 (.deep true .no))]) rfl rfl ⟨⟨⟨⟨rfl, rfl⟩, trivial⟩, rfl, ⟨⟨rfl, rfl⟩, trivial⟩, .inl rfl, trivial⟩, trivial, trivial, ⟨rfl, rfl⟩, ⟨rfl, rfl⟩, ⟨rfl, rfl⟩, trivial⟩ ⟨⟨⟨rfl, rfl⟩, trivial⟩, .inl rfl, trivial⟩), he⟩
          ·refine go_rq he fun he => ?_
           have he := ok_some he
           exact ⟨((i3 + (1:Int)), r8_.2.1, r8_.2.2.1, r8_.2.2.2.2.1, r8_.2.2.2.2.2), he, (leads_ren [(10002001, 96901), (10002002, 96902)] rfl rfl ⟨⟨⟨⟨rfl, rfl⟩, trivial⟩, rfl, ⟨⟨rfl, rfl⟩, trivial⟩, .inl rfl, trivial⟩, trivial, trivial, ⟨rfl, rfl⟩, ⟨rfl, rfl⟩, ⟨rfl, rfl⟩, trivial⟩ ⟨⟨⟨rfl, rfl⟩, rfl⟩, .inl rfl, ⟨⟨rfl, rfl⟩, trivial⟩, rfl, rfl, trivial⟩)⟩
         ·have he := ok_some he
          exact ⟨rfl, _, _, (leads_ren [(900, 96900), (901, 96901), (902, 96902)] (l := [(4, .c (.own 900 false)), (5, .c (.bool r8_.1))]) (st' := [(0, .rc [.own 901 false, .int .i64 r8_.2.1, .own 902 false, .bool r8_.2.2.1]), (1, .dead), (2, .dead), (900, .sl 4 .bool r8_.2.2.2.1 .shallow), (901, .sl 56 y2_ r8_.2.2.2.2.1 .shallow), (902, .sl 65 y5_ r8_.2.2.2.2.2 (.deep true .no))]) rfl rfl ⟨⟨⟨⟨rfl, rfl⟩, trivial⟩, rfl, ⟨⟨rfl, rfl⟩, trivial⟩, .inl rfl, trivial⟩, trivial, trivial, ⟨rfl, rfl⟩, ⟨rfl, rfl⟩, ⟨rfl, rfl⟩, trivial⟩ ⟨⟨⟨rfl, rfl⟩, trivial⟩, .inl rfl, trivial⟩), he⟩
        ·exact ⟨(i_1, i_3, i_0, i_2), ok_up he, (leads_ren [(10003000, 10002001), (10003001, 10002002)] rfl rfl ⟨⟨⟨⟨rfl, rfl⟩, trivial⟩, rfl, ⟨⟨rfl, rfl⟩, trivial⟩, .inl rfl, trivial⟩, trivial, trivial, ⟨rfl, rfl⟩, ⟨rfl, rfl⟩, trivial⟩ ⟨⟨⟨rfl, rfl⟩, rfl⟩, .inl rfl, trivial⟩)⟩
     ·exact ⟨((o0_1 - (1:Int)), o0_3, o1, o2), he, (leads_ren [(10004000, 1), (10004001, 2)] rfl rfl ⟨⟨⟨⟨rfl, rfl⟩, trivial⟩, rfl, ⟨⟨rfl, rfl⟩, trivial⟩, .inl rfl, trivial⟩, trivial, trivial, ⟨rfl, rfl⟩, ⟨rfl, rfl⟩, trivial⟩ ⟨⟨⟨rfl, rfl⟩, rfl⟩, .inl rfl, trivial⟩)⟩
   ·skip
    refine loop_model mixed tys_ok (t_impl_searching_visit__Rsd n_ ih) (S := Int × (List Int)) (I := (fun (i, i1) => (envOf [(0, .c (.ptr 0 0)), (1, .c (.imm y0_ a1)), (6, .c (.own 10000000 false)), (41, .c (.imm y0_ a1)), (42, .c (.int .i64 (a1.length:Int))), (43, .c (.int .i64 i))], [(0, .rc [.own 1 false, .int .i64 (o0_1 - (1:Int)), .own 2 false, .bool o0_3]), (1, .sl 56 y2_ o1 .shallow), (2, .sl 65 y5_ o2 (.deep true .no)), (10000000, .sl 3 y0_ i1 .shallow)]))) (f := impl_searching_visit__Rsd_l2 a1 o0_1 o0_3 o1 o2 (impl_searching_visit__Rsd n_)) (K := (fun r => k (.tup [.c (.own 900 false), .c (.bool r.1)]) [(0, .rc [.own 901 false, .int .i64 r.2.1, .own 902 false, .bool r.2.2.1]), (1, .dead), (2, .dead), (900, .sl 4 .bool r.2.2.2.1 .shallow), (901, .sl 56 y2_ r.2.2.2.2.1 .shallow), (902, .sl 65 y5_ r.2.2.2.2.2 (.deep true .no))])) he (leads_ren [(10000000, 40)] rfl rfl ⟨⟨⟨⟨rfl, rfl⟩, trivial⟩, rfl, ⟨⟨rfl, rfl⟩, trivial⟩, .inl rfl, trivial⟩, ⟨rfl, rfl⟩, ⟨rfl, rfl⟩, ⟨rfl, rfl⟩, trivial⟩ ⟨⟨⟨rfl, rfl⟩, rfl⟩, .inl rfl, ⟨⟨rfl, rfl⟩, trivial⟩, .inl rfl, rfl, rfl, trivial⟩) ?_
    rintro ⟨i, i1⟩ J1 he
    refine go_if he (fun he => ?_) fun he => ?_
    ·refine go_rq he fun he => ?_
     refine go_bind he fun r2_ he => ?_
     refine go_rq he fun he => ?_
     refine go_rq he fun he => ?_
     refine go_if he (fun he => ?_) fun he => ?_
     ·refine go_rq he fun he => ?_
      refine go_rq he fun he => ?_
      refine go_rq he fun he => ?_
      refine go_rq he fun he => ?_
      have he := ok_some he
      exact ⟨((i + (1:Int)), ((i1.set (r2_ - (1:Int)).toNat (1:Int)).set ((0 - (a1.getD i.toNat 0)) - (1:Int)).toNat (-1:Int))), he, (leads_ren [] rfl rfl ⟨⟨⟨⟨rfl, rfl⟩, trivial⟩, rfl, ⟨⟨rfl, rfl⟩, trivial⟩, .inl rfl, trivial⟩, ⟨rfl, rfl⟩, ⟨rfl, rfl⟩, ⟨rfl, rfl⟩, trivial⟩ ⟨⟨⟨rfl, rfl⟩, rfl⟩, .inl rfl, ⟨⟨rfl, rfl⟩, trivial⟩, .inl rfl, rfl, rfl, trivial⟩)⟩
     ·refine go_rq he fun he => ?_
      have he := ok_some he
      exact ⟨((i + (1:Int)), (i1.set (r2_ - (1:Int)).toNat (1:Int))), he, (leads_ren [] rfl rfl ⟨⟨⟨⟨rfl, rfl⟩, trivial⟩, rfl, ⟨⟨rfl, rfl⟩, trivial⟩, .inl rfl, trivial⟩, ⟨rfl, rfl⟩, ⟨rfl, rfl⟩, ⟨rfl, rfl⟩, trivial⟩ ⟨⟨⟨rfl, rfl⟩, rfl⟩, .inl rfl, ⟨⟨rfl, rfl⟩, trivial⟩, .inl rfl, rfl, rfl, trivial⟩)⟩
    ·exact ⟨i1, ok_up he, (leads_ren [(10001000, 10000000)] rfl rfl ⟨⟨⟨⟨rfl, rfl⟩, trivial⟩, rfl, ⟨⟨rfl, rfl⟩, trivial⟩, .inl rfl, trivial⟩, ⟨rfl, rfl⟩, ⟨rfl, rfl⟩, ⟨rfl, rfl⟩, trivial⟩ ⟨⟨⟨rfl, rfl⟩, rfl⟩, .inl rfl, ⟨⟨rfl, rfl⟩, trivial⟩, trivial⟩)⟩
 ·have he := ok_some he
  exact ⟨rfl, _, _, (leads_ren [(901, 1), (902, 2)] (l := [(4, .c (.own 900 false)), (5, .c (.bool false))]) (st' := [(0, .rc [.own 901 false, .int .i64 o0_1, .own 902 false, .bool true]), (1, .dead), (2, .dead), (900, .sl 4 .bool ([] : List Bool) .shallow), (901, .sl 56 y2_ o1 .shallow), (902, .sl 65 y5_ o2 (.deep true .no))]) rfl rfl ⟨⟨⟨⟨rfl, rfl⟩, trivial⟩, rfl, ⟨⟨rfl, rfl⟩, trivial⟩, .inr rfl, trivial⟩, trivial, trivial, trivial, ⟨rfl, rfl⟩, ⟨rfl, rfl⟩, trivial⟩ ⟨⟨rfl, trivial⟩, .inr rfl, trivial⟩), he⟩

theorem k_impl_searching_visit__Rsd : ∀ n_, Entry Tryz.prog 51 (c_impl_searching_visit__Rsd n_)
  | 0 => by
    refine entry_by (C := { y := tys, n := 120, h := 3, tab := [], cut := [], hand := [], good := [], deep := [], sched := [] }) mixed tys_ok (tabOk_of (fun p h => by cases h)) (fn := Tryz.f51) (c := bd Tryz.f51) (by kernel_rfl) (by kernel_rfl) (by kernel_rfl) (by kernel_rfl) ?_
    intro args st k he
    unfold c_impl_searching_visit__Rsd at he
    split at he
    · obtain ⟨x, hx, _⟩ := he
      cases hx
    · exact he.elim
  | n_ + 1 => k_impl_searching_visit__Rsd_step n_ (k_impl_searching_visit__Rsd n_)

noncomputable def c_impl_searching_visit__R0s (n_ : Nat) : Con := fun args st => match args, st with
  | [.c (.ptr 0 0), .c (.imm (.int .i64) a1)], [(0, .rc [.own 1 false, .int .i64 o0_1, .nil, .bool o0_3]), (1, .sl 56 (.pair (.sl (.pair (.int .i64) (.int .i64))) (.int .i64)) o1 .shallow)] => .opt (Bool × Int × Bool × (List Bool) × (List D2_) × (List D5_)) (impl_searching_visit__R0s n_ a1 o0_1 o0_3 o1) (fun r => .ret (.tup [.c (.own 900 false), .c (.bool r.1)]) [(0, .rc [.own 901 false, .int .i64 r.2.1, .own 902 false, .bool r.2.2.1]), (1, .dead), (900, .sl 4 .bool r.2.2.2.1 .shallow), (901, .sl 56 y2_ r.2.2.2.2.1 .shallow), (902, .sl 65 y5_ r.2.2.2.2.2 (.deep true .no))])
  | _, _ => .fail

noncomputable def C_impl_searching_visit__R0s (n_ : Nat) : Cfg := { y := tys, n := 120, h := 2, tab := [(51, (c_impl_searching_visit__Rsd 64)), (65, c_slices_Clone_int), (70, c_impl_variableOf), (72, c_impl_propagate), (73, c_impl_valuesOf), (74, c_impl_searching_fail__Rsd)], cut := [13, 25, 28], hand := [], good := [], deep := [], sched := [] }

theorem t_impl_searching_visit__R0s (n_ : Nat) (ih : Entry Tryz.prog 51 (c_impl_searching_visit__R0s n_)) : TabOk Tryz.prog (C_impl_searching_visit__R0s n_) := by
  refine tabOk_of ?_
  simp only [C_impl_searching_visit__R0s, List.forall_mem_cons]
  exact ⟨(k_impl_searching_visit__Rsd 64), k_slices_Clone_int, k_impl_variableOf, k_impl_propagate, k_impl_valuesOf, k_impl_searching_fail__Rsd, fun p h => by cases h⟩

theorem k_impl_searching_visit__R0s_step (n_ : Nat) (ih : Entry Tryz.prog 51 (c_impl_searching_visit__R0s n_)) : Entry Tryz.prog 51 (c_impl_searching_visit__R0s (n_ + 1)) := by
 refine entry_by (C := (C_impl_searching_visit__R0s n_)) mixed tys_ok (t_impl_searching_visit__R0s n_ ih) (fn := Tryz.f51) (c := bd Tryz.f51) (by kernel_rfl) (by kernel_rfl) (by kernel_rfl) (by kernel_rfl) ?_
 intro args st k he
 unfold c_impl_searching_visit__R0s at he
 split at he
 rotate_left
 ·exact he.elim
 rename_i a1 o0_1 o0_3 o1
 have he : Ok (impl_searching_visit__R0s_rec (impl_searching_visit__R0s n_) a1 o0_1 o0_3 o1) (fun r => k (.tup [.c (.own 900 false), .c (.bool r.1)]) [(0, .rc [.own 901 false, .int .i64 r.2.1, .own 902 false, .bool r.2.2.1]), (1, .dead), (900, .sl 4 .bool r.2.2.2.1 .shallow), (901, .sl 56 y2_ r.2.2.2.2.1 .shallow), (902, .sl 65 y5_ r.2.2.2.2.2 (.deep true .no))]) := he
 refine ⟨rfl, rfl, ?_⟩
 refine go_if2 he (fun he => ?_) fun he => ?_
 ·refine go_if he (fun he => ?_) fun he => ?_
  ·have he := ok_some he
   exact ⟨rfl, _, _, (leads_ren [(901, 1)] (l := [(4, .c (.own 900 false)), (5, .c (.bool false))]) (st' := [(0, .rc [.own 901 false, .int .i64 o0_1, .own 902 false, .bool true]), (1, .dead), (900, .sl 4 .bool ([] : List Bool) .shallow), (901, .sl 56 y2_ o1 .shallow), (902, .sl 65 y5_ ([] : List D5_) (.deep true .no))]) rfl rfl ⟨⟨⟨⟨rfl, rfl⟩, trivial⟩, rfl, ⟨rfl, trivial⟩, .inr rfl, trivial⟩, trivial, trivial, ⟨rfl, rfl⟩, trivial, trivial⟩ ⟨⟨rfl, trivial⟩, .inr rfl, trivial⟩), he⟩
  ·refine go_rq he fun he => ?_
   refine go_rq he fun he => ?_
   refine seq_model mixed tys_ok (t_impl_searching_visit__R0s n_ ih) (S := (List Int)) (I := (fun i2 => (envOf [(0, .c (.ptr 0 0)), (1, .c (.imm y0_ a1)), (6, .c (.own 10001000 false))], [(0, .rc [.own 1 false, .int .i64 (o0_1 - (1:Int)), .nil, .bool o0_3]), (1, .sl 56 y2_ o1 .shallow), (10001000, .sl 3 y0_ i2 .shallow)]))) (B := fun s => Ok (impl_searching_visit__R0s_j1 a1 o0_1 o0_3 o1 s) (fun r => k (.tup [.c (.own 900 false), .c (.bool r.1)]) [(0, .rc [.own 901 false, .int .i64 r.2.1, .own 902 false, .bool r.2.2.1]), (1, .dead), (900, .sl 4 .bool r.2.2.2.1 .shallow), (901, .sl 56 y2_ r.2.2.2.2.1 .shallow), (902, .sl 65 y5_ r.2.2.2.2.2 (.deep true .no))])) ?_ ?_
   ·rintro i2 he
    refine go_bind he fun r3_ he => ?_
    refine seq_model mixed tys_ok (t_impl_searching_visit__R0s n_ ih) (S := Int × Bool × (List D2_) × (List D5_)) (I := (fun (i_12, i_32, i_02, i_22) => (envOf [(0, .c (.ptr 0 0)), (1, .c (.imm y0_ a1))], [(0, .rc [.own 10004000 false, .int .i64 i_12, .own 10004001 false, .bool i_32]), (1, .dead), (10004000, .sl 56 y2_ i_02 .shallow), (10004001, .sl 65 y5_ i_22 (.deep true .no))]))) (B := fun s => Ok (impl_searching_visit__R0s_j2 a1 s) (fun r => k (.tup [.c (.own 900 false), .c (.bool r.1)]) [(0, .rc [.own 901 false, .int .i64 r.2.1, .own 902 false, .bool r.2.2.1]), (1, .dead), (900, .sl 4 .bool r.2.2.2.1 .shallow), (901, .sl 56 y2_ r.2.2.2.2.1 .shallow), (902, .sl 65 y5_ r.2.2.2.2.2 (.deep true .no))])) ?_ ?_
    ·rintro ⟨i_12, i_32, i_02, i_22⟩ he
     refine go_bind he fun r9_ he => ?_
     have he := ok_some he
     exact ⟨rfl, _, _, (leads_ren [(901, 120900), (902, 120901)] (l := [(4, .c (.own 900 false)), (5, .c (.bool false))]) (st' := [(0, .rc [.own 901 false, .int .i64 i_12, .own 902 false, .bool i_32]), (1, .dead), (900, .sl 4 .bool ([] : List Bool) .shallow), (901, .sl 56 y2_ r9_.1 .shallow), (902, .sl 65 y5_ r9_.2 (.deep true .no))]) rfl rfl ⟨⟨⟨⟨rfl, rfl⟩, trivial⟩, rfl, ⟨⟨rfl, rfl⟩, trivial⟩, .inl rfl, trivial⟩, trivial, trivial, ⟨rfl, rfl⟩, ⟨rfl, rfl⟩, trivial⟩ ⟨⟨rfl, trivial⟩, .inr rfl, trivial⟩), he⟩
    ·skip
     refine go_if he (fun he => ?_) fun he => ?_
     ·refine go_bind he fun r4_ he => ?_
      refine go_if he (fun he => ?_) fun he => ?_
      ·have he := ok_some he
       exact ⟨rfl, _, _, (leads_ren [(900, 74900), (901, 1)] (l := [(4, .c (.own 900 false)), (5, .c (.bool true))]) (st' := [(0, .rc [.own 901 false, .int .i64 (o0_1 - (1:Int)), .own 902 false, .bool o0_3]), (1, .dead), (900, .sl 4 .bool r4_.2.2 .shallow), (901, .sl 56 y2_ o1 .shallow), (902, .sl 65 y5_ ([] : List D5_) (.deep true .no))]) rfl rfl ⟨⟨⟨⟨rfl, rfl⟩, trivial⟩, rfl, ⟨rfl, trivial⟩, .inl rfl, trivial⟩, trivial, ⟨rfl, rfl⟩, ⟨rfl, rfl⟩, trivial, trivial⟩ ⟨⟨⟨rfl, rfl⟩, trivial⟩, .inr rfl, trivial⟩), he⟩
      ·refine seq_model mixed tys_ok (t_impl_searching_visit__R0s n_ ih) (S := Int × Bool × (List D2_) × (List D5_)) (I := (fun (i_11, i_31, i_01, i_21) => (envOf [(0, .c (.ptr 0 0)), (1, .c (.imm y0_ a1))], [(0, .rc [.own 10003000 false, .int .i64 i_11, .own 10003001 false, .bool i_31]), (1, .dead), (10003000, .sl 56 y2_ i_01 .shallow), (10003001, .sl 65 y5_ i_21 (.deep true .no))]))) (B := fun s => Ok (impl_searching_visit__R0s_j3 a1 s) (fun r => k (.tup [.c (.own 900 false), .c (.bool r.1)]) [(0, .rc [.own 901 false, .int .i64 r.2.1, .own 902 false, .bool r.2.2.1]), (1, .dead), (900, .sl 4 .bool r.2.2.2.1 .shallow), (901, .sl 56 y2_ r.2.2.2.2.1 .shallow), (902, .sl 65 y5_ r.2.2.2.2.2 (.deep true .no))])) ?_ ?_
       ·rintro ⟨i_11, i_31, i_01, i_21⟩ he
        refine go_if he (fun he => ?_) fun he => ?_
        ·have he := ok_some he
         exact ⟨rfl, _, _, (leads_ren [(901, 10003000), (902, 10003001)] (l := [(4, .c (.own 900 false)), (5, .c (.bool false))]) (st' := [(0, .rc [.own 901 false, .int .i64 i_11, .own 902 false, .bool true]), (1, .dead), (900, .sl 4 .bool ([] : List Bool) .shallow), (901, .sl 56 y2_ i_01 .shallow), (902, .sl 65 y5_ i_21 (.deep true .no))]) rfl rfl ⟨⟨⟨⟨rfl, rfl⟩, trivial⟩, rfl, ⟨⟨rfl, rfl⟩, trivial⟩, .inr rfl, trivial⟩, trivial, trivial, ⟨rfl, rfl⟩, ⟨rfl, rfl⟩, trivial⟩ ⟨⟨rfl, trivial⟩, .inr rfl, trivial⟩), he⟩
        ·exact ⟨(i_11, i_31, i_01, i_21), he, (leads_ren [(10004000, 10003000), (10004001, 10003001)] rfl rfl ⟨⟨⟨⟨rfl, rfl⟩, trivial⟩, rfl, ⟨⟨rfl, rfl⟩, trivial⟩, .inl rfl, trivial⟩, trivial, ⟨rfl, rfl⟩, ⟨rfl, rfl⟩, trivial⟩ ⟨⟨⟨rfl, rfl⟩, rfl⟩, .inl rfl, trivial⟩)⟩
       ·skip
        refine go_rq he fun he => ?_
        refine loop_model mixed tys_ok (t_impl_searching_visit__R0s n_ ih) (S := Int × Int × Bool × (List D2_) × (List D5_)) (I := (fun (i3, i_1, i_3, i_0, i_2) => (envOf [(0, .c (.ptr 0 0)), (1, .c (.imm y0_ a1)), (82, .c (.own 10002000 false)), (83, .c (.int .i64 ([r4_.1, (0 - r4_.1)].length:Int))), (84, .c (.int .i64 i3))], [(0, .rc [.own 10002001 false, .int .i64 i_1, .own 10002002 false, .bool i_3]), (1, .dead), (10002000, .sl 3 y0_ [r4_.1, (0 - r4_.1)] .shallow), (10002001, .sl 56 y2_ i_0 .shallow), (10002002, .sl 65 y5_ i_2 (.deep true .no))]))) (f := impl_searching_visit__R0s_l1 a1 r4_) (K := (fun r => k (.tup [.c (.own 900 false), .c (.bool r.1)]) [(0, .rc [.own 901 false, .int .i64 r.2.1, .own 902 false, .bool r.2.2.1]), (1, .dead), (900, .sl 4 .bool r.2.2.2.1 .shallow), (901, .sl 56 y2_ r.2.2.2.2.1 .shallow), (902, .sl 65 y5_ r.2.2.2.2.2 (.deep true .no))])) he (leads_ren [(10002000, 82), (10002001, 1)] rfl rfl ⟨⟨⟨⟨rfl, rfl⟩, trivial⟩, rfl, ⟨rfl, trivial⟩, .inl rfl, trivial⟩, trivial, ⟨rfl, rfl⟩, ⟨rfl, rfl⟩, trivial, trivial⟩ ⟨⟨⟨rfl, rfl⟩, rfl⟩, .inl rfl, ⟨⟨rfl, rfl⟩, trivial⟩, rfl, rfl, trivial⟩) ?_
        rintro ⟨i3, i_1, i_3, i_0, i_2⟩ J1 he
        refine go_if he (fun he => ?_) fun he => ?_
        ·refine go_rq he fun he => ?_
         refine go_bind he fun r7_ he => ?_
         refine go_rq he fun he => ?_
         refine go_bind he fun r8_ he => ?_
         refine go_if2 he (fun he => ?_) fun he => ?_
         ·refine go_if he (fun he => ?_) fun he => ?_
          ·have he := ok_some he
           exact ⟨rfl, _, _, (leads_ren [(900, 96900), (901, 96901), (902, 96902)] (l := [(4, .c (.own 900 false)), (5, .c (.bool r8_.1))]) (st' := [(0, .rc [.own 901 false, .int .i64 r8_.2.1, .own 902 false, .bool r8_.2.2.1]), (1, .dead), (900, .sl 4 .bool r8_.2.2.2.1 .shallow), (901, .sl 56 y2_ r8_.2.2.2.2.1 .shallow), (902, .sl 65 y5_ r8_.2.2.2.2.2 (.deep true .no))]) rfl rfl ⟨⟨⟨⟨rfl, rfl⟩, trivial⟩, rfl, ⟨⟨rfl, rfl⟩, trivial⟩, .inl rfl, trivial⟩, trivial, ⟨rfl, rfl⟩, ⟨rfl, rfl⟩, ⟨rfl, rfl⟩, trivial⟩ ⟨⟨⟨rfl, rfl⟩, trivial⟩, .inl rfl, trivial⟩), he⟩
          ·refine go_rq he fun he => ?_
           have he := ok_some he
           exact ⟨((i3 + (1:Int)), r8_.2.1, r8_.2.2.1, r8_.2.2.2.2.1, r8_.2.2.2.2.2), he, (leads_ren [(10002001, 96901), (10002002, 96902)] rfl rfl ⟨⟨⟨⟨rfl, rfl⟩, trivial⟩, rfl, ⟨⟨rfl, rfl⟩, trivial⟩, .inl rfl, trivial⟩, trivial, ⟨rfl, rfl⟩, ⟨rfl, rfl⟩, ⟨rfl, rfl⟩, trivial⟩ ⟨⟨⟨rfl, rfl⟩, rfl⟩, .inl rfl, ⟨⟨rfl, rfl⟩, trivial⟩, rfl, rfl, trivial⟩)⟩
         ·have he := ok_some he
          exact ⟨rfl, _, _, (leads_ren [(900, 96900), (901, 96901), (902, 96902)] (l := [(4, .c (.own 900 false)), (5, .c (.bool r8_.1))]) (st' := [(0, .rc [.own 901 false, .int .i64 r8_.2.1, .own 902 false, .bool r8_.2.2.1]), (1, .dead), (900, .sl 4 .bool r8_.2.2.2.1 .shallow), (901, .sl 56 y2_ r8_.2.2.2.2.1 .shallow), (902, .sl 65 y5_ r8_.2.2.2.2.2 (.deep true .no))]) rfl rfl ⟨⟨⟨⟨rfl, rfl⟩, trivial⟩, rfl, ⟨⟨rfl, rfl⟩, trivial⟩, .inl rfl, trivial⟩, trivial, ⟨rfl, rfl⟩, ⟨rfl, rfl⟩, ⟨rfl, rfl⟩, trivial⟩ ⟨⟨⟨rfl, rfl⟩, trivial⟩, .inl rfl, trivial⟩), he⟩
        ·exact ⟨(i_1, i_3, i_0, i_2), ok_up he, (leads_ren [(10003000, 10002001), (10003001, 10002002)] rfl rfl ⟨⟨⟨⟨rfl, rfl⟩, trivial⟩, rfl, ⟨⟨rfl, rfl⟩, trivial⟩, .inl rfl, trivial⟩, trivial, ⟨rfl, rfl⟩, ⟨rfl, rfl⟩, trivial⟩ ⟨⟨⟨rfl, rfl⟩, rfl⟩, .inl rfl, trivial⟩)⟩
     ·exact ⟨((o0_1 - (1:Int)), o0_3, o1, ([] : List D5_)), he, (leads_ren [(10004000, 1)] rfl rfl ⟨⟨⟨⟨rfl, rfl⟩, trivial⟩, rfl, ⟨rfl, trivial⟩, .inl rfl, trivial⟩, trivial, ⟨rfl, rfl⟩, trivial, trivial⟩ ⟨⟨⟨rfl, rfl⟩, rfl⟩, .inl rfl, trivial⟩)⟩
   ·skip
    refine loop_model mixed tys_ok (t_impl_searching_visit__R0s n_ ih) (S := Int × (List Int)) (I := (fun (i, i1) => (envOf [(0, .c (.ptr 0 0)), (1, .c (.imm y0_ a1)), (6, .c (.own 10000000 false)), (41, .c (.imm y0_ a1)), (42, .c (.int .i64 (a1.length:Int))), (43, .c (.int .i64 i))], [(0, .rc [.own 1 false, .int .i64 (o0_1 - (1:Int)), .nil, .bool o0_3]), (1, .sl 56 y2_ o1 .shallow), (10000000, .sl 3 y0_ i1 .shallow)]))) (f := impl_searching_visit__R0s_l2 a1 o0_1 o0_3 o1) (K := (fun r => k (.tup [.c (.own 900 false), .c (.bool r.1)]) [(0, .rc [.own 901 false, .int .i64 r.2.1, .own 902 false, .bool r.2.2.1]), (1, .dead), (900, .sl 4 .bool r.2.2.2.1 .shallow), (901, .sl 56 y2_ r.2.2.2.2.1 .shallow), (902, .sl 65 y5_ r.2.2.2.2.2 (.deep true .no))])) he (leads_ren [(10000000, 40)] rfl rfl ⟨⟨⟨⟨rfl, rfl⟩, trivial⟩, rfl, rfl, .inl rfl, trivial⟩, ⟨rfl, rfl⟩, ⟨rfl, rfl⟩, trivial⟩ ⟨⟨⟨rfl, rfl⟩, rfl⟩, .inl rfl, ⟨⟨rfl, rfl⟩, trivial⟩, .inl rfl, rfl, rfl, trivial⟩) ?_
    rintro ⟨i, i1⟩ J1 he
    refine go_if he (fun he => ?_) fun he => ?_
    ·refine go_rq he fun he => ?_
     refine go_bind he fun r2_ he => ?_
     refine go_rq he fun he => ?_
     refine go_rq he fun he => ?_
     refine go_if he (fun he => ?_) fun he => ?_
     ·refine go_rq he fun he => ?_
      refine go_rq he fun he => ?_
      refine go_rq he fun he => ?_
      refine go_rq he fun he => ?_
      have he := ok_some he
      exact ⟨((i + (1:Int)), ((i1.set (r2_ - (1:Int)).toNat (1:Int)).set ((0 - (a1.getD i.toNat 0)) - (1:Int)).toNat (-1:Int))), he, (leads_ren [] rfl rfl ⟨⟨⟨⟨rfl, rfl⟩, trivial⟩, rfl, rfl, .inl rfl, trivial⟩, ⟨rfl, rfl⟩, ⟨rfl, rfl⟩, trivial⟩ ⟨⟨⟨rfl, rfl⟩, rfl⟩, .inl rfl, ⟨⟨rfl, rfl⟩, trivial⟩, .inl rfl, rfl, rfl, trivial⟩)⟩
     ·refine go_rq he fun he => ?_
      have he := ok_some he
      exact ⟨((i + (1:Int)), (i1.set (r2_ - (1:Int)).toNat (1:Int))), he, (leads_ren [] rfl rfl ⟨⟨⟨⟨rfl, rfl⟩, trivial⟩, rfl, rfl, .inl rfl, trivial⟩, ⟨rfl, rfl⟩, ⟨rfl, rfl⟩, trivial⟩ ⟨⟨⟨rfl, rfl⟩, rfl⟩, .inl rfl, ⟨⟨rfl, rfl⟩, trivial⟩, .inl rfl, rfl, rfl, trivial⟩)⟩
    ·exact ⟨i1, ok_up he, (leads_ren [(10001000, 10000000)] rfl rfl ⟨⟨⟨⟨rfl, rfl⟩, trivial⟩, rfl, rfl, .inl rfl, trivial⟩, ⟨rfl, rfl⟩, ⟨rfl, rfl⟩, trivial⟩ ⟨⟨⟨rfl, rfl⟩, rfl⟩, .inl rfl, ⟨⟨rfl, rfl⟩, trivial⟩, trivial⟩)⟩
 ·have he := ok_some he
  exact ⟨rfl, _, _, (leads_ren [(901, 1)] (l := [(4, .c (.own 900 false)), (5, .c (.bool false))]) (st' := [(0, .rc [.own 901 false, .int .i64 o0_1, .own 902 false, .bool true]), (1, .dead), (900, .sl 4 .bool ([] : List Bool) .shallow), (901, .sl 56 y2_ o1 .shallow), (902, .sl 65 y5_ ([] : List D5_) (.deep true .no))]) rfl rfl ⟨⟨⟨⟨rfl, rfl⟩, trivial⟩, rfl, ⟨rfl, trivial⟩, .inr rfl, trivial⟩, trivial, trivial, ⟨rfl, rfl⟩, trivial, trivial⟩ ⟨⟨rfl, trivial⟩, .inr rfl, trivial⟩), he⟩

theorem k_impl_searching_visit__R0s : ∀ n_, Entry Tryz.prog 51 (c_impl_searching_visit__R0s n_)
  | 0 => by
    refine entry_by (C := { y := tys, n := 120, h := 2, tab := [], cut := [], hand := [], good := [], deep := [], sched := [] }) mixed tys_ok (tabOk_of (fun p h => by cases h)) (fn := Tryz.f51) (c := bd Tryz.f51) (by kernel_rfl) (by kernel_rfl) (by kernel_rfl) (by kernel_rfl) ?_
    intro args st k he
    unfold c_impl_searching_visit__R0s at he
    split at he
    · obtain ⟨x, hx, _⟩ := he
      cases hx
    · exact he.elim
  | n_ + 1 => k_impl_searching_visit__R0s_step n_ (k_impl_searching_visit__R0s n_)

noncomputable def c_impl_SolveProblem : Con := fun args st => match args, st with
  | [.c (.imm (.pair (.sl (.pair (.int .i64) (.int .i64))) (.int .i64)) list_), .c (.int .i64 fuel)], [] => .opt (Int × (List Bool) × (List D5_)) (impl_SolveProblem list_ fuel) (fun r => .ret (.tup [.c (.int .i64 r.1), .c (.own 900 false), .c (.own 901 false)]) [(900, .sl 4 .bool r.2.1 .shallow), (901, .sl 65 y5_ r.2.2 (.deep true .no))])
  | _, _ => .fail

noncomputable def C_impl_SolveProblem : Cfg := { y := tys, n := 40, h := 0, tab := [(28, c_impl_ProblemValid), (29, c_impl_isFuel), (50, c_slices_Clone_impl_Constraint), (51, (c_impl_searching_visit__R0s 64))], cut := [], hand := [], good := [], deep := [], sched := [] }

theorem t_impl_SolveProblem : TabOk Tryz.prog C_impl_SolveProblem := by
  refine tabOk_of ?_
  simp only [C_impl_SolveProblem, List.forall_mem_cons]
  exact ⟨k_impl_ProblemValid, k_impl_isFuel, k_slices_Clone_impl_Constraint, (k_impl_searching_visit__R0s 64), fun p h => by cases h⟩

theorem k_impl_SolveProblem : Entry Tryz.prog 31 c_impl_SolveProblem := by
 refine entry_by (C := C_impl_SolveProblem) mixed tys_ok t_impl_SolveProblem (fn := Tryz.f31) (c := bd Tryz.f31) (by kernel_rfl) (by kernel_rfl) (by kernel_rfl) (by kernel_rfl) ?_
 intro args st k he
 unfold c_impl_SolveProblem at he
 split at he
 rotate_left
 ·exact he.elim
 rename_i list_ fuel
 have he : Ok (impl_SolveProblem list_ fuel) (fun r => k (.tup [.c (.int .i64 r.1), .c (.own 900 false), .c (.own 901 false)]) [(900, .sl 4 .bool r.2.1 .shallow), (901, .sl 65 y5_ r.2.2 (.deep true .no))]) := he
 refine ⟨rfl, rfl, ?_⟩
 refine go_bind he fun r1_ he => ?_
 refine go_if2 he (fun he => ?_) fun he => ?_
 ·refine go_bind he fun r2_ he => ?_
  refine go_if he (fun he => ?_) fun he => ?_
  ·have he := ok_some he
   exact ⟨rfl, _, _, (leads_ren [] (l := [(4, .c (.int .i64 (3:Int))), (5, .c (.own 900 false)), (6, .c (.own 901 false))]) (st' := [(900, .sl 4 .bool ([] : List Bool) .shallow), (901, .sl 65 y5_ ([] : List D5_) (.deep true .no))]) rfl rfl ⟨trivial, trivial, trivial⟩ ⟨rfl, ⟨rfl, trivial⟩, ⟨rfl, trivial⟩, trivial⟩), he⟩
  ·refine go_bind he fun r3_ he => ?_
   refine go_bind he fun r4_ he => ?_
   refine go_if he (fun he => ?_) fun he => ?_
   ·have he := ok_some he
    exact ⟨rfl, _, _, (leads_ren [(900, 26900)] (l := [(4, .c (.int .i64 (1:Int))), (5, .c (.own 900 false)), (6, .c (.own 901 false))]) (st' := [(900, .sl 4 .bool r4_.2.2.2.1 .shallow), (901, .sl 65 y5_ ([] : List D5_) (.deep true .no))]) rfl rfl ⟨⟨rfl, rfl⟩, trivial, trivial⟩ ⟨rfl, ⟨⟨rfl, rfl⟩, trivial⟩, ⟨rfl, trivial⟩, trivial⟩), he⟩
   ·refine go_if he (fun he => ?_) fun he => ?_
    ·have he := ok_some he
     exact ⟨rfl, _, _, (leads_ren [] (l := [(4, .c (.int .i64 (0:Int))), (5, .c (.own 900 false)), (6, .c (.own 901 false))]) (st' := [(900, .sl 4 .bool ([] : List Bool) .shallow), (901, .sl 65 y5_ ([] : List D5_) (.deep true .no))]) rfl rfl ⟨trivial, trivial, trivial⟩ ⟨rfl, ⟨rfl, trivial⟩, ⟨rfl, trivial⟩, trivial⟩), he⟩
    ·refine And.intro (by kernel_rfl) ?_
     have he := ok_some he
     exact ⟨rfl, _, _, (leads_ren [(901, 26902)] (l := [(4, .c (.int .i64 (2:Int))), (5, .c (.own 900 false)), (6, .c (.own 901 false))]) (st' := [(900, .sl 4 .bool ([] : List Bool) .shallow), (901, .sl 65 y5_ r4_.2.2.2.2.2 (.deep true .no))]) rfl rfl ⟨trivial, ⟨rfl, rfl⟩, trivial⟩ ⟨rfl, ⟨rfl, trivial⟩, ⟨⟨rfl, rfl⟩, trivial⟩, trivial⟩), he⟩
 ·have he := ok_some he
  exact ⟨rfl, _, _, (leads_ren [] (l := [(4, .c (.int .i64 (3:Int))), (5, .c (.own 900 false)), (6, .c (.own 901 false))]) (st' := [(900, .sl 4 .bool ([] : List Bool) .shallow), (901, .sl 65 y5_ ([] : List D5_) (.deep true .no))]) rfl rfl ⟨trivial, trivial, trivial⟩ ⟨rfl, ⟨rfl, trivial⟩, ⟨rfl, trivial⟩, trivial⟩), he⟩

noncomputable def c_impl_negations : Con := fun args st => match args, st with
  | [.c (.imm (.int .i64) lits)], [] => .opt ((List Int)) (impl_negations lits) (fun r => .ret (.c (.own 900 false)) [(900, .sl 3 y0_ r .shallow)])
  | _, _ => .fail

noncomputable def C_impl_negations : Cfg := { y := tys, n := 19, h := 0, tab := [], cut := [], hand := [], good := [], deep := [], sched := [] }

theorem t_impl_negations : TabOk Tryz.prog C_impl_negations := tabOk_of (fun p h => by cases h)

theorem k_impl_negations : Entry Tryz.prog 54 c_impl_negations := by
 refine entry_by (C := C_impl_negations) mixed tys_ok t_impl_negations (fn := Tryz.f54) (c := bd Tryz.f54) (by kernel_rfl) (by kernel_rfl) (by kernel_rfl) (by kernel_rfl) ?_
 intro args st k he
 unfold c_impl_negations at he
 split at he
 rotate_left
 ·exact he.elim
 rename_i lits
 have he : Ok (impl_negations lits) (fun r => k (.c (.own 900 false)) [(900, .sl 3 y0_ r .shallow)]) := he
 refine ⟨rfl, rfl, ?_⟩
 refine loop_model mixed tys_ok t_impl_negations (S := Int × (List Int)) (I := (fun (i, out) => (envOf [(3, .c (.own 10000000 false)), (6, .c (.imm y0_ lits)), (7, .c (.int .i64 (lits.length:Int))), (8, .c (.int .i64 i))], [(10000000, .sl 3 y0_ out .shallow)]))) (f := impl_negations_l1 lits) (K := (fun r => k (.c (.own 900 false)) [(900, .sl 3 y0_ r .shallow)])) he (leads_ren [] rfl rfl ⟨trivial, trivial⟩ ⟨⟨rfl, trivial⟩, .inl rfl, rfl, rfl, trivial⟩) ?_
 rintro ⟨i, out⟩ J1 he
 refine go_if he (fun he => ?_) fun he => ?_
 ·refine go_rq he fun he => ?_
  refine go_rq he fun he => ?_
  refine go_rq he fun he => ?_
  refine go_rq he fun he => ?_
  have he := ok_some he
  exact ⟨((i + (1:Int)), (out ++ [(0 - (lits.getD i.toNat 0))])), he, (leads_ren [(10000000, 16)] rfl rfl ⟨⟨rfl, rfl⟩, trivial⟩ ⟨⟨⟨rfl, rfl⟩, trivial⟩, .inl rfl, rfl, rfl, trivial⟩)⟩
 ·have he := ok_some he
  exact ⟨rfl, _, _, (leads_ren [(900, 10000000)] (l := [(2, .c (.own 900 false))]) (st' := [(900, .sl 3 y0_ out .shallow)]) rfl rfl ⟨⟨rfl, rfl⟩, trivial⟩ ⟨⟨⟨rfl, rfl⟩, trivial⟩, trivial⟩), he⟩

noncomputable def c_impl_LiftStep : Con := fun args st => match args, st with
  | [.agg [.int .i64 a0_0, .int .i64 a0_1, .int .i64 a0_2, .imm (.pair (.int .i64) (.int .i64)) a0_3, .int .i64 a0_4], .c (.imm (.int .i64) a1)], [] => .opt (Bool × Int × Int × Int × Int × (List D1_)) (impl_LiftStep (a0_0, (a0_1, (a0_2, (a0_3, a0_4)))) a1) (fun r => .ret (.tup [.agg [.int .i64 r.2.1, .int .i64 r.2.2.1, .int .i64 r.2.2.2.1, .own 901 false, .int .i64 r.2.2.2.2.1], .c (.bool r.1)]) [(900, .rc [.int .i64 r.2.1, .int .i64 r.2.2.1, .int .i64 r.2.2.2.1, .own 901 false, .int .i64 r.2.2.2.2.1]), (901, .sl 76 y1_ r.2.2.2.2.2 .shallow)])
  | _, _ => .fail

noncomputable def C_impl_LiftStep : Cfg := { y := tys, n := 72, h := 0, tab := [(48, c_impl_isCube), (53, c_impl_ClauseOf), (54, c_impl_negations), (68, c_impl_ConstraintValid)], cut := [11], hand := [], good := [], deep := [], sched := [] }

theorem t_impl_LiftStep : TabOk Tryz.prog C_impl_LiftStep := by
  refine tabOk_of ?_
  simp only [C_impl_LiftStep, List.forall_mem_cons]
  exact ⟨k_impl_isCube, k_impl_ClauseOf, k_impl_negations, k_impl_ConstraintValid, fun p h => by cases h⟩

theorem k_impl_LiftStep : Entry Tryz.prog 52 c_impl_LiftStep := by
 refine entry_by (C := C_impl_LiftStep) mixed tys_ok t_impl_LiftStep (fn := Tryz.f52) (c := bd Tryz.f52) (by kernel_rfl) (by kernel_rfl) (by kernel_rfl) (by kernel_rfl) ?_
 intro args st k he
 unfold c_impl_LiftStep at he
 split at he
 rotate_left
 ·exact he.elim
 rename_i a0_0 a0_1 a0_2 a0_3 a0_4 a1
 have he : Ok (impl_LiftStep (a0_0, (a0_1, (a0_2, (a0_3, a0_4)))) a1) (fun r => k (.tup [.agg [.int .i64 r.2.1, .int .i64 r.2.2.1, .int .i64 r.2.2.2.1, .own 901 false, .int .i64 r.2.2.2.2.1], .c (.bool r.1)]) [(900, .rc [.int .i64 r.2.1, .int .i64 r.2.2.1, .int .i64 r.2.2.2.1, .own 901 false, .int .i64 r.2.2.2.2.1]), (901, .sl 76 y1_ r.2.2.2.2.2 .shallow)]) := he
 refine ⟨rfl, rfl, ?_⟩
 refine go_if2 he (fun he => ?_) fun he => ?_
 ·refine go_if2 he (fun he => ?_) fun he => ?_
  ·refine go_if2 he (fun he => ?_) fun he => ?_
   ·refine go_bind he fun r1_ he => ?_
    refine go_if2 he (fun he => ?_) fun he => ?_
    ·refine go_if2 he (fun he => ?_) fun he => ?_
     ·refine go_bind he fun r2_ he => ?_
      refine go_if he (fun he => ?_) fun he => ?_
      ·have he := ok_some he
       exact ⟨rfl, _, _, (leads_ren [(900, 4)] (l := [(4, .c (.ptr 900 0)), (5, .c (.bool false))]) (st' := [(900, .rc [.int .i64 (0:Int), .int .i64 (0:Int), .int .i64 (0:Int), .own 901 false, .int .i64 (0:Int)]), (901, .sl 76 y1_ ([] : List D1_) .shallow)]) rfl rfl ⟨⟨rfl, rfl, rfl, ⟨rfl, trivial⟩, rfl, trivial⟩, trivial, trivial⟩ ⟨⟨⟨rfl, rfl⟩, rfl⟩, .inr rfl, trivial⟩), he⟩
      ·refine go_bind he fun r3_ he => ?_
       refine seq_model mixed tys_ok t_impl_LiftStep (S := (List Int)) (I := (fun i2 => (envOf [(4, .c (.ptr 10001000 0)), (6, .c (.own 10001001 false))], [(10001000, .rc [.int .i64 (0:Int), .int .i64 (0:Int), .int .i64 (0:Int), .nil, .int .i64 (0:Int)]), (10001001, .sl 3 y0_ i2 .shallow)]))) (B := fun s => Ok (impl_LiftStep_j1 s) (fun r => k (.tup [.agg [.int .i64 r.2.1, .int .i64 r.2.2.1, .int .i64 r.2.2.2.1, .own 901 false, .int .i64 r.2.2.2.2.1], .c (.bool r.1)]) [(900, .rc [.int .i64 r.2.1, .int .i64 r.2.2.1, .int .i64 r.2.2.2.1, .own 901 false, .int .i64 r.2.2.2.2.1]), (901, .sl 76 y1_ r.2.2.2.2.2 .shallow)])) ?_ ?_
       ·rintro i2 he
        refine go_bind he fun r4_ he => ?_
        refine go_if he (fun he => ?_) fun he => ?_
        ·have he := ok_some he
         exact ⟨rfl, _, _, (leads_ren [(900, 10001000)] (l := [(4, .c (.ptr 900 0)), (5, .c (.bool false))]) (st' := [(900, .rc [.int .i64 (0:Int), .int .i64 (0:Int), .int .i64 (0:Int), .own 901 false, .int .i64 (0:Int)]), (901, .sl 76 y1_ ([] : List D1_) .shallow)]) rfl rfl ⟨⟨rfl, rfl, rfl, ⟨rfl, trivial⟩, rfl, trivial⟩, trivial, trivial⟩ ⟨⟨⟨rfl, rfl⟩, rfl⟩, .inr rfl, trivial⟩), he⟩
        ·have he := ok_some he
         exact ⟨rfl, _, _, (leads_ren [(900, 10001000), (901, 65901)] (l := [(4, .c (.ptr 900 0)), (5, .c (.bool true))]) (st' := [(900, .rc [.int .i64 (7:Int), .int .i64 (0:Int), .int .i64 (0:Int), .own 901 false, .int .i64 r4_.2.1]), (901, .sl 76 y1_ r4_.2.2 .shallow)]) rfl rfl ⟨⟨rfl, rfl, rfl, ⟨⟨rfl, rfl⟩, trivial⟩, rfl, trivial⟩, ⟨rfl, rfl⟩, trivial⟩ ⟨⟨⟨rfl, rfl⟩, rfl⟩, .inr rfl, trivial⟩), he⟩
       ·skip
        refine loop_model mixed tys_ok t_impl_LiftStep (S := Int × (List Int)) (I := (fun (i, i1) => (envOf [(4, .c (.ptr 10000000 0)), (6, .c (.own 10000001 false)), (46, .c (.imm y1_ (a0_0, (a0_1, (a0_2, (a0_3, a0_4)))).2.2.2.1)), (47, .c (.int .i64 ((a0_0, (a0_1, (a0_2, (a0_3, a0_4)))).2.2.2.1.length:Int))), (48, .c (.int .i64 i))], [(10000000, .rc [.int .i64 (0:Int), .int .i64 (0:Int), .int .i64 (0:Int), .nil, .int .i64 (0:Int)]), (10000001, .sl 3 y0_ i1 .shallow)]))) (f := impl_LiftStep_l1 (a0_0, (a0_1, (a0_2, (a0_3, a0_4))))) (K := (fun r => k (.tup [.agg [.int .i64 r.2.1, .int .i64 r.2.2.1, .int .i64 r.2.2.2.1, .own 901 false, .int .i64 r.2.2.2.2.1], .c (.bool r.1)]) [(900, .rc [.int .i64 r.2.1, .int .i64 r.2.2.1, .int .i64 r.2.2.2.1, .own 901 false, .int .i64 r.2.2.2.2.1]), (901, .sl 76 y1_ r.2.2.2.2.2 .shallow)])) he (leads_ren [(10000000, 4), (10000001, 44900)] rfl rfl ⟨⟨rfl, rfl, rfl, rfl, rfl, trivial⟩, ⟨rfl, rfl⟩, trivial⟩ ⟨⟨⟨rfl, rfl⟩, rfl⟩, ⟨⟨rfl, rfl⟩, trivial⟩, .inl rfl, rfl, rfl, trivial⟩) ?_
        rintro ⟨i, i1⟩ J1 he
        refine go_if he (fun he => ?_) fun he => ?_
        ·refine go_rq he fun he => ?_
         refine go_if he (fun he => ?_) fun he => ?_
         ·have he := ok_some he
          exact ⟨rfl, _, _, (leads_ren [(900, 10000000)] (l := [(4, .c (.ptr 900 0)), (5, .c (.bool false))]) (st' := [(900, .rc [.int .i64 (0:Int), .int .i64 (0:Int), .int .i64 (0:Int), .own 901 false, .int .i64 (0:Int)]), (901, .sl 76 y1_ ([] : List D1_) .shallow)]) rfl rfl ⟨⟨rfl, rfl, rfl, ⟨rfl, trivial⟩, rfl, trivial⟩, trivial, trivial⟩ ⟨⟨⟨rfl, rfl⟩, rfl⟩, .inr rfl, trivial⟩), he⟩
         ·refine go_rq he fun he => ?_
          refine go_rq he fun he => ?_
          have he := ok_some he
          exact ⟨((i + (1:Int)), (i1 ++ [((a0_0, (a0_1, (a0_2, (a0_3, a0_4)))).2.2.2.1.getD i.toNat (0, 0)).2])), he, (leads_ren [(10000001, 60)] rfl rfl ⟨⟨rfl, rfl, rfl, rfl, rfl, trivial⟩, ⟨rfl, rfl⟩, trivial⟩ ⟨⟨⟨rfl, rfl⟩, rfl⟩, ⟨⟨rfl, rfl⟩, trivial⟩, .inl rfl, rfl, rfl, trivial⟩)⟩
        ·exact ⟨i1, ok_up he, (leads_ren [(10001000, 10000000), (10001001, 10000001)] rfl rfl ⟨⟨rfl, rfl, rfl, rfl, rfl, trivial⟩, ⟨rfl, rfl⟩, trivial⟩ ⟨⟨⟨rfl, rfl⟩, rfl⟩, ⟨⟨rfl, rfl⟩, trivial⟩, trivial⟩)⟩
     ·have he := ok_some he
      exact ⟨rfl, _, _, (leads_ren [(900, 4)] (l := [(4, .c (.ptr 900 0)), (5, .c (.bool false))]) (st' := [(900, .rc [.int .i64 (0:Int), .int .i64 (0:Int), .int .i64 (0:Int), .own 901 false, .int .i64 (0:Int)]), (901, .sl 76 y1_ ([] : List D1_) .shallow)]) rfl rfl ⟨⟨rfl, rfl, rfl, ⟨rfl, trivial⟩, rfl, trivial⟩, trivial, trivial⟩ ⟨⟨⟨rfl, rfl⟩, rfl⟩, .inr rfl, trivial⟩), he⟩
    ·have he := ok_some he
     exact ⟨rfl, _, _, (leads_ren [(900, 4)] (l := [(4, .c (.ptr 900 0)), (5, .c (.bool false))]) (st' := [(900, .rc [.int .i64 (0:Int), .int .i64 (0:Int), .int .i64 (0:Int), .own 901 false, .int .i64 (0:Int)]), (901, .sl 76 y1_ ([] : List D1_) .shallow)]) rfl rfl ⟨⟨rfl, rfl, rfl, ⟨rfl, trivial⟩, rfl, trivial⟩, trivial, trivial⟩ ⟨⟨⟨rfl, rfl⟩, rfl⟩, .inr rfl, trivial⟩), he⟩
   ·have he := ok_some he
    exact ⟨rfl, _, _, (leads_ren [(900, 4)] (l := [(4, .c (.ptr 900 0)), (5, .c (.bool false))]) (st' := [(900, .rc [.int .i64 (0:Int), .int .i64 (0:Int), .int .i64 (0:Int), .own 901 false, .int .i64 (0:Int)]), (901, .sl 76 y1_ ([] : List D1_) .shallow)]) rfl rfl ⟨⟨rfl, rfl, rfl, ⟨rfl, trivial⟩, rfl, trivial⟩, trivial, trivial⟩ ⟨⟨⟨rfl, rfl⟩, rfl⟩, .inr rfl, trivial⟩), he⟩
  ·have he := ok_some he
   exact ⟨rfl, _, _, (leads_ren [(900, 4)] (l := [(4, .c (.ptr 900 0)), (5, .c (.bool false))]) (st' := [(900, .rc [.int .i64 (0:Int), .int .i64 (0:Int), .int .i64 (0:Int), .own 901 false, .int .i64 (0:Int)]), (901, .sl 76 y1_ ([] : List D1_) .shallow)]) rfl rfl ⟨⟨rfl, rfl, rfl, ⟨rfl, trivial⟩, rfl, trivial⟩, trivial, trivial⟩ ⟨⟨⟨rfl, rfl⟩, rfl⟩, .inr rfl, trivial⟩), he⟩
 ·have he := ok_some he
  exact ⟨rfl, _, _, (leads_ren [(900, 4)] (l := [(4, .c (.ptr 900 0)), (5, .c (.bool false))]) (st' := [(900, .rc [.int .i64 (0:Int), .int .i64 (0:Int), .int .i64 (0:Int), .own 901 false, .int .i64 (0:Int)]), (901, .sl 76 y1_ ([] : List D1_) .shallow)]) rfl rfl ⟨⟨rfl, rfl, rfl, ⟨rfl, trivial⟩, rfl, trivial⟩, trivial, trivial⟩ ⟨⟨⟨rfl, rfl⟩, rfl⟩, .inr rfl, trivial⟩), he⟩

noncomputable def c_impl_MergeProofs : Con := fun args st => match args, st with
  | [.c (.imm (.int .i64) a0), .c (.imm (.sl (.pair (.int .i64) (.pair (.int .i64) (.pair (.int .i64) (.pair (.sl (.pair (.int .i64) (.int .i64))) (.int .i64)))))) a1)], [] => .opt (Bool × (List D5_)) (impl_MergeProofs a0 a1) (fun r => .ret (.tup [.c (.own 900 false), .c (.bool r.1)]) [(900, .sl 65 y5_ r.2 (.deep true .no))])
  | _, _ => .fail

noncomputable def C_impl_MergeProofs : Cfg := { y := tys, n := 101, h := 0, tab := [(27, c_impl_SplitCubes), (45, c_impl_cubesOf), (52, c_impl_LiftStep), (53, c_impl_ClauseOf), (54, c_impl_negations)], cut := [18, 27], hand := [], good := [], deep := [65, 94], sched := [] }

theorem t_impl_MergeProofs : TabOk Tryz.prog C_impl_MergeProofs := by
  refine tabOk_of ?_
  simp only [C_impl_MergeProofs, List.forall_mem_cons]
  exact ⟨k_impl_SplitCubes, k_impl_cubesOf, k_impl_LiftStep, k_impl_ClauseOf, k_impl_negations, fun p h => by cases h⟩

theorem k_impl_MergeProofs : Entry Tryz.prog 32 c_impl_MergeProofs := by
 refine entry_by (C := C_impl_MergeProofs) mixed tys_ok t_impl_MergeProofs (fn := Tryz.f32) (c := bd Tryz.f32) (by kernel_rfl) (by kernel_rfl) (by kernel_rfl) (by kernel_rfl) ?_
 intro args st k he
 unfold c_impl_MergeProofs at he
 split at he
 rotate_left
 ·exact he.elim
 rename_i a0 a1
 have he : Ok (impl_MergeProofs a0 a1) (fun r => k (.tup [.c (.own 900 false), .c (.bool r.1)]) [(900, .sl 65 y5_ r.2 (.deep true .no))]) := he
 refine ⟨rfl, rfl, ?_⟩
 refine go_bind he fun r1_ he => ?_
 refine go_if2 he (fun he => ?_) fun he => ?_
 ·refine go_if he (fun he => ?_) fun he => ?_
  ·have he := ok_some he
   exact ⟨rfl, _, _, (leads_ren [] (l := [(4, .c (.own 900 false)), (5, .c (.bool false))]) (st' := [(900, .sl 65 y5_ ([] : List D5_) (.deep true .no))]) rfl rfl ⟨trivial, trivial⟩ ⟨⟨rfl, trivial⟩, .inr rfl, trivial⟩), he⟩
  ·refine seq_model mixed tys_ok t_impl_MergeProofs (S := (List D5_)) (I := (fun i7 => (envOf [(0, .c (.imm y0_ a0)), (8, .c (.own 10003000 false))], [(10003000, .sl 65 y5_ i7 (.deep true .no))]))) (B := fun s => Ok (impl_MergeProofs_j1 a0 s) (fun r => k (.tup [.c (.own 900 false), .c (.bool r.1)]) [(900, .sl 65 y5_ r.2 (.deep true .no))])) ?_ ?_
   ·rintro i7 he
    refine seq_model mixed tys_ok t_impl_MergeProofs (S := (List D5_)) (I := (fun i16 => (envOf [(8, .c (.own 10007000 false))], [(10007000, .sl 65 y5_ i16 (.deep true .no))]))) (B := fun s => Ok (impl_MergeProofs_j2 s) (fun r => k (.tup [.c (.own 900 false), .c (.bool r.1)]) [(900, .sl 65 y5_ r.2 (.deep true .no))])) ?_ ?_
    ·rintro i16 he
     refine go_if he (fun he => ?_) fun he => ?_
     ·have he := ok_some he
      exact ⟨rfl, _, _, (leads_ren [] (l := [(4, .c (.own 900 false)), (5, .c (.bool false))]) (st' := [(900, .sl 65 y5_ ([] : List D5_) (.deep true .no))]) rfl rfl ⟨trivial, trivial⟩ ⟨⟨rfl, trivial⟩, .inr rfl, trivial⟩), he⟩
     ·have he := ok_some he
      exact ⟨rfl, _, _, (leads_ren [(900, 10007000)] (l := [(4, .c (.own 900 false)), (5, .c (.bool true))]) (st' := [(900, .sl 65 y5_ i16 (.deep true .no))]) rfl rfl ⟨⟨rfl, rfl⟩, trivial⟩ ⟨⟨⟨rfl, rfl⟩, trivial⟩, .inr rfl, trivial⟩), he⟩
    ·skip
     refine go_rq he fun he => ?_
     refine loop_model mixed tys_ok t_impl_MergeProofs (S := Int × (List D5_)) (I := (fun (i8, i12) => (envOf [(0, .c (.imm y0_ a0)), (8, .c (.own 10004000 false)), (15, .c (.int .i64 i8))], [(10004000, .sl 65 y5_ i12 (.deep true .no))]))) (f := impl_MergeProofs_l1 a0) (K := (fun r => k (.tup [.c (.own 900 false), .c (.bool r.1)]) [(900, .sl 65 y5_ r.2 (.deep true .no))])) he (leads_ren [(10004000, 10003000)] rfl rfl ⟨⟨rfl, rfl⟩, trivial⟩ ⟨.inl rfl, ⟨⟨rfl, rfl⟩, trivial⟩, rfl, trivial⟩) ?_
     rintro ⟨i8, i12⟩ J1 he
     refine go_if he (fun he => ?_) fun he => ?_
     ·refine go_rq he fun he => ?_
      refine go_bind he fun r11_ he => ?_
      refine loop_model mixed tys_ok t_impl_MergeProofs (S := Int × (List D5_) × (List (List Int))) (I := (fun (i13, i14, i15) => (envOf [(0, .c (.imm y0_ a0)), (8, .c (.own 10006000 false)), (15, .c (.int .i64 i8)), (79, .c (.own 10006001 false)), (80, .c (.int .i64 (r11_.length:Int))), (81, .c (.int .i64 i13))], [(10006000, .sl 65 y5_ i14 (.deep true .no)), (10006001, .sl 23 (.sl y0_) i15 (.deep true .no))]))) (f := impl_MergeProofs_l2 i8 r11_) (K := (LK J1 (fun r => k (.tup [.c (.own 900 false), .c (.bool r.1)]) [(900, .sl 65 y5_ r.2 (.deep true .no))]))) he (leads_ren [(10006000, 10004000), (10006001, 80900)] rfl rfl ⟨⟨rfl, rfl⟩, ⟨rfl, rfl⟩, trivial⟩ ⟨.inl rfl, ⟨⟨rfl, rfl⟩, trivial⟩, rfl, ⟨⟨rfl, rfl⟩, trivial⟩, rfl, rfl, trivial⟩) ?_
      rintro ⟨i13, i14, i15⟩ J2 he
      refine go_if he (fun he => ?_) fun he => ?_
      ·refine go_rq he fun he => ?_
       refine go_bind he fun r14_ he => ?_
       refine go_bind he fun r15_ he => ?_
       refine go_rq he fun he => ?_
       refine go_rq he fun he => ?_
       have he := ok_some he
       exact ⟨((i13 + (1:Int)), (i14 ++ [((7:Int), ((0:Int), ((0:Int), (r15_.2.2, r15_.2.1))))]), (i15.set i13.toNat (i15.getD i13.toNat []))), he, ((leads_close [10006001] rfl).trans (leads_ren [(10006000, 95)] (l := [(0, .c (.imm y0_ a0)), (8, .c (.own 10006000 false)), (15, .c (.int .i64 i8)), (79, .c (.own 10006001 false)), (80, .c (.int .i64 (r11_.length:Int))), (81, .c (.int .i64 (i13 + (1:Int))))]) (st' := [(10006000, .sl 65 y5_ (i14 ++ [((7:Int), ((0:Int), ((0:Int), (r15_.2.2, r15_.2.1))))]) (.deep true .no)), (10006001, .sl 23 (.sl y0_) (i15.set i13.toNat (i15.getD i13.toNat [])) (.deep true .no))]) rfl rfl (by exact ⟨⟨rfl, rfl⟩, ⟨rfl, rfl⟩, trivial⟩) (by exact ⟨.inl rfl, ⟨⟨rfl, rfl⟩, trivial⟩, rfl, ⟨⟨rfl, rfl⟩, trivial⟩, rfl, rfl, trivial⟩)))⟩
      ·refine go_rq he fun he => ?_
       have he := ok_some he
       exact ⟨((i8 - (1:Int)), i14), he, (leads_ren [(10004000, 10006000)] rfl rfl ⟨⟨rfl, rfl⟩, trivial⟩ ⟨.inl rfl, ⟨⟨rfl, rfl⟩, trivial⟩, rfl, trivial⟩)⟩
     ·exact ⟨i12, ok_up he, (leads_ren [(10007000, 10004000)] rfl rfl ⟨⟨rfl, rfl⟩, trivial⟩ ⟨⟨⟨rfl, rfl⟩, trivial⟩, trivial⟩)⟩
   ·skip
    refine loop_model mixed tys_ok t_impl_MergeProofs (S := Int × (List D5_) × (List (List Int))) (I := (fun (i, i3, i4) => (envOf [(0, .c (.imm y0_ a0)), (1, .c (.imm (.sl y5_) a1)), (8, .c (.own 10000000 false)), (34, .c (.own 10000001 false)), (35, .c (.int .i64 (r1_.2.length:Int))), (36, .c (.int .i64 i))], [(10000000, .sl 65 y5_ i3 (.deep true .no)), (10000001, .sl 23 (.sl y0_) i4 (.deep true .no))]))) (f := impl_MergeProofs_l3 a0 a1 r1_) (K := (fun r => k (.tup [.c (.own 900 false), .c (.bool r.1)]) [(900, .sl 65 y5_ r.2 (.deep true .no))])) he (leads_ren [(10000001, 23900)] rfl rfl ⟨trivial, ⟨rfl, rfl⟩, trivial⟩ ⟨.inl rfl, .inl rfl, ⟨rfl, trivial⟩, ⟨⟨rfl, rfl⟩, trivial⟩, rfl, rfl, trivial⟩) ?_
    rintro ⟨i, i3, i4⟩ J1 he
    refine go_if he (fun he => ?_) fun he => ?_
    ·refine go_rq he fun he => ?_
     refine go_rq he fun he => ?_
     refine go_if he (fun he => ?_) fun he => ?_
     ·have he := ok_some he
      exact ⟨rfl, _, _, ((leads_close [10000001] rfl).trans (leads_ren [] (l := [(4, .c (.own 900 false)), (5, .c (.bool false))]) (st' := [(900, .sl 65 y5_ ([] : List D5_) (.deep true .no))]) rfl rfl (by exact ⟨trivial, trivial⟩) (by exact ⟨⟨rfl, trivial⟩, .inr rfl, trivial⟩))), he⟩
     ·refine go_rq he fun he => ?_
      refine loop_model mixed tys_ok t_impl_MergeProofs (S := Int × (List D5_)) (I := (fun (i5, i6) => (envOf [(0, .c (.imm y0_ a0)), (1, .c (.imm (.sl y5_) a1)), (8, .c (.own 10002000 false)), (10, .c (.own 41000 false)), (34, .c (.own 10000001 false)), (35, .c (.int .i64 (r1_.2.length:Int))), (36, .c (.int .i64 i)), (50, .c (.imm y5_ (a1.getD i.toNat []))), (51, .c (.int .i64 ((a1.getD i.toNat []).length:Int))), (52, .c (.int .i64 i5))], [(41000, .sl 0 y0_ (i4.getD i.toNat []) (.deep false .no)), (10000001, .sl 23 (.sl y0_) i4 (.deep true (.at i.toNat 0 1 41000))), (10002000, .sl 65 y5_ i6 (.deep true .no))]))) (f := impl_MergeProofs_l4 a1 i i4) (K := (LK J1 (fun r => k (.tup [.c (.own 900 false), .c (.bool r.1)]) [(900, .sl 65 y5_ r.2 (.deep true .no))]))) he (leads_ren [(10002000, 10000000)] rfl rfl ⟨⟨rfl, rfl⟩, ⟨rfl, rfl⟩, ⟨rfl, rfl⟩, trivial⟩ ⟨.inl rfl, .inl rfl, ⟨⟨rfl, rfl⟩, trivial⟩, ⟨⟨rfl, rfl⟩, trivial⟩, ⟨⟨rfl, rfl⟩, trivial⟩, rfl, rfl, .inl rfl, rfl, rfl, trivial⟩) ?_
      rintro ⟨i5, i6⟩ J2 he
      refine go_if he (fun he => ?_) fun he => ?_
      ·refine go_rq he fun he => ?_
       refine go_bind he fun r5_ he => ?_
       refine go_if he (fun he => ?_) fun he => ?_
       ·refine go_rq he fun he => ?_
        refine go_rq he fun he => ?_
        have he := ok_some he
        exact ⟨((i5 + (1:Int)), (i6 ++ [(r5_.2.1, (r5_.2.2.1, (r5_.2.2.2.1, (r5_.2.2.2.2.2, r5_.2.2.2.2.1))))])), he, (leads_ren [(10002000, 66)] rfl rfl ⟨⟨rfl, rfl⟩, ⟨rfl, rfl⟩, ⟨rfl, rfl⟩, trivial⟩ ⟨.inl rfl, .inl rfl, ⟨⟨rfl, rfl⟩, trivial⟩, ⟨⟨rfl, rfl⟩, trivial⟩, ⟨⟨rfl, rfl⟩, trivial⟩, rfl, rfl, .inl rfl, rfl, rfl, trivial⟩)⟩
       ·refine go_rq he fun he => ?_
        have he := ok_some he
        exact ⟨((i5 + (1:Int)), i6), he, (leads_ren [] rfl rfl ⟨⟨rfl, rfl⟩, ⟨rfl, rfl⟩, ⟨rfl, rfl⟩, trivial⟩ ⟨.inl rfl, .inl rfl, ⟨⟨rfl, rfl⟩, trivial⟩, ⟨⟨rfl, rfl⟩, trivial⟩, ⟨⟨rfl, rfl⟩, trivial⟩, rfl, rfl, .inl rfl, rfl, rfl, trivial⟩)⟩
      ·refine go_rq he fun he => ?_
       have he := ok_some he
       exact ⟨((i + (1:Int)), i6, (i4.set i.toNat (i4.getD i.toNat []))), he, ((leads_close [10000001] rfl).trans (leads_ren [(10000000, 10002000)] (l := [(0, .c (.imm y0_ a0)), (1, .c (.imm (.sl y5_) a1)), (8, .c (.own 10000000 false)), (34, .c (.own 10000001 false)), (35, .c (.int .i64 (r1_.2.length:Int))), (36, .c (.int .i64 (i + (1:Int))))]) (st' := [(10000000, .sl 65 y5_ i6 (.deep true .no)), (10000001, .sl 23 (.sl y0_) (i4.set i.toNat (i4.getD i.toNat [])) (.deep true .no))]) rfl rfl (by exact ⟨⟨rfl, rfl⟩, ⟨rfl, rfl⟩, trivial⟩) (by exact ⟨.inl rfl, .inl rfl, ⟨⟨rfl, rfl⟩, trivial⟩, ⟨⟨rfl, rfl⟩, trivial⟩, rfl, rfl, trivial⟩)))⟩
    ·exact ⟨i3, ok_up he, (leads_ren [(10003000, 10000000)] rfl rfl ⟨⟨rfl, rfl⟩, trivial⟩ ⟨.inl rfl, ⟨⟨rfl, rfl⟩, trivial⟩, trivial⟩)⟩
 ·have he := ok_some he
  exact ⟨rfl, _, _, (leads_ren [] (l := [(4, .c (.own 900 false)), (5, .c (.bool false))]) (st' := [(900, .sl 65 y5_ ([] : List D5_) (.deep true .no))]) rfl rfl ⟨trivial, trivial⟩ ⟨⟨rfl, trivial⟩, .inr rfl, trivial⟩), he⟩

noncomputable def c_impl_SolveCubes : Con := fun args st => match args, st with
  | [.c (.imm (.pair (.sl (.pair (.int .i64) (.int .i64))) (.int .i64)) a0), .c (.imm (.int .i64) a1), .c (.int .i64 a2)], [] => .opt (Int × (List Bool) × (List D5_)) (impl_SolveCubes a0 a1 a2) (fun r => .ret (.tup [.c (.int .i64 r.1), .c (.own 900 false), .c (.own 901 false)]) [(900, .sl 4 .bool r.2.1 .shallow), (901, .sl 65 y5_ r.2.2 (.deep true .no))])
  | _, _ => .fail

noncomputable def C_impl_SolveCubes : Cfg := { y := tys, n := 82, h := 0, tab := [(27, c_impl_SplitCubes), (28, c_impl_ProblemValid), (29, c_impl_isFuel), (30, c_impl_CubeProblem), (31, c_impl_SolveProblem), (32, c_impl_MergeProofs)], cut := [14], hand := [], good := [], deep := [70], sched := [] }

theorem t_impl_SolveCubes : TabOk Tryz.prog C_impl_SolveCubes := by
  refine tabOk_of ?_
  simp only [C_impl_SolveCubes, List.forall_mem_cons]
  exact ⟨k_impl_SplitCubes, k_impl_ProblemValid, k_impl_isFuel, k_impl_CubeProblem, k_impl_SolveProblem, k_impl_MergeProofs, fun p h => by cases h⟩

theorem k_impl_SolveCubes : Entry Tryz.prog 8 c_impl_SolveCubes := by
 refine entry_by (C := C_impl_SolveCubes) mixed tys_ok t_impl_SolveCubes (fn := Tryz.f8) (c := bd Tryz.f8) (by kernel_rfl) (by kernel_rfl) (by kernel_rfl) (by kernel_rfl) ?_
 intro args st k he
 unfold c_impl_SolveCubes at he
 split at he
 rotate_left
 ·exact he.elim
 rename_i a0 a1 a2
 have he : Ok (impl_SolveCubes a0 a1 a2) (fun r => k (.tup [.c (.int .i64 r.1), .c (.own 900 false), .c (.own 901 false)]) [(900, .sl 4 .bool r.2.1 .shallow), (901, .sl 65 y5_ r.2.2 (.deep true .no))]) := he
 refine ⟨rfl, rfl, ?_⟩
 refine go_bind he fun r1_ he => ?_
 refine go_if2 he (fun he => ?_) fun he => ?_
 ·refine go_bind he fun r2_ he => ?_
  refine go_if2 he (fun he => ?_) fun he => ?_
  ·refine go_bind he fun r3_ he => ?_
   refine go_if2 he (fun he => ?_) fun he => ?_
   ·refine go_rq he fun he => ?_
    refine go_if he (fun he => ?_) fun he => ?_
    ·have he := ok_some he
     exact ⟨rfl, _, _, (leads_ren [] (l := [(6, .c (.int .i64 (3:Int))), (7, .c (.own 900 false)), (8, .c (.own 901 false))]) (st' := [(900, .sl 4 .bool ([] : List Bool) .shallow), (901, .sl 65 y5_ ([] : List D5_) (.deep true .no))]) rfl rfl ⟨trivial, trivial, trivial⟩ ⟨rfl, ⟨rfl, trivial⟩, ⟨rfl, trivial⟩, trivial⟩), he⟩
    ·refine seq_model mixed tys_ok t_impl_SolveCubes (S := (List (List D5_))) (I := (fun i3 => (envOf [(1, .c (.imm y0_ a1)), (11, .c (.own 10001000 false))], [(10001000, .sl 26 (.sl y5_) i3 (.deep true .no))]))) (B := fun s => Ok (impl_SolveCubes_j1 a1 s) (fun r => k (.tup [.c (.int .i64 r.1), .c (.own 900 false), .c (.own 901 false)]) [(900, .sl 4 .bool r.2.1 .shallow), (901, .sl 65 y5_ r.2.2 (.deep true .no))])) ?_ ?_
     ·rintro i3 he
      refine go_bind he fun r8_ he => ?_
      refine go_if he (fun he => ?_) fun he => ?_
      ·have he := ok_some he
       exact ⟨rfl, _, _, (leads_ren [] (l := [(6, .c (.int .i64 (0:Int))), (7, .c (.own 900 false)), (8, .c (.own 901 false))]) (st' := [(900, .sl 4 .bool ([] : List Bool) .shallow), (901, .sl 65 y5_ ([] : List D5_) (.deep true .no))]) rfl rfl ⟨trivial, trivial, trivial⟩ ⟨rfl, ⟨rfl, trivial⟩, ⟨rfl, trivial⟩, trivial⟩), he⟩
      ·have he := ok_some he
       exact ⟨rfl, _, _, (leads_ren [(901, 77900)] (l := [(6, .c (.int .i64 (2:Int))), (7, .c (.own 900 false)), (8, .c (.own 901 false))]) (st' := [(900, .sl 4 .bool ([] : List Bool) .shallow), (901, .sl 65 y5_ r8_.2 (.deep true .no))]) rfl rfl ⟨trivial, ⟨rfl, rfl⟩, trivial⟩ ⟨rfl, ⟨rfl, trivial⟩, ⟨⟨rfl, rfl⟩, trivial⟩, trivial⟩), he⟩
     ·skip
      refine loop_model mixed tys_ok t_impl_SolveCubes (S := Int × (List (List D5_)) × (List (List Int))) (I := (fun (i, i1, i2) => (envOf [(0, .c (.imm y2_ a0)), (1, .c (.imm y0_ a1)), (2, .c (.int .i64 a2)), (11, .c (.own 10000000 false)), (45, .c (.own 10000001 false)), (46, .c (.int .i64 (r1_.2.length:Int))), (47, .c (.int .i64 i))], [(10000000, .sl 26 (.sl y5_) i1 (.deep true .no)), (10000001, .sl 23 (.sl y0_) i2 (.deep true .no))]))) (f := impl_SolveCubes_l1 a0 a1 a2 r1_) (K := (fun r => k (.tup [.c (.int .i64 r.1), .c (.own 900 false), .c (.own 901 false)]) [(900, .sl 4 .bool r.2.1 .shallow), (901, .sl 65 y5_ r.2.2 (.deep true .no))])) he (leads_ren [(10000001, 23900)] rfl rfl ⟨trivial, ⟨rfl, rfl⟩, trivial⟩ ⟨.inl rfl, .inl rfl, rfl, ⟨rfl, trivial⟩, ⟨⟨rfl, rfl⟩, trivial⟩, rfl, rfl, trivial⟩) ?_
      rintro ⟨i, i1, i2⟩ J1 he
      refine go_if he (fun he => ?_) fun he => ?_
      ·refine go_rq he fun he => ?_
       refine go_bind he fun r6_ he => ?_
       refine go_bind he fun r7_ he => ?_
       refine go_if he (fun he => ?_) fun he => ?_
       ·have he := ok_some he
        exact ⟨rfl, _, _, ((leads_close [10000001] rfl).trans (leads_ren [(900, 61900)] (l := [(6, .c (.int .i64 r7_.1)), (7, .c (.own 900 false)), (8, .c (.own 901 false))]) (st' := [(900, .sl 4 .bool r7_.2.1 .shallow), (901, .sl 65 y5_ ([] : List D5_) (.deep true .no))]) rfl rfl (by exact ⟨⟨rfl, rfl⟩, trivial, trivial⟩) (by exact ⟨rfl, ⟨⟨rfl, rfl⟩, trivial⟩, ⟨rfl, trivial⟩, trivial⟩))), he⟩
       ·refine go_rq he fun he => ?_
        refine go_rq he fun he => ?_
        have he := ok_some he
        exact ⟨((i + (1:Int)), (i1 ++ [r7_.2.2]), (i2.set i.toNat (i2.getD i.toNat []))), he, ((leads_close [10000001] rfl).trans (leads_ren [(10000000, 71)] (l := [(0, .c (.imm y2_ a0)), (1, .c (.imm y0_ a1)), (2, .c (.int .i64 a2)), (11, .c (.own 10000000 false)), (45, .c (.own 10000001 false)), (46, .c (.int .i64 (r1_.2.length:Int))), (47, .c (.int .i64 (i + (1:Int))))]) (st' := [(10000000, .sl 26 (.sl y5_) (i1 ++ [r7_.2.2]) (.deep true .no)), (10000001, .sl 23 (.sl y0_) (i2.set i.toNat (i2.getD i.toNat [])) (.deep true .no))]) rfl rfl (by exact ⟨⟨rfl, rfl⟩, ⟨rfl, rfl⟩, trivial⟩) (by exact ⟨.inl rfl, .inl rfl, rfl, ⟨⟨rfl, rfl⟩, trivial⟩, ⟨⟨rfl, rfl⟩, trivial⟩, rfl, rfl, trivial⟩)))⟩
      ·exact ⟨i1, ok_up he, (leads_ren [(10001000, 10000000)] rfl rfl ⟨⟨rfl, rfl⟩, trivial⟩ ⟨.inl rfl, ⟨⟨rfl, rfl⟩, trivial⟩, trivial⟩)⟩
   ·have he := ok_some he
    exact ⟨rfl, _, _, (leads_ren [] (l := [(6, .c (.int .i64 (3:Int))), (7, .c (.own 900 false)), (8, .c (.own 901 false))]) (st' := [(900, .sl 4 .bool ([] : List Bool) .shallow), (901, .sl 65 y5_ ([] : List D5_) (.deep true .no))]) rfl rfl ⟨trivial, trivial, trivial⟩ ⟨rfl, ⟨rfl, trivial⟩, ⟨rfl, trivial⟩, trivial⟩), he⟩
  ·have he := ok_some he
   exact ⟨rfl, _, _, (leads_ren [] (l := [(6, .c (.int .i64 (3:Int))), (7, .c (.own 900 false)), (8, .c (.own 901 false))]) (st' := [(900, .sl 4 .bool ([] : List Bool) .shallow), (901, .sl 65 y5_ ([] : List D5_) (.deep true .no))]) rfl rfl ⟨trivial, trivial, trivial⟩ ⟨rfl, ⟨rfl, trivial⟩, ⟨rfl, trivial⟩, trivial⟩), he⟩
 ·have he := ok_some he
  exact ⟨rfl, _, _, (leads_ren [] (l := [(6, .c (.int .i64 (3:Int))), (7, .c (.own 900 false)), (8, .c (.own 901 false))]) (st' := [(900, .sl 4 .bool ([] : List Bool) .shallow), (901, .sl 65 y5_ ([] : List D5_) (.deep true .no))]) rfl rfl ⟨trivial, trivial, trivial⟩ ⟨rfl, ⟨rfl, trivial⟩, ⟨rfl, trivial⟩, trivial⟩), he⟩

noncomputable def c_laws_eqBoolS : Con := fun args st => match args, st with
  | [.c (.imm .bool a), .c (.imm .bool b)], [] => .opt (Bool) (laws_eqBoolS a b) (fun r => .ret (.c (.bool r)) [])
  | _, _ => .fail

noncomputable def C_laws_eqBoolS : Cfg := { y := tys, n := 26, h := 0, tab := [], cut := [], hand := [], good := [], deep := [], sched := [] }

theorem t_laws_eqBoolS : TabOk Tryz.prog C_laws_eqBoolS := tabOk_of (fun p h => by cases h)

theorem k_laws_eqBoolS : Entry Tryz.prog 9 c_laws_eqBoolS := by
 refine entry_by (C := C_laws_eqBoolS) mixed tys_ok t_laws_eqBoolS (fn := Tryz.f9) (c := bd Tryz.f9) (by kernel_rfl) (by kernel_rfl) (by kernel_rfl) (by kernel_rfl) ?_
 intro args st k he
 unfold c_laws_eqBoolS at he
 split at he
 rotate_left
 ·exact he.elim
 rename_i a b
 have he : Ok (laws_eqBoolS a b) (fun r => k (.c (.bool r)) []) := he
 refine ⟨rfl, rfl, ?_⟩
 refine go_if he (fun he => ?_) fun he => ?_
 ·have he := ok_some he
  exact ⟨rfl, _, _, Leads.refl _ _, he⟩
 ·refine loop_model mixed tys_ok t_laws_eqBoolS (S := Int) (I := (fun i => (envOf [(0, .c (.imm .bool a)), (1, .c (.imm .bool b)), (5, .c (.int .i64 i))], []))) (f := laws_eqBoolS_l1 a b) (K := (fun r => k (.c (.bool r)) [])) he (leads_ren [] rfl rfl trivial ⟨.inl rfl, .inl rfl, rfl, trivial⟩) ?_
  rintro i J1 he
  refine go_if he (fun he => ?_) fun he => ?_
  ·refine And.intro (by kernel_rfl) ?_
   refine go_rq he fun he => ?_
   refine go_rq he fun he => ?_
   refine go_if he (fun he => ?_) fun he => ?_
   ·have he := ok_some he
    exact ⟨rfl, _, _, Leads.refl _ _, he⟩
   ·refine go_rq he fun he => ?_
    have he := ok_some he
    exact ⟨(i + (1:Int)), he, (leads_ren [] rfl rfl trivial ⟨.inl rfl, .inl rfl, rfl, trivial⟩)⟩
  ·have he := ok_some he
   exact ⟨rfl, _, _, Leads.refl _ _, he⟩

noncomputable def c_laws_eqTerm : Con := fun args st => match args, st with
  | [.agg [.int .i64 a_0, .int .i64 a_1], .agg [.int .i64 b_0, .int .i64 b_1]], [] => .opt (Bool) (laws_eqTerm (a_0, a_1) (b_0, b_1)) (fun r => .ret (.c (.bool r)) [])
  | _, _ => .fail

noncomputable def C_laws_eqTerm : Cfg := { y := tys, n := 15, h := 0, tab := [], cut := [], hand := [], good := [], deep := [], sched := [] }

theorem t_laws_eqTerm : TabOk Tryz.prog C_laws_eqTerm := tabOk_of (fun p h => by cases h)

theorem k_laws_eqTerm : Entry Tryz.prog 79 c_laws_eqTerm := by
 refine entry_by (C := C_laws_eqTerm) mixed tys_ok t_laws_eqTerm (fn := Tryz.f79) (c := bd Tryz.f79) (by kernel_rfl) (by kernel_rfl) (by kernel_rfl) (by kernel_rfl) ?_
 intro args st k he
 unfold c_laws_eqTerm at he
 split at he
 rotate_left
 ·exact he.elim
 rename_i a_0 a_1 b_0 b_1
 have he : Ok (laws_eqTerm (a_0, a_1) (b_0, b_1)) (fun r => k (.c (.bool r)) []) := he
 refine ⟨rfl, rfl, ?_⟩
 refine go_if he (fun he => ?_) fun he => ?_
 ·have he := ok_some he
  exact ⟨rfl, _, _, (leads_ren [] (l := [(4, .c (.bool false))]) (st' := []) rfl rfl trivial ⟨.inr rfl, trivial⟩), he⟩
 ·refine go_if he (fun he => ?_) fun he => ?_
  ·have he := ok_some he
   exact ⟨rfl, _, _, (leads_ren [] (l := [(4, .c (.bool false))]) (st' := []) rfl rfl trivial ⟨.inr rfl, trivial⟩), he⟩
  ·have he := ok_some he
   exact ⟨rfl, _, _, (leads_ren [] (l := [(4, .c (.bool true))]) (st' := []) rfl rfl trivial ⟨.inr rfl, trivial⟩), he⟩

noncomputable def c_laws_eqTermS : Con := fun args st => match args, st with
  | [.c (.imm (.pair (.int .i64) (.int .i64)) a), .c (.imm (.pair (.int .i64) (.int .i64)) b)], [] => .opt (Bool) (laws_eqTermS a b) (fun r => .ret (.c (.bool r)) [])
  | _, _ => .fail

noncomputable def C_laws_eqTermS : Cfg := { y := tys, n := 27, h := 0, tab := [(79, c_laws_eqTerm)], cut := [], hand := [], good := [], deep := [], sched := [(6, (.first 0 (.first 1 (.first 2 (.first 3 (.first 4 (.first 5 (.first 6 (.first 7 (.alt 8 (.first 9 .done) .stop))))))))))] }

theorem t_laws_eqTermS : TabOk Tryz.prog C_laws_eqTermS := by
  refine tabOk_of ?_
  simp only [C_laws_eqTermS, List.forall_mem_cons]
  exact ⟨k_laws_eqTerm, fun p h => by cases h⟩

theorem k_laws_eqTermS : Entry Tryz.prog 55 c_laws_eqTermS := by
 refine entry_by (C := C_laws_eqTermS) mixed tys_ok t_laws_eqTermS (fn := Tryz.f55) (c := bd Tryz.f55) (by kernel_rfl) (by kernel_rfl) (by kernel_rfl) (by kernel_rfl) ?_
 intro args st k he
 unfold c_laws_eqTermS at he
 split at he
 rotate_left
 ·exact he.elim
 rename_i a b
 have he : Ok (laws_eqTermS a b) (fun r => k (.c (.bool r)) []) := he
 refine ⟨rfl, rfl, ?_⟩
 refine go_if he (fun he => ?_) fun he => ?_
 ·have he := ok_some he
  exact ⟨rfl, _, _, Leads.refl _ _, he⟩
 ·refine loop_model mixed tys_ok t_laws_eqTermS (S := Int) (I := (fun i => (envOf [(0, .c (.imm y1_ a)), (1, .c (.imm y1_ b)), (5, .c (.int .i64 i))], []))) (f := laws_eqTermS_l1 a b) (K := (fun r => k (.c (.bool r)) [])) he (leads_ren [] rfl rfl trivial ⟨.inl rfl, .inl rfl, rfl, trivial⟩) ?_
  rintro i J1 he
  refine go_if he (fun he => ?_) fun he => ?_
  ·refine And.intro (by kernel_rfl) ?_
   refine go_rq he fun he => ?_
   refine go_rq he fun he => ?_
   refine And.intro ?_ trivial
   refine go_bind he fun r2_ he => ?_
   refine go_if he (fun he => ?_) fun he => ?_
   ·have he := ok_some he
    exact ⟨rfl, _, _, Leads.refl _ _, he⟩
   ·refine go_rq he fun he => ?_
    have he := ok_some he
    exact ⟨(i + (1:Int)), he, (leads_ren [] rfl rfl trivial ⟨.inl rfl, .inl rfl, rfl, trivial⟩)⟩
  ·have he := ok_some he
   exact ⟨rfl, _, _, Leads.refl _ _, he⟩

noncomputable def c_laws_eqConstraint : Con := fun args st => match args, st with
  | [.agg [.imm (.pair (.int .i64) (.int .i64)) a_0, .int .i64 a_1], .agg [.imm (.pair (.int .i64) (.int .i64)) b_0, .int .i64 b_1]], [] => .opt (Bool) (laws_eqConstraint (a_0, a_1) (b_0, b_1)) (fun r => .ret (.c (.bool r)) [])
  | _, _ => .fail

noncomputable def C_laws_eqConstraint : Cfg := { y := tys, n := 16, h := 0, tab := [(55, c_laws_eqTermS)], cut := [], hand := [], good := [], deep := [], sched := [] }

theorem t_laws_eqConstraint : TabOk Tryz.prog C_laws_eqConstraint := by
  refine tabOk_of ?_
  simp only [C_laws_eqConstraint, List.forall_mem_cons]
  exact ⟨k_laws_eqTermS, fun p h => by cases h⟩

theorem k_laws_eqConstraint : Entry Tryz.prog 34 c_laws_eqConstraint := by
 refine entry_by (C := C_laws_eqConstraint) mixed tys_ok t_laws_eqConstraint (fn := Tryz.f34) (c := bd Tryz.f34) (by kernel_rfl) (by kernel_rfl) (by kernel_rfl) (by kernel_rfl) ?_
 intro args st k he
 unfold c_laws_eqConstraint at he
 split at he
 rotate_left
 ·exact he.elim
 rename_i a_0 a_1 b_0 b_1
 have he : Ok (laws_eqConstraint (a_0, a_1) (b_0, b_1)) (fun r => k (.c (.bool r)) []) := he
 refine ⟨rfl, rfl, ?_⟩
 refine go_bind he fun r1_ he => ?_
 refine go_if he (fun he => ?_) fun he => ?_
 ·have he := ok_some he
  exact ⟨rfl, _, _, (leads_ren [] (l := [(4, .c (.bool false))]) (st' := []) rfl rfl trivial ⟨.inr rfl, trivial⟩), he⟩
 ·refine go_if he (fun he => ?_) fun he => ?_
  ·have he := ok_some he
   exact ⟨rfl, _, _, (leads_ren [] (l := [(4, .c (.bool false))]) (st' := []) rfl rfl trivial ⟨.inr rfl, trivial⟩), he⟩
  ·have he := ok_some he
   exact ⟨rfl, _, _, (leads_ren [] (l := [(4, .c (.bool true))]) (st' := []) rfl rfl trivial ⟨.inr rfl, trivial⟩), he⟩

noncomputable def c_laws_eqStep : Con := fun args st => match args, st with
  | [.agg [.int .i64 a_0, .int .i64 a_1, .int .i64 a_2, .imm (.pair (.int .i64) (.int .i64)) a_3, .int .i64 a_4], .agg [.int .i64 b_0, .int .i64 b_1, .int .i64 b_2, .imm (.pair (.int .i64) (.int .i64)) b_3, .int .i64 b_4]], [] => .opt (Bool) (laws_eqStep (a_0, (a_1, (a_2, (a_3, a_4)))) (b_0, (b_1, (b_2, (b_3, b_4))))) (fun r => .ret (.c (.bool r)) [])
  | _, _ => .fail

noncomputable def C_laws_eqStep : Cfg := { y := tys, n := 26, h := 0, tab := [(34, c_laws_eqConstraint)], cut := [], hand := [], good := [], deep := [], sched := [] }

theorem t_laws_eqStep : TabOk Tryz.prog C_laws_eqStep := by
  refine tabOk_of ?_
  simp only [C_laws_eqStep, List.forall_mem_cons]
  exact ⟨k_laws_eqConstraint, fun p h => by cases h⟩

theorem k_laws_eqStep : Entry Tryz.prog 33 c_laws_eqStep := by
 refine entry_by (C := C_laws_eqStep) mixed tys_ok t_laws_eqStep (fn := Tryz.f33) (c := bd Tryz.f33) (by kernel_rfl) (by kernel_rfl) (by kernel_rfl) (by kernel_rfl) ?_
 intro args st k he
 unfold c_laws_eqStep at he
 split at he
 rotate_left
 ·exact he.elim
 rename_i a_0 a_1 a_2 a_3 a_4 b_0 b_1 b_2 b_3 b_4
 have he : Ok (laws_eqStep (a_0, (a_1, (a_2, (a_3, a_4)))) (b_0, (b_1, (b_2, (b_3, b_4))))) (fun r => k (.c (.bool r)) []) := he
 refine ⟨rfl, rfl, ?_⟩
 refine go_if he (fun he => ?_) fun he => ?_
 ·have he := ok_some he
  exact ⟨rfl, _, _, (leads_ren [] (l := [(4, .c (.bool false))]) (st' := []) rfl rfl trivial ⟨.inr rfl, trivial⟩), he⟩
 ·refine go_if he (fun he => ?_) fun he => ?_
  ·have he := ok_some he
   exact ⟨rfl, _, _, (leads_ren [] (l := [(4, .c (.bool false))]) (st' := []) rfl rfl trivial ⟨.inr rfl, trivial⟩), he⟩
  ·refine go_if he (fun he => ?_) fun he => ?_
   ·have he := ok_some he
    exact ⟨rfl, _, _, (leads_ren [] (l := [(4, .c (.bool false))]) (st' := []) rfl rfl trivial ⟨.inr rfl, trivial⟩), he⟩
   ·refine go_bind he fun r1_ he => ?_
    refine go_if he (fun he => ?_) fun he => ?_
    ·have he := ok_some he
     exact ⟨rfl, _, _, (leads_ren [] (l := [(4, .c (.bool false))]) (st' := []) rfl rfl trivial ⟨.inr rfl, trivial⟩), he⟩
    ·have he := ok_some he
     exact ⟨rfl, _, _, (leads_ren [] (l := [(4, .c (.bool true))]) (st' := []) rfl rfl trivial ⟨.inr rfl, trivial⟩), he⟩

noncomputable def c_laws_eqStepS : Con := fun args st => match args, st with
  | [.c (.imm (.pair (.int .i64) (.pair (.int .i64) (.pair (.int .i64) (.pair (.sl (.pair (.int .i64) (.int .i64))) (.int .i64))))) a), .c (.imm (.pair (.int .i64) (.pair (.int .i64) (.pair (.int .i64) (.pair (.sl (.pair (.int .i64) (.int .i64))) (.int .i64))))) b)], [] => .opt (Bool) (laws_eqStepS a b) (fun r => .ret (.c (.bool r)) [])
  | _, _ => .fail

noncomputable def C_laws_eqStepS : Cfg := { y := tys, n := 27, h := 0, tab := [(33, c_laws_eqStep)], cut := [], hand := [], good := [], deep := [], sched := [(6, (.first 0 (.first 1 (.first 2 (.first 3 (.first 4 (.first 5 (.first 6 (.first 7 (.alt 8 (.first 9 .done) .stop))))))))))] }

theorem t_laws_eqStepS : TabOk Tryz.prog C_laws_eqStepS := by
  refine tabOk_of ?_
  simp only [C_laws_eqStepS, List.forall_mem_cons]
  exact ⟨k_laws_eqStep, fun p h => by cases h⟩

theorem k_laws_eqStepS : Entry Tryz.prog 10 c_laws_eqStepS := by
 refine entry_by (C := C_laws_eqStepS) mixed tys_ok t_laws_eqStepS (fn := Tryz.f10) (c := bd Tryz.f10) (by kernel_rfl) (by kernel_rfl) (by kernel_rfl) (by kernel_rfl) ?_
 intro args st k he
 unfold c_laws_eqStepS at he
 split at he
 rotate_left
 ·exact he.elim
 rename_i a b
 have he : Ok (laws_eqStepS a b) (fun r => k (.c (.bool r)) []) := he
 refine ⟨rfl, rfl, ?_⟩
 refine go_if he (fun he => ?_) fun he => ?_
 ·have he := ok_some he
  exact ⟨rfl, _, _, Leads.refl _ _, he⟩
 ·refine loop_model mixed tys_ok t_laws_eqStepS (S := Int) (I := (fun i => (envOf [(0, .c (.imm y5_ a)), (1, .c (.imm y5_ b)), (5, .c (.int .i64 i))], []))) (f := laws_eqStepS_l1 a b) (K := (fun r => k (.c (.bool r)) [])) he (leads_ren [] rfl rfl trivial ⟨.inl rfl, .inl rfl, rfl, trivial⟩) ?_
  rintro i J1 he
  refine go_if he (fun he => ?_) fun he => ?_
  ·refine And.intro (by kernel_rfl) ?_
   refine go_rq he fun he => ?_
   refine go_rq he fun he => ?_
   refine And.intro ?_ trivial
   refine go_bind he fun r2_ he => ?_
   refine go_if he (fun he => ?_) fun he => ?_
   ·have he := ok_some he
    exact ⟨rfl, _, _, Leads.refl _ _, he⟩
   ·refine go_rq he fun he => ?_
    have he := ok_some he
    exact ⟨(i + (1:Int)), he, (leads_ren [] rfl rfl trivial ⟨.inl rfl, .inl rfl, rfl, trivial⟩)⟩
  ·have he := ok_some he
   exact ⟨rfl, _, _, Leads.refl _ _, he⟩

noncomputable def c_laws_eqConstraintS : Con := fun args st => match args, st with
  | [.c (.imm (.pair (.sl (.pair (.int .i64) (.int .i64))) (.int .i64)) a), .c (.imm (.pair (.sl (.pair (.int .i64) (.int .i64))) (.int .i64)) b)], [] => .opt (Bool) (laws_eqConstraintS a b) (fun r => .ret (.c (.bool r)) [])
  | _, _ => .fail

noncomputable def C_laws_eqConstraintS : Cfg := { y := tys, n := 27, h := 0, tab := [(34, c_laws_eqConstraint)], cut := [], hand := [], good := [], deep := [], sched := [(6, (.first 0 (.first 1 (.first 2 (.first 3 (.first 4 (.first 5 (.first 6 (.first 7 (.alt 8 (.first 9 .done) .stop))))))))))] }

theorem t_laws_eqConstraintS : TabOk Tryz.prog C_laws_eqConstraintS := by
  refine tabOk_of ?_
  simp only [C_laws_eqConstraintS, List.forall_mem_cons]
  exact ⟨k_laws_eqConstraint, fun p h => by cases h⟩

theorem k_laws_eqConstraintS : Entry Tryz.prog 11 c_laws_eqConstraintS := by
 refine entry_by (C := C_laws_eqConstraintS) mixed tys_ok t_laws_eqConstraintS (fn := Tryz.f11) (c := bd Tryz.f11) (by kernel_rfl) (by kernel_rfl) (by kernel_rfl) (by kernel_rfl) ?_
 intro args st k he
 unfold c_laws_eqConstraintS at he
 split at he
 rotate_left
 ·exact he.elim
 rename_i a b
 have he : Ok (laws_eqConstraintS a b) (fun r => k (.c (.bool r)) []) := he
 refine ⟨rfl, rfl, ?_⟩
 refine go_if he (fun he => ?_) fun he => ?_
 ·have he := ok_some he
  exact ⟨rfl, _, _, Leads.refl _ _, he⟩
 ·refine loop_model mixed tys_ok t_laws_eqConstraintS (S := Int) (I := (fun i => (envOf [(0, .c (.imm y2_ a)), (1, .c (.imm y2_ b)), (5, .c (.int .i64 i))], []))) (f := laws_eqConstraintS_l1 a b) (K := (fun r => k (.c (.bool r)) [])) he (leads_ren [] rfl rfl trivial ⟨.inl rfl, .inl rfl, rfl, trivial⟩) ?_
  rintro i J1 he
  refine go_if he (fun he => ?_) fun he => ?_
  ·refine And.intro (by kernel_rfl) ?_
   refine go_rq he fun he => ?_
   refine go_rq he fun he => ?_
   refine And.intro ?_ trivial
   refine go_bind he fun r2_ he => ?_
   refine go_if he (fun he => ?_) fun he => ?_
   ·have he := ok_some he
    exact ⟨rfl, _, _, Leads.refl _ _, he⟩
   ·refine go_rq he fun he => ?_
    have he := ok_some he
    exact ⟨(i + (1:Int)), he, (leads_ren [] rfl rfl trivial ⟨.inl rfl, .inl rfl, rfl, trivial⟩)⟩
  ·have he := ok_some he
   exact ⟨rfl, _, _, Leads.refl _ _, he⟩

noncomputable def c_laws_eqIntS : Con := fun args st => match args, st with
  | [.c (.imm (.int .i64) a), .c (.imm (.int .i64) b)], [] => .opt (Bool) (laws_eqIntS a b) (fun r => .ret (.c (.bool r)) [])
  | _, _ => .fail

noncomputable def C_laws_eqIntS : Cfg := { y := tys, n := 26, h := 0, tab := [], cut := [], hand := [], good := [], deep := [], sched := [] }

theorem t_laws_eqIntS : TabOk Tryz.prog C_laws_eqIntS := tabOk_of (fun p h => by cases h)

theorem k_laws_eqIntS : Entry Tryz.prog 12 c_laws_eqIntS := by
 refine entry_by (C := C_laws_eqIntS) mixed tys_ok t_laws_eqIntS (fn := Tryz.f12) (c := bd Tryz.f12) (by kernel_rfl) (by kernel_rfl) (by kernel_rfl) (by kernel_rfl) ?_
 intro args st k he
 unfold c_laws_eqIntS at he
 split at he
 rotate_left
 ·exact he.elim
 rename_i a b
 have he : Ok (laws_eqIntS a b) (fun r => k (.c (.bool r)) []) := he
 refine ⟨rfl, rfl, ?_⟩
 refine go_if he (fun he => ?_) fun he => ?_
 ·have he := ok_some he
  exact ⟨rfl, _, _, Leads.refl _ _, he⟩
 ·refine loop_model mixed tys_ok t_laws_eqIntS (S := Int) (I := (fun i => (envOf [(0, .c (.imm y0_ a)), (1, .c (.imm y0_ b)), (5, .c (.int .i64 i))], []))) (f := laws_eqIntS_l1 a b) (K := (fun r => k (.c (.bool r)) [])) he (leads_ren [] rfl rfl trivial ⟨.inl rfl, .inl rfl, rfl, trivial⟩) ?_
  rintro i J1 he
  refine go_if he (fun he => ?_) fun he => ?_
  ·refine And.intro (by kernel_rfl) ?_
   refine go_rq he fun he => ?_
   refine go_rq he fun he => ?_
   refine go_if he (fun he => ?_) fun he => ?_
   ·have he := ok_some he
    exact ⟨rfl, _, _, Leads.refl _ _, he⟩
   ·refine go_rq he fun he => ?_
    have he := ok_some he
    exact ⟨(i + (1:Int)), he, (leads_ren [] rfl rfl trivial ⟨.inl rfl, .inl rfl, rfl, trivial⟩)⟩
  ·have he := ok_some he
   exact ⟨rfl, _, _, Leads.refl _ _, he⟩

noncomputable def c_laws_markTermS__d : Con := fun args st => match args, st with
  | [.c (.own 0 false), .c (.int .i64 k_)], [(0, .sl 0 (.pair (.int .i64) (.int .i64)) a (.deep false .no))] => .opt (Int × (List D1_)) (laws_markTermS__d k_ a) (fun r => .ret (.c (.int .i64 r.1)) [(0, .sl 0 y1_ r.2 (.deep false .no))])
  | _, _ => .fail

noncomputable def C_laws_markTermS__d : Cfg := { y := tys, n := 27, h := 1, tab := [], cut := [7], hand := [], good := [], deep := [], sched := [] }

theorem t_laws_markTermS__d : TabOk Tryz.prog C_laws_markTermS__d := tabOk_of (fun p h => by cases h)

theorem k_laws_markTermS__d : Entry Tryz.prog 35 c_laws_markTermS__d := by
 refine entry_by (C := C_laws_markTermS__d) mixed tys_ok t_laws_markTermS__d (fn := Tryz.f35) (c := bd Tryz.f35) (by kernel_rfl) (by kernel_rfl) (by kernel_rfl) (by kernel_rfl) ?_
 intro args st k he
 unfold c_laws_markTermS__d at he
 split at he
 rotate_left
 ·exact he.elim
 rename_i k_ a
 have he : Ok (laws_markTermS__d k_ a) (fun r => k (.c (.int .i64 r.1)) [(0, .sl 0 y1_ r.2 (.deep false .no))]) := he
 refine ⟨rfl, rfl, ?_⟩
 refine loop_model mixed tys_ok t_laws_markTermS__d (S := Int × Int × (List D1_)) (I := (fun (k_1, i, a2) => (envOf [(0, .c (.own 0 false)), (1, .c (.int .i64 k_1)), (5, .c (.int .i64 i))], [(0, .sl 0 y1_ a2 (.deep false .no))]))) (f := laws_markTermS__d_l1) (K := (fun r => k (.c (.int .i64 r.1)) [(0, .sl 0 y1_ r.2 (.deep false .no))])) he (leads_ren [] rfl rfl ⟨⟨rfl, rfl⟩, trivial⟩ ⟨⟨⟨rfl, rfl⟩, trivial⟩, rfl, rfl, trivial⟩) ?_
 rintro ⟨k_1, i, a2⟩ J1 he
 refine go_if he (fun he => ?_) fun he => ?_
 ·refine go_rq he fun he => ?_
  refine go_rq he fun he => ?_
  refine seq_model mixed tys_ok t_laws_markTermS__d (S := (List D1_)) (I := (fun a3 => (envOf [(0, .c (.own 0 false)), (1, .c (.int .i64 (k_1 + (1:Int)))), (5, .c (.int .i64 i))], [(0, .sl 0 y1_ a3 (.deep false .no))]))) (B := fun s => Ok (laws_markTermS__d_j1 k_1 i s) (LK J1 (fun r => k (.c (.int .i64 r.1)) [(0, .sl 0 y1_ r.2 (.deep false .no))]))) ?_ ?_
  ·rintro a3 he
   refine go_rq he fun he => ?_
   refine go_rq he fun he => ?_
   have he := ok_some he
   exact ⟨(((k_1 + (1:Int)) + (1:Int)), (i + (1:Int)), a3), he, (leads_ren [] rfl rfl ⟨⟨rfl, rfl⟩, trivial⟩ ⟨⟨⟨rfl, rfl⟩, trivial⟩, rfl, rfl, trivial⟩)⟩
  ·skip
   refine go_rq he fun he => ?_
   exact ⟨((a2.set i.toNat (k_1, (a2.getD i.toNat (0, 0)).2)).set i.toNat (((a2.set i.toNat (k_1, (a2.getD i.toNat (0, 0)).2)).getD i.toNat (0, 0)).1, (k_1 + (1:Int)))), he, (leads_ren [] rfl rfl ⟨⟨rfl, rfl⟩, trivial⟩ ⟨⟨⟨rfl, rfl⟩, trivial⟩, rfl, rfl, trivial⟩)⟩
 ·have he := ok_some he
  exact ⟨rfl, _, _, (leads_ren [] (l := [(4, .c (.int .i64 k_1))]) (st' := [(0, .sl 0 y1_ a2 (.deep false .no))]) rfl rfl ⟨⟨rfl, rfl⟩, trivial⟩ ⟨rfl, trivial⟩), he⟩

end Go.AE.Y
