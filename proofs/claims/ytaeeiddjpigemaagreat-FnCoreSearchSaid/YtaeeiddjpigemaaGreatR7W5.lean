/-
  Walks: each function keeps the contract that its model gives. No conditions.
-/
import Derived.Test.YtaeeiddjpigemaaGreatR7Tab
import Derived.Test.YtaeeiddjpigemaaGreatR7W4
import Derived.Test.YtaeeiddjpigemaaGreatR7S
namespace Go.AE.Y
open Go Go.AE Go.Proofs
set_option linter.unusedVariables false
set_option maxHeartbeats 2000000
set_option maxRecDepth 100000

noncomputable def c_impl_running_has__Rss : Con := fun args st => match args, st with
  | [.c (.ptr 0 0), .c (.int .i64 i)], [(0, .rc [.own 1 false, .own 2 false]), (1, .sl 89 (.pair (.sl (.pair (.int .i64) (.int .i64))) (.int .i64)) o1 .shallow), (2, .sl 4 .bool o2 .shallow)] => .opt (Bool) (impl_running_has__Rss i o1 o2) (fun r => .ret (.c (.bool r)) [(0, .rc [.own 1 false, .own 2 false]), (1, .sl 89 y3_ o1 .shallow), (2, .sl 4 .bool o2 .shallow)])
  | _, _ => .fail

noncomputable def C_impl_running_has__Rss : Cfg := { y := tys, n := 23, h := 3, tab := [(127, c_impl_within)], cut := [], hand := [], good := [], deep := [], sched := [] }

theorem t_impl_running_has__Rss : TabOk Tryz.prog C_impl_running_has__Rss := by
  refine tabOk_of ?_
  simp only [C_impl_running_has__Rss, List.forall_mem_cons]
  exact ⟨k_impl_within, fun p h => by cases h⟩

theorem k_impl_running_has__Rss : Entry Tryz.prog 260 c_impl_running_has__Rss := by
 refine entry_by (C := C_impl_running_has__Rss) mixed tys_ok t_impl_running_has__Rss (fn := Tryz.f260) (c := bd Tryz.f260) (by kernel_rfl) (by kernel_rfl) (by kernel_rfl) (by kernel_rfl) ?_
 intro args st k he
 unfold c_impl_running_has__Rss at he
 split at he
 rotate_left
 ·exact he.elim
 rename_i i o1 o2
 have he : Ok (impl_running_has__Rss i o1 o2) (fun r => k (.c (.bool r)) [(0, .rc [.own 1 false, .own 2 false]), (1, .sl 89 y3_ o1 .shallow), (2, .sl 4 .bool o2 .shallow)]) := he
 refine ⟨rfl, rfl, ?_⟩
 refine go_rq he fun he => ?_
 refine go_bind he fun r1_ he => ?_
 refine go_if he (fun he => ?_) fun he => ?_
 ·refine go_rq he fun he => ?_
  have he := ok_some he
  exact ⟨rfl, _, _, (leads_ren [] (l := [(4, .c (.bool (!(o2.getD i.toNat false))))]) (st' := [(0, .rc [.own 1 false, .own 2 false]), (1, .sl 89 y3_ o1 .shallow), (2, .sl 4 .bool o2 .shallow)]) rfl rfl ⟨⟨⟨⟨rfl, rfl⟩, trivial⟩, ⟨⟨rfl, rfl⟩, trivial⟩, trivial⟩, ⟨rfl, rfl⟩, ⟨rfl, rfl⟩, trivial⟩ ⟨.inl rfl, trivial⟩), he⟩
 ·have he := ok_some he
  exact ⟨rfl, _, _, (leads_ren [] (l := [(4, .c (.bool false))]) (st' := [(0, .rc [.own 1 false, .own 2 false]), (1, .sl 89 y3_ o1 .shallow), (2, .sl 4 .bool o2 .shallow)]) rfl rfl ⟨⟨⟨⟨rfl, rfl⟩, trivial⟩, ⟨⟨rfl, rfl⟩, trivial⟩, trivial⟩, ⟨rfl, rfl⟩, ⟨rfl, rfl⟩, trivial⟩ ⟨.inr rfl, trivial⟩), he⟩

noncomputable def c_slices_Grow_impl_Term : Con := fun args st => match args, st with
  | [.c (.nil), .c (.int .i64 n)], [] => .opt ((List D2_)) (slices_Grow_impl_Term n) (fun r => .ret (.c (.own 900 false)) [(900, .sl 155 y2_ r .shallow)])
  | _, _ => .fail

noncomputable def C_slices_Grow_impl_Term : Cfg := { y := tys, n := 27, h := 0, tab := [], cut := [], hand := [], good := [], deep := [], sched := [] }

theorem t_slices_Grow_impl_Term : TabOk Tryz.prog C_slices_Grow_impl_Term := tabOk_of (fun p h => by cases h)

theorem k_slices_Grow_impl_Term : Entry Tryz.prog 304 c_slices_Grow_impl_Term := by
 refine entry_by (C := C_slices_Grow_impl_Term) mixed tys_ok t_slices_Grow_impl_Term (fn := Tryz.f304) (c := bd Tryz.f304) (by kernel_rfl) (by kernel_rfl) (by kernel_rfl) (by kernel_rfl) ?_
 intro args st k he
 unfold c_slices_Grow_impl_Term at he
 split at he
 rotate_left
 ·exact he.elim
 rename_i n
 have he : Ok (slices_Grow_impl_Term n) (fun r => k (.c (.own 900 false)) [(900, .sl 155 y2_ r .shallow)]) := he
 refine ⟨rfl, rfl, ?_⟩
 refine go_if he (fun he => ?_) fun he => ?_
 ·exact (ok_none he).elim
 ·refine go_rq he fun he => ?_
  refine go_rq he fun he => ?_
  refine go_if he (fun he => ?_) fun he => ?_
  ·refine go_rq he fun he => ?_
   refine go_rq he fun he => ?_
   refine go_rq he fun he => ?_
   have he := ok_some he
   exact ⟨rfl, _, _, (leads_ren [(900, 25)] (l := [(4, .c (.own 900 false))]) (st' := [(900, .sl 155 y2_ ((List.replicate (n - ((0:Int) - (0:Int))).toNat (0, 0)).take (0:Int).toNat) .shallow)]) rfl rfl ⟨⟨rfl, rfl⟩, trivial⟩ ⟨⟨⟨rfl, rfl⟩, trivial⟩, trivial⟩), he⟩
  ·have he := ok_some he
   exact ⟨rfl, _, _, (leads_ren [] (l := [(4, .c (.own 900 false))]) (st' := [(900, .sl 155 y2_ ([] : List D2_) .shallow)]) rfl rfl ⟨trivial, trivial⟩ ⟨⟨rfl, trivial⟩, trivial⟩), he⟩

noncomputable def c_slices_Concat_impl_Term : Con := fun args st => match args, st with
  | [.c (.imm (.sl (.pair (.int .i64) (.int .i64))) slices)], [] => .opt ((List D2_)) (slices_Concat_impl_Term slices) (fun r => .ret (.c (.own 900 false)) [(900, .sl 155 y2_ r .shallow)])
  | _, _ => .fail

noncomputable def C_slices_Concat_impl_Term : Cfg := { y := tys, n := 36, h := 0, tab := [(304, c_slices_Grow_impl_Term)], cut := [], hand := [(304, [0])], good := [], deep := [], sched := [], nils := [304] }

theorem t_slices_Concat_impl_Term : TabOk Tryz.prog C_slices_Concat_impl_Term := by
  refine tabOk_of ?_
  simp only [C_slices_Concat_impl_Term, List.forall_mem_cons]
  exact ⟨k_slices_Grow_impl_Term, fun p h => by cases h⟩

theorem k_slices_Concat_impl_Term : Entry Tryz.prog 290 c_slices_Concat_impl_Term := by
 refine entry_by (C := C_slices_Concat_impl_Term) mixed tys_ok t_slices_Concat_impl_Term (fn := Tryz.f290) (c := bd Tryz.f290) (by kernel_rfl) (by kernel_rfl) (by kernel_rfl) (by kernel_rfl) ?_
 intro args st k he
 unfold c_slices_Concat_impl_Term at he
 split at he
 rotate_left
 ·exact he.elim
 rename_i slices
 have he : Ok (slices_Concat_impl_Term slices) (fun r => k (.c (.own 900 false)) [(900, .sl 155 y2_ r .shallow)]) := he
 refine ⟨rfl, rfl, ?_⟩
 refine loop_model mixed tys_ok t_slices_Concat_impl_Term (S := Int × Int) (I := (fun (size, i) => (envOf [(0, .c (.imm (.sl y2_) slices)), (3, .c (.int .i64 size)), (9, .c (.imm (.sl y2_) slices)), (10, .c (.int .i64 (slices.length:Int))), (11, .c (.int .i64 i))], []))) (f := slices_Concat_impl_Term_l1 slices) (K := (fun r => k (.c (.own 900 false)) [(900, .sl 155 y2_ r .shallow)])) he (leads_ren [] rfl rfl trivial ⟨.inl rfl, rfl, .inl rfl, rfl, rfl, trivial⟩) ?_
 rintro ⟨size, i⟩ J1 he
 refine go_if he (fun he => ?_) fun he => ?_
 ·refine go_rq he fun he => ?_
  refine go_rq he fun he => ?_
  refine go_if he (fun he => ?_) fun he => ?_
  ·exact (ok_none he).elim
  ·refine go_rq he fun he => ?_
   have he := ok_some he
   exact ⟨((size + ((slices.getD i.toNat []).length:Int)), (i + (1:Int))), he, (leads_ren [] rfl rfl trivial ⟨.inl rfl, rfl, .inl rfl, rfl, rfl, trivial⟩)⟩
 ·refine go_bind he fun r1_ he => ?_
  refine loop_model mixed tys_ok t_slices_Concat_impl_Term (S := Int × (List D2_)) (I := (fun (i1, newslice) => (envOf [(6, .c (.own 10001000 false)), (25, .c (.imm (.sl y2_) slices)), (26, .c (.int .i64 (slices.length:Int))), (27, .c (.int .i64 i1))], [(10001000, .sl 155 y2_ newslice .shallow)]))) (f := slices_Concat_impl_Term_l2 slices) (K := (LK J1 (fun r => k (.c (.own 900 false)) [(900, .sl 155 y2_ r .shallow)]))) he (leads_ren [(10001000, 25900)] rfl rfl ⟨⟨rfl, rfl⟩, trivial⟩ ⟨⟨⟨rfl, rfl⟩, trivial⟩, .inl rfl, rfl, rfl, trivial⟩) ?_
  rintro ⟨i1, newslice⟩ J2 he
  refine go_if he (fun he => ?_) fun he => ?_
  ·refine go_rq he fun he => ?_
   refine go_rq he fun he => ?_
   refine go_rq he fun he => ?_
   have he := ok_some he
   exact ⟨((i1 + (1:Int)), (newslice ++ (slices.getD i1.toNat []))), he, (leads_ren [(10001000, 33)] rfl rfl ⟨⟨rfl, rfl⟩, trivial⟩ ⟨⟨⟨rfl, rfl⟩, trivial⟩, .inl rfl, rfl, rfl, trivial⟩)⟩
  ·have he := ok_some he
   exact ⟨rfl, _, _, (leads_ren [(900, 10001000)] (l := [(2, .c (.own 900 false))]) (st' := [(900, .sl 155 y2_ newslice .shallow)]) rfl rfl ⟨⟨rfl, rfl⟩, trivial⟩ ⟨⟨⟨rfl, rfl⟩, trivial⟩, trivial⟩), he⟩

noncomputable def c_impl_Constraint_valid__s : Con := fun args st => match args, st with
  | [.agg [.own 0 false, .int .i64 c_1]], [(0, .sl 155 (.pair (.int .i64) (.int .i64)) o0 .shallow)] => .opt (Bool × Int × (List D2_)) (impl_Constraint_valid__s c_1 o0) (fun r => .ret (.tup [.agg [.own 901 false, .int .i64 r.2.1], .c (.bool r.1)]) [(0, .dead), (900, .rc [.own 901 false, .int .i64 r.2.1]), (901, .sl 155 y2_ r.2.2 .shallow)])
  | _, _ => .fail

noncomputable def C_impl_Constraint_valid__s : Cfg := { y := tys, n := 9, h := 1, tab := [(223, c_impl_ConstraintValid)], cut := [], hand := [], good := [], deep := [], sched := [] }

theorem t_impl_Constraint_valid__s : TabOk Tryz.prog C_impl_Constraint_valid__s := by
  refine tabOk_of ?_
  simp only [C_impl_Constraint_valid__s, List.forall_mem_cons]
  exact ⟨k_impl_ConstraintValid, fun p h => by cases h⟩

theorem k_impl_Constraint_valid__s : Entry Tryz.prog 187 c_impl_Constraint_valid__s := by
 refine entry_by (C := C_impl_Constraint_valid__s) mixed tys_ok t_impl_Constraint_valid__s (fn := Tryz.f187) (c := bd Tryz.f187) (by kernel_rfl) (by kernel_rfl) (by kernel_rfl) (by kernel_rfl) ?_
 intro args st k he
 unfold c_impl_Constraint_valid__s at he
 split at he
 rotate_left
 ·exact he.elim
 rename_i c_1 o0
 have he : Ok (impl_Constraint_valid__s c_1 o0) (fun r => k (.tup [.agg [.own 901 false, .int .i64 r.2.1], .c (.bool r.1)]) [(0, .dead), (900, .rc [.own 901 false, .int .i64 r.2.1]), (901, .sl 155 y2_ r.2.2 .shallow)]) := he
 refine ⟨rfl, rfl, ?_⟩
 refine go_bind he fun r1_ he => ?_
 refine go_if he (fun he => ?_) fun he => ?_
 ·have he := ok_some he
  exact ⟨rfl, _, _, (leads_ren [(900, 2)] (l := [(2, .c (.ptr 900 0)), (3, .c (.bool false))]) (st' := [(0, .dead), (900, .rc [.own 901 false, .int .i64 (0:Int)]), (901, .sl 155 y2_ ([] : List D2_) .shallow)]) rfl rfl ⟨trivial, ⟨⟨rfl, trivial⟩, rfl, trivial⟩, trivial, trivial⟩ ⟨⟨⟨rfl, rfl⟩, rfl⟩, .inr rfl, trivial⟩), he⟩
 ·have he := ok_some he
  exact ⟨rfl, _, _, (leads_ren [(900, 2), (901, 0)] (l := [(2, .c (.ptr 900 0)), (3, .c (.bool true))]) (st' := [(0, .dead), (900, .rc [.own 901 false, .int .i64 c_1]), (901, .sl 155 y2_ o0 .shallow)]) rfl rfl ⟨trivial, ⟨⟨⟨rfl, rfl⟩, trivial⟩, rfl, trivial⟩, ⟨rfl, rfl⟩, trivial⟩ ⟨⟨⟨rfl, rfl⟩, rfl⟩, .inr rfl, trivial⟩), he⟩

noncomputable def c_impl_normal : Con := fun args st => match args, st with
  | [.c (.imm (.pair (.int .i64) (.int .i64)) a0), .c (.int .i64 a1)], [] => .opt (Bool × Int × (List D2_)) (impl_normal a0 a1) (fun r => .ret (.tup [.agg [.own 901 false, .int .i64 r.2.1], .c (.bool r.1)]) [(900, .rc [.own 901 false, .int .i64 r.2.1]), (901, .sl 155 y2_ r.2.2 .shallow)])
  | _, _ => .fail

noncomputable def C_impl_normal : Cfg := { y := tys, n := 84, h := 0, tab := [(187, c_impl_Constraint_valid__s)], cut := [10, 18, 20], hand := [(187, [0])], good := [], deep := [], sched := [(7, (.first 0 (.first 5 (.alt 1 (.first 2 (.first 3 (.alt 4 (.alt 6 (.first 7 (.first 8 (.alt 9 .done .stop))) .stop) (.alt 6 (.alt 4 (.first 7 (.first 8 (.alt 9 .done .stop))) .stop) .stop)))) (.alt 6 (.alt 1 (.first 2 (.first 3 (.alt 4 (.first 7 (.first 8 (.alt 9 .done .stop))) .stop))) .stop) .stop))))), (8, (.first 0 (.first 4 (.alt 1 (.first 2 (.alt 3 (.alt 5 (.first 6 (.first 7 (.alt 8 .done .stop))) .stop) (.alt 5 (.alt 3 (.first 6 (.first 7 (.alt 8 .done .stop))) .stop) .stop))) (.alt 5 (.alt 1 (.first 2 (.alt 3 (.first 6 (.first 7 (.alt 8 .done .stop))) .stop)) .stop) .stop)))))], nils := [187] }

theorem t_impl_normal : TabOk Tryz.prog C_impl_normal := by
  refine tabOk_of ?_
  simp only [C_impl_normal, List.forall_mem_cons]
  exact ⟨k_impl_Constraint_valid__s, fun p h => by cases h⟩

theorem k_impl_normal : Entry Tryz.prog 129 c_impl_normal := by
 refine entry_by (C := C_impl_normal) mixed tys_ok t_impl_normal (fn := Tryz.f129) (c := bd Tryz.f129) (by kernel_rfl) (by kernel_rfl) (by kernel_rfl) (by kernel_rfl) ?_
 intro args st k he
 unfold c_impl_normal at he
 split at he
 rotate_left
 ·exact he.elim
 rename_i a0 a1
 have he : Ok (impl_normal a0 a1) (fun r => k (.tup [.agg [.own 901 false, .int .i64 r.2.1], .c (.bool r.1)]) [(900, .rc [.own 901 false, .int .i64 r.2.1]), (901, .sl 155 y2_ r.2.2 .shallow)]) := he
 refine ⟨rfl, rfl, ?_⟩
 refine seq_model mixed tys_ok t_impl_normal (S := Int × (List Int)) (I := (fun (i3, i4) => (envOf [(1, .c (.int .i64 i3)), (4, .c (.ptr 10001000 0)), (6, .c (.eptr 10001001 (0:Int) 0))], [(10001000, .rc [.nil, .int .i64 (0:Int)]), (10001001, .sl 199 y0_ i4 .shallow)]))) (B := fun s => Ok (impl_normal_j1 s) (fun r => k (.tup [.agg [.own 901 false, .int .i64 r.2.1], .c (.bool r.1)]) [(900, .rc [.own 901 false, .int .i64 r.2.1]), (901, .sl 155 y2_ r.2.2 .shallow)])) ?_ ?_
 ·rintro ⟨i3, i4⟩ he
  refine seq_model mixed tys_ok t_impl_normal (S := Int × (List D2_)) (I := (fun (i9, i_03) => (envOf [(1, .c (.int .i64 i9)), (4, .c (.ptr 10005000 0)), (9, .c (.ptr 10005001 0))], [(10005000, .rc [.nil, .int .i64 (0:Int)]), (10005001, .rc [.own 10005002 false, .int .i64 (0:Int)]), (10005002, .sl 155 y2_ i_03 .shallow)]))) (B := fun s => Ok (impl_normal_j2 s) (fun r => k (.tup [.agg [.own 901 false, .int .i64 r.2.1], .c (.bool r.1)]) [(900, .rc [.own 901 false, .int .i64 r.2.1]), (901, .sl 155 y2_ r.2.2 .shallow)])) ?_ ?_
  ·rintro ⟨i9, i_03⟩ he
   refine go_bind he fun r1_ he => ?_
   have he := ok_some he
   exact ⟨rfl, _, _, (leads_ren [(900, 10005000), (901, 82901)] (l := [(4, .c (.ptr 900 0)), (5, .c (.bool r1_.1))]) (st' := [(900, .rc [.own 901 false, .int .i64 r1_.2.1]), (901, .sl 155 y2_ r1_.2.2 .shallow)]) rfl rfl ⟨⟨⟨⟨rfl, rfl⟩, trivial⟩, rfl, trivial⟩, ⟨rfl, rfl⟩, trivial⟩ ⟨⟨⟨rfl, rfl⟩, rfl⟩, .inl rfl, trivial⟩), he⟩
  ·skip
   refine go_rq he fun he => ?_
   refine loop_model mixed tys_ok t_impl_normal (S := Int × Int × (List D2_)) (I := (fun (i5, i6, i_01) => (envOf [(1, .c (.int .i64 i5)), (4, .c (.ptr 10002000 0)), (9, .c (.ptr 10002001 0)), (44, .agg [.int .i64 (i4.getD 0 0), .int .i64 (i4.getD 1 0), .int .i64 (i4.getD 2 0), .int .i64 (i4.getD 3 0), .int .i64 (i4.getD 4 0), .int .i64 (i4.getD 5 0), .int .i64 (i4.getD 6 0), .int .i64 (i4.getD 7 0), .int .i64 (i4.getD 8 0), .int .i64 (i4.getD 9 0), .int .i64 (i4.getD 10 0), .int .i64 (i4.getD 11 0), .int .i64 (i4.getD 12 0)]), (45, .c (.int .i64 i6))], [(10002000, .rc [.nil, .int .i64 (0:Int)]), (10002001, .rc [.own 10002002 false, .int .i64 (0:Int)]), (10002002, .sl 155 y2_ i_01 .shallow)]))) (f := impl_normal_l1 i4) (K := (fun r => k (.tup [.agg [.own 901 false, .int .i64 r.2.1], .c (.bool r.1)]) [(900, .rc [.own 901 false, .int .i64 r.2.1]), (901, .sl 155 y2_ r.2.2 .shallow)])) he (leads_ren [(10002000, 10001000), (10002001, 9)] rfl rfl ⟨⟨rfl, rfl, trivial⟩, ⟨⟨rfl, trivial⟩, rfl, trivial⟩, trivial, trivial⟩ ⟨rfl, ⟨⟨rfl, rfl⟩, rfl⟩, ⟨⟨rfl, rfl⟩, rfl⟩, ⟨rfl, rfl, rfl, rfl, rfl, rfl, rfl, rfl, rfl, rfl, rfl, rfl, rfl, trivial⟩, rfl, trivial⟩) ?_
   rintro ⟨i5, i6, i_01⟩ J1 he
   refine go_if he (fun he => ?_) fun he => ?_
   ·refine go_rq he fun he => ?_
    refine go_if he (fun he => ?_) fun he => ?_
    ·refine go_rq he fun he => ?_
     refine go_rq he fun he => ?_
     have he := ok_some he
     exact ⟨(i5, (i6 + (1:Int)), (i_01 ++ [(([(i4.getD 0 0), (i4.getD 1 0), (i4.getD 2 0), (i4.getD 3 0), (i4.getD 4 0), (i4.getD 5 0), (i4.getD 6 0), (i4.getD 7 0), (i4.getD 8 0), (i4.getD 9 0), (i4.getD 10 0), (i4.getD 11 0), (i4.getD 12 0)].getD i6.toNat 0), i6)])), he, (leads_ren [(10002002, 58)] rfl rfl ⟨⟨rfl, rfl, trivial⟩, ⟨⟨⟨rfl, rfl⟩, trivial⟩, rfl, trivial⟩, ⟨rfl, rfl⟩, trivial⟩ ⟨rfl, ⟨⟨rfl, rfl⟩, rfl⟩, ⟨⟨rfl, rfl⟩, rfl⟩, ⟨rfl, rfl, rfl, rfl, rfl, rfl, rfl, rfl, rfl, rfl, rfl, rfl, rfl, trivial⟩, rfl, trivial⟩)⟩
    ·refine go_if he (fun he => ?_) fun he => ?_
     ·refine seq_model mixed tys_ok t_impl_normal (S := Int × (List D2_)) (I := (fun (i8, i_02) => (envOf [(1, .c (.int .i64 i5)), (4, .c (.ptr 10004000 0)), (9, .c (.ptr 10004001 0)), (11, .c (.int .i64 i8)), (44, .agg [.int .i64 (i4.getD 0 0), .int .i64 (i4.getD 1 0), .int .i64 (i4.getD 2 0), .int .i64 (i4.getD 3 0), .int .i64 (i4.getD 4 0), .int .i64 (i4.getD 5 0), .int .i64 (i4.getD 6 0), .int .i64 (i4.getD 7 0), .int .i64 (i4.getD 8 0), .int .i64 (i4.getD 9 0), .int .i64 (i4.getD 10 0), .int .i64 (i4.getD 11 0), .int .i64 (i4.getD 12 0)]), (45, .c (.int .i64 i6))], [(10004000, .rc [.nil, .int .i64 (0:Int)]), (10004001, .rc [.own 10004002 false, .int .i64 (0:Int)]), (10004002, .sl 155 y2_ i_02 .shallow)]))) (B := fun s => Ok (impl_normal_j3 i5 i6 s) (LK J1 (fun r => k (.tup [.agg [.own 901 false, .int .i64 r.2.1], .c (.bool r.1)]) [(900, .rc [.own 901 false, .int .i64 r.2.1]), (901, .sl 155 y2_ r.2.2 .shallow)]))) ?_ ?_
      ·rintro ⟨i8, i_02⟩ he
       refine go_rq he fun he => ?_
       refine go_rq he fun he => ?_
       have he := ok_some he
       exact ⟨((i5 - i8), (i6 + (1:Int)), i_02), he, (leads_ren [(10002000, 10004000), (10002001, 10004001), (10002002, 10004002)] rfl rfl ⟨⟨rfl, rfl, trivial⟩, ⟨⟨⟨rfl, rfl⟩, trivial⟩, rfl, trivial⟩, ⟨rfl, rfl⟩, trivial⟩ ⟨rfl, ⟨⟨rfl, rfl⟩, rfl⟩, ⟨⟨rfl, rfl⟩, rfl⟩, ⟨rfl, rfl, rfl, rfl, rfl, rfl, rfl, rfl, rfl, rfl, rfl, rfl, rfl, trivial⟩, rfl, trivial⟩)⟩
      ·skip
       refine go_rq he fun he => ?_
       refine go_rq he fun he => ?_
       refine go_rq he fun he => ?_
       exact ⟨(([(i4.getD 0 0), (i4.getD 1 0), (i4.getD 2 0), (i4.getD 3 0), (i4.getD 4 0), (i4.getD 5 0), (i4.getD 6 0), (i4.getD 7 0), (i4.getD 8 0), (i4.getD 9 0), (i4.getD 10 0), (i4.getD 11 0), (i4.getD 12 0)].getD i6.toNat 0), (i_01 ++ [((0 - ([(i4.getD 0 0), (i4.getD 1 0), (i4.getD 2 0), (i4.getD 3 0), (i4.getD 4 0), (i4.getD 5 0), (i4.getD 6 0), (i4.getD 7 0), (i4.getD 8 0), (i4.getD 9 0), (i4.getD 10 0), (i4.getD 11 0), (i4.getD 12 0)].getD i6.toNat 0)), (0 - i6))])), he, (leads_ren [(10004000, 10002000), (10004001, 10002001), (10004002, 71)] rfl rfl ⟨⟨rfl, rfl, trivial⟩, ⟨⟨⟨rfl, rfl⟩, trivial⟩, rfl, trivial⟩, ⟨rfl, rfl⟩, trivial⟩ ⟨rfl, ⟨⟨rfl, rfl⟩, rfl⟩, ⟨⟨rfl, rfl⟩, rfl⟩, rfl, ⟨rfl, rfl, rfl, rfl, rfl, rfl, rfl, rfl, rfl, rfl, rfl, rfl, rfl, trivial⟩, rfl, trivial⟩)⟩
     ·refine go_rq he fun he => ?_
      have he := ok_some he
      exact ⟨(i5, (i6 + (1:Int)), i_01), he, (leads_ren [] rfl rfl ⟨⟨rfl, rfl, trivial⟩, ⟨⟨⟨rfl, rfl⟩, trivial⟩, rfl, trivial⟩, ⟨rfl, rfl⟩, trivial⟩ ⟨rfl, ⟨⟨rfl, rfl⟩, rfl⟩, ⟨⟨rfl, rfl⟩, rfl⟩, ⟨rfl, rfl, rfl, rfl, rfl, rfl, rfl, rfl, rfl, rfl, rfl, rfl, rfl, trivial⟩, rfl, trivial⟩)⟩
   ·exact ⟨(i5, i_01), ok_up he, (leads_ren [(10005000, 10002000), (10005001, 10002001), (10005002, 10002002)] rfl rfl ⟨⟨rfl, rfl, trivial⟩, ⟨⟨⟨rfl, rfl⟩, trivial⟩, rfl, trivial⟩, ⟨rfl, rfl⟩, trivial⟩ ⟨rfl, ⟨⟨rfl, rfl⟩, rfl⟩, ⟨⟨rfl, rfl⟩, rfl⟩, trivial⟩)⟩
 ·skip
  refine loop_model mixed tys_ok t_impl_normal (S := Int × Int × (List Int)) (I := (fun (i, i1, i2) => (envOf [(1, .c (.int .i64 i)), (4, .c (.ptr 10000000 0)), (6, .c (.eptr 10000001 (0:Int) 0)), (12, .c (.imm y2_ a0)), (13, .c (.int .i64 (a0.length:Int))), (14, .c (.int .i64 i1))], [(10000000, .rc [.nil, .int .i64 (0:Int)]), (10000001, .sl 199 y0_ i2 .shallow)]))) (f := impl_normal_l2 a0) (K := (fun r => k (.tup [.agg [.own 901 false, .int .i64 r.2.1], .c (.bool r.1)]) [(900, .rc [.own 901 false, .int .i64 r.2.1]), (901, .sl 155 y2_ r.2.2 .shallow)])) he (leads_ren [(10000000, 4), (10000001, 6)] rfl rfl ⟨⟨rfl, rfl, trivial⟩, ⟨rfl, rfl⟩, trivial⟩ ⟨rfl, ⟨⟨rfl, rfl⟩, rfl⟩, ⟨⟨rfl, rfl⟩, rfl, rfl⟩, .inl rfl, rfl, rfl, trivial⟩) ?_
  rintro ⟨i, i1, i2⟩ J1 he
  refine go_if he (fun he => ?_) fun he => ?_
  ·refine go_rq he fun he => ?_
   refine go_if he (fun he => ?_) fun he => ?_
   ·refine go_rq he fun he => ?_
    refine And.intro (by kernel_rfl) ?_
    have he := ok_rq he
    have hq1 := he.1
    have he := he.2
    have he := ok_rq he
    have hq2 := he.1
    have he := he.2
    have he := ok_rq he
    have hq3 := he.1
    have he := he.2
    have he := ok_rq he
    have hq4 := he.1
    have he := he.2
    refine And.intro ?_ (And.intro ?_ (trivial))
    ·skip
     refine And.intro hq1 ?_
     refine And.intro hq2 ?_
     refine And.intro ?_ (And.intro ?_ (trivial))
     ·skip
      refine And.intro ?_ trivial
      refine And.intro hq3 ?_
      refine And.intro hq2 ?_
      refine And.intro ?_ trivial
      refine go_rq he fun he => ?_
      have he := ok_some he
      exact ⟨((i - (a0.getD i1.toNat (0, 0)).1), (i1 + (1:Int)), (i2.set (0 - (a0.getD i1.toNat (0, 0)).2).toNat ((i2.getD (0 - (a0.getD i1.toNat (0, 0)).2).toNat 0) - (a0.getD i1.toNat (0, 0)).1))), he, (leads_ren [] rfl rfl ⟨⟨rfl, rfl, trivial⟩, ⟨rfl, rfl⟩, trivial⟩ ⟨rfl, ⟨⟨rfl, rfl⟩, rfl⟩, ⟨⟨rfl, rfl⟩, rfl, rfl⟩, .inl rfl, rfl, rfl, trivial⟩)⟩
     ·skip
      refine And.intro ?_ trivial
      refine And.intro hq3 ?_
      refine And.intro hq2 ?_
      refine And.intro ?_ trivial
      refine go_rq he fun he => ?_
      have he := ok_some he
      exact ⟨((i - (a0.getD i1.toNat (0, 0)).1), (i1 + (1:Int)), (i2.set (0 - (a0.getD i1.toNat (0, 0)).2).toNat ((i2.getD (0 - (a0.getD i1.toNat (0, 0)).2).toNat 0) - (a0.getD i1.toNat (0, 0)).1))), he, (leads_ren [] rfl rfl ⟨⟨rfl, rfl, trivial⟩, ⟨rfl, rfl⟩, trivial⟩ ⟨rfl, ⟨⟨rfl, rfl⟩, rfl⟩, ⟨⟨rfl, rfl⟩, rfl, rfl⟩, .inl rfl, rfl, rfl, trivial⟩)⟩
    ·skip
     refine And.intro ?_ trivial
     refine And.intro hq1 ?_
     refine And.intro hq2 ?_
     refine And.intro ?_ trivial
     refine And.intro hq3 ?_
     refine And.intro hq2 ?_
     refine And.intro ?_ trivial
     refine go_rq he fun he => ?_
     have he := ok_some he
     exact ⟨((i - (a0.getD i1.toNat (0, 0)).1), (i1 + (1:Int)), (i2.set (0 - (a0.getD i1.toNat (0, 0)).2).toNat ((i2.getD (0 - (a0.getD i1.toNat (0, 0)).2).toNat 0) - (a0.getD i1.toNat (0, 0)).1))), he, (leads_ren [] rfl rfl ⟨⟨rfl, rfl, trivial⟩, ⟨rfl, rfl⟩, trivial⟩ ⟨rfl, ⟨⟨rfl, rfl⟩, rfl⟩, ⟨⟨rfl, rfl⟩, rfl, rfl⟩, .inl rfl, rfl, rfl, trivial⟩)⟩
   ·refine And.intro (by kernel_rfl) ?_
    have he := ok_rq he
    have hq1 := he.1
    have he := he.2
    have he := ok_rq he
    have hq2 := he.1
    have he := he.2
    have he := ok_rq he
    have hq3 := he.1
    have he := he.2
    refine And.intro ?_ (And.intro ?_ (trivial))
    ·skip
     refine And.intro hq1 ?_
     refine And.intro ?_ (And.intro ?_ (trivial))
     ·skip
      refine And.intro ?_ trivial
      refine And.intro hq2 ?_
      refine And.intro hq1 ?_
      refine And.intro ?_ trivial
      refine go_rq he fun he => ?_
      have he := ok_some he
      exact ⟨(i, (i1 + (1:Int)), (i2.set (a0.getD i1.toNat (0, 0)).2.toNat ((i2.getD (a0.getD i1.toNat (0, 0)).2.toNat 0) + (a0.getD i1.toNat (0, 0)).1))), he, (leads_ren [] rfl rfl ⟨⟨rfl, rfl, trivial⟩, ⟨rfl, rfl⟩, trivial⟩ ⟨rfl, ⟨⟨rfl, rfl⟩, rfl⟩, ⟨⟨rfl, rfl⟩, rfl, rfl⟩, .inl rfl, rfl, rfl, trivial⟩)⟩
     ·skip
      refine And.intro ?_ trivial
      refine And.intro hq2 ?_
      refine And.intro hq1 ?_
      refine And.intro ?_ trivial
      refine go_rq he fun he => ?_
      have he := ok_some he
      exact ⟨(i, (i1 + (1:Int)), (i2.set (a0.getD i1.toNat (0, 0)).2.toNat ((i2.getD (a0.getD i1.toNat (0, 0)).2.toNat 0) + (a0.getD i1.toNat (0, 0)).1))), he, (leads_ren [] rfl rfl ⟨⟨rfl, rfl, trivial⟩, ⟨rfl, rfl⟩, trivial⟩ ⟨rfl, ⟨⟨rfl, rfl⟩, rfl⟩, ⟨⟨rfl, rfl⟩, rfl, rfl⟩, .inl rfl, rfl, rfl, trivial⟩)⟩
    ·skip
     refine And.intro ?_ trivial
     refine And.intro hq1 ?_
     refine And.intro ?_ trivial
     refine And.intro hq2 ?_
     refine And.intro hq1 ?_
     refine And.intro ?_ trivial
     refine go_rq he fun he => ?_
     have he := ok_some he
     exact ⟨(i, (i1 + (1:Int)), (i2.set (a0.getD i1.toNat (0, 0)).2.toNat ((i2.getD (a0.getD i1.toNat (0, 0)).2.toNat 0) + (a0.getD i1.toNat (0, 0)).1))), he, (leads_ren [] rfl rfl ⟨⟨rfl, rfl, trivial⟩, ⟨rfl, rfl⟩, trivial⟩ ⟨rfl, ⟨⟨rfl, rfl⟩, rfl⟩, ⟨⟨rfl, rfl⟩, rfl, rfl⟩, .inl rfl, rfl, rfl, trivial⟩)⟩
  ·exact ⟨(i, i2), ok_up he, (leads_ren [(10001000, 10000000), (10001001, 10000001)] rfl rfl ⟨⟨rfl, rfl, trivial⟩, ⟨rfl, rfl⟩, trivial⟩ ⟨rfl, ⟨⟨rfl, rfl⟩, rfl⟩, ⟨⟨rfl, rfl⟩, rfl, rfl⟩, trivial⟩)⟩

noncomputable def c_impl_AddConstraints : Con := fun args st => match args, st with
  | [.agg [.imm (.pair (.int .i64) (.int .i64)) a_0, .int .i64 a_1], .agg [.imm (.pair (.int .i64) (.int .i64)) b_0, .int .i64 b_1]], [] => .opt (Bool × Int × (List D2_)) (impl_AddConstraints (a_0, a_1) (b_0, b_1)) (fun r => .ret (.tup [.agg [.own 901 false, .int .i64 r.2.1], .c (.bool r.1)]) [(900, .rc [.own 901 false, .int .i64 r.2.1]), (901, .sl 155 y2_ r.2.2 .shallow)])
  | _, _ => .fail

noncomputable def C_impl_AddConstraints : Cfg := { y := tys, n := 29, h := 0, tab := [(129, c_impl_normal), (223, c_impl_ConstraintValid), (290, c_slices_Concat_impl_Term)], cut := [1], hand := [], good := [], deep := [], sched := [(3, (.first 0 (.first 1 (.first 2 (.first 3 (.first 6 (.first 7 (.first 8 (.first 9 (.first 10 (.alt 4 (.alt 5 (.alt 11 (.first 12 (.first 13 (.alt 14 (.first 15 .done) .stop))) .stop) .stop) .stop)))))))))))] }

theorem t_impl_AddConstraints : TabOk Tryz.prog C_impl_AddConstraints := by
  refine tabOk_of ?_
  simp only [C_impl_AddConstraints, List.forall_mem_cons]
  exact ⟨k_impl_normal, k_impl_ConstraintValid, k_slices_Concat_impl_Term, fun p h => by cases h⟩

theorem k_impl_AddConstraints : Entry Tryz.prog 261 c_impl_AddConstraints := by
 refine entry_by (C := C_impl_AddConstraints) mixed tys_ok t_impl_AddConstraints (fn := Tryz.f261) (c := bd Tryz.f261) (by kernel_rfl) (by kernel_rfl) (by kernel_rfl) (by kernel_rfl) ?_
 intro args st k he
 unfold c_impl_AddConstraints at he
 split at he
 rotate_left
 ·exact he.elim
 rename_i a_0 a_1 b_0 b_1
 have he : Ok (impl_AddConstraints (a_0, a_1) (b_0, b_1)) (fun r => k (.tup [.agg [.own 901 false, .int .i64 r.2.1], .c (.bool r.1)]) [(900, .rc [.own 901 false, .int .i64 r.2.1]), (901, .sl 155 y2_ r.2.2 .shallow)]) := he
 refine ⟨rfl, rfl, ?_⟩
 refine seq_model mixed tys_ok t_impl_AddConstraints (S := Unit) (I := (fun _ => (envOf [(2, .c (.iptr y3_ (a_0, a_1) 0)), (3, .c (.iptr y3_ (b_0, b_1) 0)), (4, .c (.ptr 10000000 0))], [(10000000, .rc [.nil, .int .i64 (0:Int)])]))) (B := fun s => Ok (impl_AddConstraints_j1 (a_0, a_1) (b_0, b_1) s) (fun r => k (.tup [.agg [.own 901 false, .int .i64 r.2.1], .c (.bool r.1)]) [(900, .rc [.own 901 false, .int .i64 r.2.1]), (901, .sl 155 y2_ r.2.2 .shallow)])) ?_ ?_
 ·rintro ⟨⟩ he
  refine go_bind he fun r1_ he => ?_
  refine go_if2 he (fun he => ?_) fun he => ?_
  ·refine go_bind he fun r2_ he => ?_
   refine go_if he (fun he => ?_) fun he => ?_
   ·have he := ok_some he
    exact ⟨rfl, _, _, (leads_ren [(900, 10000000)] (l := [(4, .c (.ptr 900 0)), (5, .c (.bool false))]) (st' := [(900, .rc [.own 901 false, .int .i64 (0:Int)]), (901, .sl 155 y2_ ([] : List D2_) .shallow)]) rfl rfl ⟨⟨⟨rfl, trivial⟩, rfl, trivial⟩, trivial, trivial⟩ ⟨⟨⟨rfl, rfl⟩, rfl⟩, .inr rfl, trivial⟩), he⟩
   ·refine And.intro (by kernel_rfl) ?_
    refine go_rq he fun he => ?_
    refine And.intro ?_ trivial
    refine And.intro ?_ trivial
    refine go_bind he fun r5_ he => ?_
    refine And.intro ?_ trivial
    refine go_bind he fun r6_ he => ?_
    refine And.intro ?_ trivial
    have he := ok_some he
    exact ⟨rfl, _, _, (leads_ren [(900, 10000000), (901, 27901)] (l := [(4, .c (.ptr 900 0)), (5, .c (.bool r6_.1))]) (st' := [(900, .rc [.own 901 false, .int .i64 r6_.2.1]), (901, .sl 155 y2_ r6_.2.2 .shallow)]) rfl rfl ⟨⟨⟨⟨rfl, rfl⟩, trivial⟩, rfl, trivial⟩, ⟨rfl, rfl⟩, trivial⟩ ⟨⟨⟨rfl, rfl⟩, rfl⟩, .inl rfl, trivial⟩), he⟩
  ·have he := ok_some he
   exact ⟨rfl, _, _, (leads_ren [(900, 10000000)] (l := [(4, .c (.ptr 900 0)), (5, .c (.bool false))]) (st' := [(900, .rc [.own 901 false, .int .i64 (0:Int)]), (901, .sl 155 y2_ ([] : List D2_) .shallow)]) rfl rfl ⟨⟨⟨rfl, trivial⟩, rfl, trivial⟩, trivial, trivial⟩ ⟨⟨⟨rfl, rfl⟩, rfl⟩, .inr rfl, trivial⟩), he⟩
 ·skip
  exact ⟨(), he, (leads_ren [(10000000, 4)] rfl rfl ⟨⟨rfl, rfl, trivial⟩, trivial⟩ ⟨.inr ⟨2, rfl, ⟨rfl, by repeat (first | exact trivial | refine And.intro trivial ?_)⟩, rfl⟩, .inr ⟨3, rfl, ⟨rfl, by repeat (first | exact trivial | refine And.intro trivial ?_)⟩, rfl⟩, ⟨⟨rfl, rfl⟩, rfl⟩, trivial⟩)⟩

noncomputable def c_impl_MultiplyConstraint_1 : Con := fun args st => match args, st with
  | [.c (.int .i64 n), .c (.ptr 0 0)], [(0, .rc [.int .i64 o0])] => .opt (Int) (impl_MultiplyConstraint_1 n o0) (fun r => .ret (.c (.int .i64 r)) [(0, .rc [.int .i64 o0])])
  | _, _ => .fail

noncomputable def C_impl_MultiplyConstraint_1 : Cfg := { y := tys, n := 7, h := 1, tab := [], cut := [], hand := [], good := [], deep := [], sched := [] }

theorem t_impl_MultiplyConstraint_1 : TabOk Tryz.prog C_impl_MultiplyConstraint_1 := tabOk_of (fun p h => by cases h)

theorem k_impl_MultiplyConstraint_1 : Entry Tryz.prog 292 c_impl_MultiplyConstraint_1 := by
 refine entry_by (C := C_impl_MultiplyConstraint_1) mixed tys_ok t_impl_MultiplyConstraint_1 (fn := Tryz.f292) (c := bd Tryz.f292) (by kernel_rfl) (by kernel_rfl) (by kernel_rfl) (by kernel_rfl) ?_
 intro args st k he
 unfold c_impl_MultiplyConstraint_1 at he
 split at he
 rotate_left
 ·exact he.elim
 rename_i n o0
 have he : Ok (impl_MultiplyConstraint_1 n o0) (fun r => k (.c (.int .i64 r)) [(0, .rc [.int .i64 o0])]) := he
 refine ⟨rfl, rfl, ?_⟩
 refine go_rq he fun he => ?_
 have he := ok_some he
 exact ⟨rfl, _, _, (leads_ren [] (l := [(3, .c (.int .i64 (n * o0)))]) (st' := [(0, .rc [.int .i64 o0])]) rfl rfl ⟨⟨rfl, trivial⟩, trivial⟩ ⟨rfl, trivial⟩), he⟩

noncomputable def c_impl_Constraint_valid : Con := fun args st => match args, st with
  | [.agg [.imm (.pair (.int .i64) (.int .i64)) c__0, .int .i64 c__1]], [] => .opt (Bool × (List D2_) × Int) (impl_Constraint_valid (c__0, c__1)) (fun r => .ret (.tup [.agg [.imm y2_ r.2.1, .int .i64 r.2.2], .c (.bool r.1)]) [(900, .rc [.imm y2_ r.2.1, .int .i64 r.2.2])])
  | _, _ => .fail

noncomputable def C_impl_Constraint_valid : Cfg := { y := tys, n := 9, h := 0, tab := [(223, c_impl_ConstraintValid)], cut := [], hand := [], good := [], deep := [], sched := [] }

theorem t_impl_Constraint_valid : TabOk Tryz.prog C_impl_Constraint_valid := by
  refine tabOk_of ?_
  simp only [C_impl_Constraint_valid, List.forall_mem_cons]
  exact ⟨k_impl_ConstraintValid, fun p h => by cases h⟩

theorem k_impl_Constraint_valid : Entry Tryz.prog 187 c_impl_Constraint_valid := by
 refine entry_by (C := C_impl_Constraint_valid) mixed tys_ok t_impl_Constraint_valid (fn := Tryz.f187) (c := bd Tryz.f187) (by kernel_rfl) (by kernel_rfl) (by kernel_rfl) (by kernel_rfl) ?_
 intro args st k he
 unfold c_impl_Constraint_valid at he
 split at he
 rotate_left
 ·exact he.elim
 rename_i c__0 c__1
 have he : Ok (impl_Constraint_valid (c__0, c__1)) (fun r => k (.tup [.agg [.imm y2_ r.2.1, .int .i64 r.2.2], .c (.bool r.1)]) [(900, .rc [.imm y2_ r.2.1, .int .i64 r.2.2])]) := he
 refine ⟨rfl, rfl, ?_⟩
 refine go_bind he fun r1_ he => ?_
 refine go_if he (fun he => ?_) fun he => ?_
 ·have he := ok_some he
  exact ⟨rfl, _, _, (leads_ren [(900, 2)] (l := [(2, .c (.ptr 900 0)), (3, .c (.bool false))]) (st' := [(900, .rc [.imm y2_ ([] : List D2_), .int .i64 (0:Int)])]) rfl rfl ⟨⟨.inr (.inl ⟨rfl, rfl⟩), rfl, trivial⟩, trivial⟩ ⟨⟨⟨rfl, rfl⟩, rfl⟩, .inr rfl, trivial⟩), he⟩
 ·have he := ok_some he
  exact ⟨rfl, _, _, (leads_ren [(900, 2)] (l := [(2, .c (.ptr 900 0)), (3, .c (.bool true))]) (st' := [(900, .rc [.imm y2_ (c__0, c__1).1, .int .i64 (c__0, c__1).2])]) rfl rfl ⟨⟨.inl rfl, rfl, trivial⟩, trivial⟩ ⟨⟨⟨rfl, rfl⟩, rfl⟩, .inr rfl, trivial⟩), he⟩

noncomputable def c_impl_Constraint_changed__impl_MultiplyConstraint_1 : Con := fun args st => match args, st with
  | [.agg [.imm (.pair (.int .i64) (.int .i64)) c__0, .int .i64 c__1], .c (.fn 292 [0])], [(0, .rc [.int .i64 o0])] => .opt (Bool × D3_) (impl_Constraint_changed__impl_MultiplyConstraint_1 (c__0, c__1) o0) (fun r => .ret (.tup [.agg [.imm y2_ r.2.1, .int .i64 r.2.2], .c (.bool r.1)]) [(0, .rc [.int .i64 o0]), (900, .rc [.imm y2_ r.2.1, .int .i64 r.2.2])])
  | _, _ => .fail

noncomputable def C_impl_Constraint_changed__impl_MultiplyConstraint_1 : Cfg := { y := tys, n := 39, h := 1, tab := [(160, c_impl_Constraint_own), (187, c_impl_Constraint_valid), (292, c_impl_MultiplyConstraint_1)], cut := [8], hand := [], good := [187], deep := [], sched := [(6, (.first 0 (.first 2 (.first 3 (.first 4 (.first 6 (.alt 1 (.alt 5 (.first 7 (.first 8 (.alt 9 (.alt 10 (.first 11 (.first 12 (.alt 13 .done .stop))) .stop) .stop))) .stop) (.alt 5 (.first 7 (.first 8 (.alt 1 (.alt 9 (.alt 10 (.first 11 (.first 12 (.alt 13 .done .stop))) .stop) .stop) (.alt 9 (.alt 1 (.alt 10 (.first 11 (.first 12 (.alt 13 .done .stop))) .stop) (.alt 10 (.alt 1 (.first 11 (.first 12 (.alt 13 .done .stop))) .stop) .stop)) .stop)))) .stop))))))))] }

theorem t_impl_Constraint_changed__impl_MultiplyConstraint_1 : TabOk Tryz.prog C_impl_Constraint_changed__impl_MultiplyConstraint_1 := by
  refine tabOk_of ?_
  simp only [C_impl_Constraint_changed__impl_MultiplyConstraint_1, List.forall_mem_cons]
  exact ⟨k_impl_Constraint_own, k_impl_Constraint_valid, k_impl_MultiplyConstraint_1, fun p h => by cases h⟩

theorem k_impl_Constraint_changed__impl_MultiplyConstraint_1 : Entry Tryz.prog 291 c_impl_Constraint_changed__impl_MultiplyConstraint_1 := by
 refine entry_by (C := C_impl_Constraint_changed__impl_MultiplyConstraint_1) mixed tys_ok t_impl_Constraint_changed__impl_MultiplyConstraint_1 (fn := Tryz.f291) (c := bd Tryz.f291) (by kernel_rfl) (by kernel_rfl) (by kernel_rfl) (by kernel_rfl) ?_
 intro args st k he
 unfold c_impl_Constraint_changed__impl_MultiplyConstraint_1 at he
 split at he
 rotate_left
 ·exact he.elim
 rename_i c__0 c__1 o0
 have he : Ok (impl_Constraint_changed__impl_MultiplyConstraint_1 (c__0, c__1) o0) (fun r => k (.tup [.agg [.imm y2_ r.2.1, .int .i64 r.2.2], .c (.bool r.1)]) [(0, .rc [.int .i64 o0]), (900, .rc [.imm y2_ r.2.1, .int .i64 r.2.2])]) := he
 refine ⟨rfl, rfl, ?_⟩
 refine go_bind he fun r1_ he => ?_
 refine go_bind he fun r2_ he => ?_
 refine seq_model mixed tys_ok t_impl_Constraint_changed__impl_MultiplyConstraint_1 (S := (List D2_)) (I := (fun out_01 => (envOf [(4, .c (.ptr 10001000 0)), (6, .c (.ptr 10001001 0))], [(0, .rc [.int .i64 o0]), (10001000, .rc [.nil, .int .i64 (0:Int)]), (10001001, .rc [.own 10001002 false, .int .i64 r2_]), (10001002, .sl 155 y2_ out_01 .shallow)]))) (B := fun s => Ok (impl_Constraint_changed__impl_MultiplyConstraint_1_j1 r2_ s) (fun r => k (.tup [.agg [.imm y2_ r.2.1, .int .i64 r.2.2], .c (.bool r.1)]) [(0, .rc [.int .i64 o0]), (900, .rc [.imm y2_ r.2.1, .int .i64 r.2.2])])) ?_ ?_
 ·rintro out_01 he
  refine go_bind he fun r6_ he => ?_
  have he := ok_some he
  exact ⟨rfl, _, _, (leads_ren [(900, 10001000)] (l := [(4, .c (.ptr 900 0)), (5, .c (.bool r6_.1))]) (st' := [(0, .rc [.int .i64 o0]), (900, .rc [.imm y2_ r6_.2.1, .int .i64 r6_.2.2])]) rfl rfl ⟨⟨rfl, trivial⟩, ⟨.inl rfl, rfl, trivial⟩, trivial⟩ ⟨⟨⟨rfl, rfl⟩, rfl⟩, .inl rfl, trivial⟩), he⟩
 ·skip
  refine loop_model mixed tys_ok t_impl_Constraint_changed__impl_MultiplyConstraint_1 (S := Int × (List D2_)) (I := (fun (i, out_0) => (envOf [(1, .c (.fn 292 [0])), (4, .c (.ptr 10000000 0)), (6, .c (.ptr 10000001 0)), (17, .c (.int .i64 (r1_.2.length:Int))), (18, .c (.int .i64 i))], [(0, .rc [.int .i64 o0]), (10000000, .rc [.nil, .int .i64 (0:Int)]), (10000001, .rc [.own 10000002 false, .int .i64 r2_]), (10000002, .sl 155 y2_ out_0 .shallow)]))) (f := impl_Constraint_changed__impl_MultiplyConstraint_1_l1 o0 r1_ r2_) (K := (fun r => k (.tup [.agg [.imm y2_ r.2.1, .int .i64 r.2.2], .c (.bool r.1)]) [(0, .rc [.int .i64 o0]), (900, .rc [.imm y2_ r.2.1, .int .i64 r.2.2])])) he (leads_ren [(10000000, 4), (10000001, 6), (10000002, 10901)] rfl rfl ⟨⟨rfl, trivial⟩, ⟨rfl, rfl, trivial⟩, ⟨⟨⟨rfl, rfl⟩, trivial⟩, rfl, trivial⟩, ⟨rfl, rfl⟩, trivial⟩ ⟨⟨rfl, ⟨⟨rfl, rfl⟩, trivial⟩⟩, ⟨⟨rfl, rfl⟩, rfl⟩, ⟨⟨rfl, rfl⟩, rfl⟩, rfl, rfl, trivial⟩) ?_
  rintro ⟨i, out_0⟩ J1 he
  refine go_if he (fun he => ?_) fun he => ?_
  ·refine And.intro (by kernel_rfl) ?_
   have he := ok_rq he
   have hq1 := he.1
   have he := he.2
   obtain ⟨r5_, hq2, he⟩ := ok_bind he
   have he := ok_rq he
   have hq3 := he.1
   have he := he.2
   refine And.intro ?_ (And.intro ?_ (trivial))
   ·skip
    refine And.intro ?_ trivial
    refine And.intro hq1 ?_
    refine And.intro ?_ trivial
    refine And.intro ?_ trivial
    refine ⟨r5_, hq2, ?_⟩
    refine And.intro hq1 ?_
    refine And.intro ?_ trivial
    refine go_rq he fun he => ?_
    have he := ok_some he
    exact ⟨((i + (1:Int)), (out_0.set i.toNat (r5_, (out_0.getD i.toNat (0, 0)).2))), he, (leads_ren [] rfl rfl ⟨⟨rfl, trivial⟩, ⟨rfl, rfl, trivial⟩, ⟨⟨⟨rfl, rfl⟩, trivial⟩, rfl, trivial⟩, ⟨rfl, rfl⟩, trivial⟩ ⟨⟨rfl, ⟨⟨rfl, rfl⟩, trivial⟩⟩, ⟨⟨rfl, rfl⟩, rfl⟩, ⟨⟨rfl, rfl⟩, rfl⟩, rfl, rfl, trivial⟩)⟩
   ·skip
    refine And.intro hq1 ?_
    refine And.intro ?_ (And.intro ?_ (trivial))
    ·skip
     refine And.intro ?_ trivial
     refine And.intro ?_ trivial
     refine ⟨r5_, hq2, ?_⟩
     refine And.intro hq1 ?_
     refine And.intro ?_ trivial
     refine go_rq he fun he => ?_
     have he := ok_some he
     exact ⟨((i + (1:Int)), (out_0.set i.toNat (r5_, (out_0.getD i.toNat (0, 0)).2))), he, (leads_ren [] rfl rfl ⟨⟨rfl, trivial⟩, ⟨rfl, rfl, trivial⟩, ⟨⟨⟨rfl, rfl⟩, trivial⟩, rfl, trivial⟩, ⟨rfl, rfl⟩, trivial⟩ ⟨⟨rfl, ⟨⟨rfl, rfl⟩, trivial⟩⟩, ⟨⟨rfl, rfl⟩, rfl⟩, ⟨⟨rfl, rfl⟩, rfl⟩, rfl, rfl, trivial⟩)⟩
    ·skip
     refine And.intro ?_ (And.intro ?_ (trivial))
     ·skip
      refine And.intro ?_ trivial
      refine ⟨r5_, hq2, ?_⟩
      refine And.intro hq1 ?_
      refine And.intro ?_ trivial
      refine go_rq he fun he => ?_
      have he := ok_some he
      exact ⟨((i + (1:Int)), (out_0.set i.toNat (r5_, (out_0.getD i.toNat (0, 0)).2))), he, (leads_ren [] rfl rfl ⟨⟨rfl, trivial⟩, ⟨rfl, rfl, trivial⟩, ⟨⟨⟨rfl, rfl⟩, trivial⟩, rfl, trivial⟩, ⟨rfl, rfl⟩, trivial⟩ ⟨⟨rfl, ⟨⟨rfl, rfl⟩, trivial⟩⟩, ⟨⟨rfl, rfl⟩, rfl⟩, ⟨⟨rfl, rfl⟩, rfl⟩, rfl, rfl, trivial⟩)⟩
     ·skip
      refine ⟨r5_, hq2, ?_⟩
      refine And.intro ?_ trivial
      refine And.intro hq1 ?_
      refine And.intro ?_ trivial
      refine go_rq he fun he => ?_
      have he := ok_some he
      exact ⟨((i + (1:Int)), (out_0.set i.toNat (r5_, (out_0.getD i.toNat (0, 0)).2))), he, (leads_ren [] rfl rfl ⟨⟨rfl, trivial⟩, ⟨rfl, rfl, trivial⟩, ⟨⟨⟨rfl, rfl⟩, trivial⟩, rfl, trivial⟩, ⟨rfl, rfl⟩, trivial⟩ ⟨⟨rfl, ⟨⟨rfl, rfl⟩, trivial⟩⟩, ⟨⟨rfl, rfl⟩, rfl⟩, ⟨⟨rfl, rfl⟩, rfl⟩, rfl, rfl, trivial⟩)⟩
  ·exact ⟨out_0, ok_up he, (leads_ren [(10001000, 10000000), (10001001, 10000001), (10001002, 10000002)] rfl rfl ⟨⟨rfl, trivial⟩, ⟨rfl, rfl, trivial⟩, ⟨⟨⟨rfl, rfl⟩, trivial⟩, rfl, trivial⟩, ⟨rfl, rfl⟩, trivial⟩ ⟨⟨⟨rfl, rfl⟩, rfl⟩, ⟨⟨rfl, rfl⟩, rfl⟩, trivial⟩)⟩

noncomputable def c_impl_MultiplyConstraint : Con := fun args st => match args, st with
  | [.agg [.imm (.pair (.int .i64) (.int .i64)) c__0, .int .i64 c__1], .c (.int .i64 k_)], [] => .opt (Bool × (List D2_) × Int) (impl_MultiplyConstraint (c__0, c__1) k_) (fun r => .ret (.tup [.agg [.imm y2_ r.2.1, .int .i64 r.2.2], .c (.bool r.1)]) [(900, .rc [.imm y2_ r.2.1, .int .i64 r.2.2])])
  | _, _ => .fail

noncomputable def C_impl_MultiplyConstraint : Cfg := { y := tys, n := 20, h := 0, tab := [(127, c_impl_within), (223, c_impl_ConstraintValid), (291, c_impl_Constraint_changed__impl_MultiplyConstraint_1)], cut := [], hand := [], good := [], deep := [], sched := [] }

theorem t_impl_MultiplyConstraint : TabOk Tryz.prog C_impl_MultiplyConstraint := by
  refine tabOk_of ?_
  simp only [C_impl_MultiplyConstraint, List.forall_mem_cons]
  exact ⟨k_impl_within, k_impl_ConstraintValid, k_impl_Constraint_changed__impl_MultiplyConstraint_1, fun p h => by cases h⟩

theorem k_impl_MultiplyConstraint : Entry Tryz.prog 262 c_impl_MultiplyConstraint := by
 refine entry_by (C := C_impl_MultiplyConstraint) mixed tys_ok t_impl_MultiplyConstraint (fn := Tryz.f262) (c := bd Tryz.f262) (by kernel_rfl) (by kernel_rfl) (by kernel_rfl) (by kernel_rfl) ?_
 intro args st k he
 unfold c_impl_MultiplyConstraint at he
 split at he
 rotate_left
 ·exact he.elim
 rename_i c__0 c__1 k_
 have he : Ok (impl_MultiplyConstraint (c__0, c__1) k_) (fun r => k (.tup [.agg [.imm y2_ r.2.1, .int .i64 r.2.2], .c (.bool r.1)]) [(900, .rc [.imm y2_ r.2.1, .int .i64 r.2.2])]) := he
 refine ⟨rfl, rfl, ?_⟩
 refine go_bind he fun r1_ he => ?_
 refine go_if2 he (fun he => ?_) fun he => ?_
 ·refine go_bind he fun r2_ he => ?_
  refine go_if he (fun he => ?_) fun he => ?_
  ·have he := ok_some he
   exact ⟨rfl, _, _, (leads_ren [(900, 4)] (l := [(4, .c (.ptr 900 0)), (5, .c (.bool false))]) (st' := [(900, .rc [.imm y2_ ([] : List D2_), .int .i64 (0:Int)])]) rfl rfl ⟨⟨.inr (.inl ⟨rfl, rfl⟩), rfl, trivial⟩, trivial⟩ ⟨⟨⟨rfl, rfl⟩, rfl⟩, .inr rfl, trivial⟩), he⟩
  ·refine go_bind he fun r3_ he => ?_
   have he := ok_some he
   exact ⟨rfl, _, _, (leads_ren [(900, 4)] (l := [(4, .c (.ptr 900 0)), (5, .c (.bool r3_.1))]) (st' := [(900, .rc [.imm y2_ r3_.2.1, .int .i64 r3_.2.2])]) rfl rfl ⟨⟨.inl rfl, rfl, trivial⟩, trivial⟩ ⟨⟨⟨rfl, rfl⟩, rfl⟩, .inl rfl, trivial⟩), he⟩
 ·have he := ok_some he
  exact ⟨rfl, _, _, (leads_ren [(900, 4)] (l := [(4, .c (.ptr 900 0)), (5, .c (.bool false))]) (st' := [(900, .rc [.imm y2_ ([] : List D2_), .int .i64 (0:Int)])]) rfl rfl ⟨⟨.inr (.inl ⟨rfl, rfl⟩), rfl, trivial⟩, trivial⟩ ⟨⟨⟨rfl, rfl⟩, rfl⟩, .inr rfl, trivial⟩), he⟩

noncomputable def c_impl_DivideConstraint_1 : Con := fun args st => match args, st with
  | [.c (.int .i64 n), .c (.ptr 0 0)], [(0, .rc [.int .i64 o0])] => .opt (Int) (impl_DivideConstraint_1 n o0) (fun r => .ret (.c (.int .i64 r)) [(0, .rc [.int .i64 o0])])
  | _, _ => .fail

noncomputable def C_impl_DivideConstraint_1 : Cfg := { y := tys, n := 10, h := 1, tab := [], cut := [], hand := [], good := [], deep := [], sched := [] }

theorem t_impl_DivideConstraint_1 : TabOk Tryz.prog C_impl_DivideConstraint_1 := tabOk_of (fun p h => by cases h)

theorem k_impl_DivideConstraint_1 : Entry Tryz.prog 293 c_impl_DivideConstraint_1 := by
 refine entry_by (C := C_impl_DivideConstraint_1) mixed tys_ok t_impl_DivideConstraint_1 (fn := Tryz.f293) (c := bd Tryz.f293) (by kernel_rfl) (by kernel_rfl) (by kernel_rfl) (by kernel_rfl) ?_
 intro args st k he
 unfold c_impl_DivideConstraint_1 at he
 split at he
 rotate_left
 ·exact he.elim
 rename_i n o0
 have he : Ok (impl_DivideConstraint_1 n o0) (fun r => k (.c (.int .i64 r)) [(0, .rc [.int .i64 o0])]) := he
 refine ⟨rfl, rfl, ?_⟩
 refine go_rq he fun he => ?_
 refine go_rq he fun he => ?_
 refine go_rq he fun he => ?_
 have he := ok_some he
 exact ⟨rfl, _, _, (leads_ren [] (l := [(3, .c (.int .i64 (((n + o0) - (1:Int)) / o0)))]) (st' := [(0, .rc [.int .i64 o0])]) rfl rfl ⟨⟨rfl, trivial⟩, trivial⟩ ⟨rfl, trivial⟩), he⟩

noncomputable def c_impl_Constraint_changed__impl_DivideConstraint_1 : Con := fun args st => match args, st with
  | [.agg [.imm (.pair (.int .i64) (.int .i64)) c__0, .int .i64 c__1], .c (.fn 293 [0])], [(0, .rc [.int .i64 o0])] => .opt (Bool × D3_) (impl_Constraint_changed__impl_DivideConstraint_1 (c__0, c__1) o0) (fun r => .ret (.tup [.agg [.imm y2_ r.2.1, .int .i64 r.2.2], .c (.bool r.1)]) [(0, .rc [.int .i64 o0]), (900, .rc [.imm y2_ r.2.1, .int .i64 r.2.2])])
  | _, _ => .fail

noncomputable def C_impl_Constraint_changed__impl_DivideConstraint_1 : Cfg := { y := tys, n := 39, h := 1, tab := [(160, c_impl_Constraint_own), (187, c_impl_Constraint_valid), (293, c_impl_DivideConstraint_1)], cut := [8], hand := [], good := [187], deep := [], sched := [(6, (.first 0 (.first 2 (.first 3 (.first 4 (.first 6 (.alt 1 (.alt 5 (.first 7 (.first 8 (.alt 9 (.alt 10 (.first 11 (.first 12 (.alt 13 .done .stop))) .stop) .stop))) .stop) (.alt 5 (.first 7 (.first 8 (.alt 1 (.alt 9 (.alt 10 (.first 11 (.first 12 (.alt 13 .done .stop))) .stop) .stop) (.alt 9 (.alt 1 (.alt 10 (.first 11 (.first 12 (.alt 13 .done .stop))) .stop) (.alt 10 (.alt 1 (.first 11 (.first 12 (.alt 13 .done .stop))) .stop) .stop)) .stop)))) .stop))))))))] }

theorem t_impl_Constraint_changed__impl_DivideConstraint_1 : TabOk Tryz.prog C_impl_Constraint_changed__impl_DivideConstraint_1 := by
  refine tabOk_of ?_
  simp only [C_impl_Constraint_changed__impl_DivideConstraint_1, List.forall_mem_cons]
  exact ⟨k_impl_Constraint_own, k_impl_Constraint_valid, k_impl_DivideConstraint_1, fun p h => by cases h⟩

theorem k_impl_Constraint_changed__impl_DivideConstraint_1 : Entry Tryz.prog 291 c_impl_Constraint_changed__impl_DivideConstraint_1 := by
 refine entry_by (C := C_impl_Constraint_changed__impl_DivideConstraint_1) mixed tys_ok t_impl_Constraint_changed__impl_DivideConstraint_1 (fn := Tryz.f291) (c := bd Tryz.f291) (by kernel_rfl) (by kernel_rfl) (by kernel_rfl) (by kernel_rfl) ?_
 intro args st k he
 unfold c_impl_Constraint_changed__impl_DivideConstraint_1 at he
 split at he
 rotate_left
 ·exact he.elim
 rename_i c__0 c__1 o0
 have he : Ok (impl_Constraint_changed__impl_DivideConstraint_1 (c__0, c__1) o0) (fun r => k (.tup [.agg [.imm y2_ r.2.1, .int .i64 r.2.2], .c (.bool r.1)]) [(0, .rc [.int .i64 o0]), (900, .rc [.imm y2_ r.2.1, .int .i64 r.2.2])]) := he
 refine ⟨rfl, rfl, ?_⟩
 refine go_bind he fun r1_ he => ?_
 refine go_bind he fun r2_ he => ?_
 refine seq_model mixed tys_ok t_impl_Constraint_changed__impl_DivideConstraint_1 (S := (List D2_)) (I := (fun out_01 => (envOf [(4, .c (.ptr 10001000 0)), (6, .c (.ptr 10001001 0))], [(0, .rc [.int .i64 o0]), (10001000, .rc [.nil, .int .i64 (0:Int)]), (10001001, .rc [.own 10001002 false, .int .i64 r2_]), (10001002, .sl 155 y2_ out_01 .shallow)]))) (B := fun s => Ok (impl_Constraint_changed__impl_DivideConstraint_1_j1 r2_ s) (fun r => k (.tup [.agg [.imm y2_ r.2.1, .int .i64 r.2.2], .c (.bool r.1)]) [(0, .rc [.int .i64 o0]), (900, .rc [.imm y2_ r.2.1, .int .i64 r.2.2])])) ?_ ?_
 ·rintro out_01 he
  refine go_bind he fun r6_ he => ?_
  have he := ok_some he
  exact ⟨rfl, _, _, (leads_ren [(900, 10001000)] (l := [(4, .c (.ptr 900 0)), (5, .c (.bool r6_.1))]) (st' := [(0, .rc [.int .i64 o0]), (900, .rc [.imm y2_ r6_.2.1, .int .i64 r6_.2.2])]) rfl rfl ⟨⟨rfl, trivial⟩, ⟨.inl rfl, rfl, trivial⟩, trivial⟩ ⟨⟨⟨rfl, rfl⟩, rfl⟩, .inl rfl, trivial⟩), he⟩
 ·skip
  refine loop_model mixed tys_ok t_impl_Constraint_changed__impl_DivideConstraint_1 (S := Int × (List D2_)) (I := (fun (i, out_0) => (envOf [(1, .c (.fn 293 [0])), (4, .c (.ptr 10000000 0)), (6, .c (.ptr 10000001 0)), (17, .c (.int .i64 (r1_.2.length:Int))), (18, .c (.int .i64 i))], [(0, .rc [.int .i64 o0]), (10000000, .rc [.nil, .int .i64 (0:Int)]), (10000001, .rc [.own 10000002 false, .int .i64 r2_]), (10000002, .sl 155 y2_ out_0 .shallow)]))) (f := impl_Constraint_changed__impl_DivideConstraint_1_l1 o0 r1_ r2_) (K := (fun r => k (.tup [.agg [.imm y2_ r.2.1, .int .i64 r.2.2], .c (.bool r.1)]) [(0, .rc [.int .i64 o0]), (900, .rc [.imm y2_ r.2.1, .int .i64 r.2.2])])) he (leads_ren [(10000000, 4), (10000001, 6), (10000002, 10901)] rfl rfl ⟨⟨rfl, trivial⟩, ⟨rfl, rfl, trivial⟩, ⟨⟨⟨rfl, rfl⟩, trivial⟩, rfl, trivial⟩, ⟨rfl, rfl⟩, trivial⟩ ⟨⟨rfl, ⟨⟨rfl, rfl⟩, trivial⟩⟩, ⟨⟨rfl, rfl⟩, rfl⟩, ⟨⟨rfl, rfl⟩, rfl⟩, rfl, rfl, trivial⟩) ?_
  rintro ⟨i, out_0⟩ J1 he
  refine go_if he (fun he => ?_) fun he => ?_
  ·refine And.intro (by kernel_rfl) ?_
   have he := ok_rq he
   have hq1 := he.1
   have he := he.2
   obtain ⟨r5_, hq2, he⟩ := ok_bind he
   have he := ok_rq he
   have hq3 := he.1
   have he := he.2
   refine And.intro ?_ (And.intro ?_ (trivial))
   ·skip
    refine And.intro ?_ trivial
    refine And.intro hq1 ?_
    refine And.intro ?_ trivial
    refine And.intro ?_ trivial
    refine ⟨r5_, hq2, ?_⟩
    refine And.intro hq1 ?_
    refine And.intro ?_ trivial
    refine go_rq he fun he => ?_
    have he := ok_some he
    exact ⟨((i + (1:Int)), (out_0.set i.toNat (r5_, (out_0.getD i.toNat (0, 0)).2))), he, (leads_ren [] rfl rfl ⟨⟨rfl, trivial⟩, ⟨rfl, rfl, trivial⟩, ⟨⟨⟨rfl, rfl⟩, trivial⟩, rfl, trivial⟩, ⟨rfl, rfl⟩, trivial⟩ ⟨⟨rfl, ⟨⟨rfl, rfl⟩, trivial⟩⟩, ⟨⟨rfl, rfl⟩, rfl⟩, ⟨⟨rfl, rfl⟩, rfl⟩, rfl, rfl, trivial⟩)⟩
   ·skip
    refine And.intro hq1 ?_
    refine And.intro ?_ (And.intro ?_ (trivial))
    ·skip
     refine And.intro ?_ trivial
     refine And.intro ?_ trivial
     refine ⟨r5_, hq2, ?_⟩
     refine And.intro hq1 ?_
     refine And.intro ?_ trivial
     refine go_rq he fun he => ?_
     have he := ok_some he
     exact ⟨((i + (1:Int)), (out_0.set i.toNat (r5_, (out_0.getD i.toNat (0, 0)).2))), he, (leads_ren [] rfl rfl ⟨⟨rfl, trivial⟩, ⟨rfl, rfl, trivial⟩, ⟨⟨⟨rfl, rfl⟩, trivial⟩, rfl, trivial⟩, ⟨rfl, rfl⟩, trivial⟩ ⟨⟨rfl, ⟨⟨rfl, rfl⟩, trivial⟩⟩, ⟨⟨rfl, rfl⟩, rfl⟩, ⟨⟨rfl, rfl⟩, rfl⟩, rfl, rfl, trivial⟩)⟩
    ·skip
     refine And.intro ?_ (And.intro ?_ (trivial))
     ·skip
      refine And.intro ?_ trivial
      refine ⟨r5_, hq2, ?_⟩
      refine And.intro hq1 ?_
      refine And.intro ?_ trivial
      refine go_rq he fun he => ?_
      have he := ok_some he
      exact ⟨((i + (1:Int)), (out_0.set i.toNat (r5_, (out_0.getD i.toNat (0, 0)).2))), he, (leads_ren [] rfl rfl ⟨⟨rfl, trivial⟩, ⟨rfl, rfl, trivial⟩, ⟨⟨⟨rfl, rfl⟩, trivial⟩, rfl, trivial⟩, ⟨rfl, rfl⟩, trivial⟩ ⟨⟨rfl, ⟨⟨rfl, rfl⟩, trivial⟩⟩, ⟨⟨rfl, rfl⟩, rfl⟩, ⟨⟨rfl, rfl⟩, rfl⟩, rfl, rfl, trivial⟩)⟩
     ·skip
      refine ⟨r5_, hq2, ?_⟩
      refine And.intro ?_ trivial
      refine And.intro hq1 ?_
      refine And.intro ?_ trivial
      refine go_rq he fun he => ?_
      have he := ok_some he
      exact ⟨((i + (1:Int)), (out_0.set i.toNat (r5_, (out_0.getD i.toNat (0, 0)).2))), he, (leads_ren [] rfl rfl ⟨⟨rfl, trivial⟩, ⟨rfl, rfl, trivial⟩, ⟨⟨⟨rfl, rfl⟩, trivial⟩, rfl, trivial⟩, ⟨rfl, rfl⟩, trivial⟩ ⟨⟨rfl, ⟨⟨rfl, rfl⟩, trivial⟩⟩, ⟨⟨rfl, rfl⟩, rfl⟩, ⟨⟨rfl, rfl⟩, rfl⟩, rfl, rfl, trivial⟩)⟩
  ·exact ⟨out_0, ok_up he, (leads_ren [(10001000, 10000000), (10001001, 10000001), (10001002, 10000002)] rfl rfl ⟨⟨rfl, trivial⟩, ⟨rfl, rfl, trivial⟩, ⟨⟨⟨rfl, rfl⟩, trivial⟩, rfl, trivial⟩, ⟨rfl, rfl⟩, trivial⟩ ⟨⟨⟨rfl, rfl⟩, rfl⟩, ⟨⟨rfl, rfl⟩, rfl⟩, trivial⟩)⟩

noncomputable def c_impl_DivideConstraint : Con := fun args st => match args, st with
  | [.agg [.imm (.pair (.int .i64) (.int .i64)) c__0, .int .i64 c__1], .c (.int .i64 k_)], [] => .opt (Bool × (List D2_) × Int) (impl_DivideConstraint (c__0, c__1) k_) (fun r => .ret (.tup [.agg [.imm y2_ r.2.1, .int .i64 r.2.2], .c (.bool r.1)]) [(900, .rc [.imm y2_ r.2.1, .int .i64 r.2.2])])
  | _, _ => .fail

noncomputable def C_impl_DivideConstraint : Cfg := { y := tys, n := 20, h := 0, tab := [(127, c_impl_within), (223, c_impl_ConstraintValid), (291, c_impl_Constraint_changed__impl_DivideConstraint_1)], cut := [], hand := [], good := [], deep := [], sched := [] }

theorem t_impl_DivideConstraint : TabOk Tryz.prog C_impl_DivideConstraint := by
  refine tabOk_of ?_
  simp only [C_impl_DivideConstraint, List.forall_mem_cons]
  exact ⟨k_impl_within, k_impl_ConstraintValid, k_impl_Constraint_changed__impl_DivideConstraint_1, fun p h => by cases h⟩

theorem k_impl_DivideConstraint : Entry Tryz.prog 263 c_impl_DivideConstraint := by
 refine entry_by (C := C_impl_DivideConstraint) mixed tys_ok t_impl_DivideConstraint (fn := Tryz.f263) (c := bd Tryz.f263) (by kernel_rfl) (by kernel_rfl) (by kernel_rfl) (by kernel_rfl) ?_
 intro args st k he
 unfold c_impl_DivideConstraint at he
 split at he
 rotate_left
 ·exact he.elim
 rename_i c__0 c__1 k_
 have he : Ok (impl_DivideConstraint (c__0, c__1) k_) (fun r => k (.tup [.agg [.imm y2_ r.2.1, .int .i64 r.2.2], .c (.bool r.1)]) [(900, .rc [.imm y2_ r.2.1, .int .i64 r.2.2])]) := he
 refine ⟨rfl, rfl, ?_⟩
 refine go_bind he fun r1_ he => ?_
 refine go_if2 he (fun he => ?_) fun he => ?_
 ·refine go_bind he fun r2_ he => ?_
  refine go_if he (fun he => ?_) fun he => ?_
  ·have he := ok_some he
   exact ⟨rfl, _, _, (leads_ren [(900, 4)] (l := [(4, .c (.ptr 900 0)), (5, .c (.bool false))]) (st' := [(900, .rc [.imm y2_ ([] : List D2_), .int .i64 (0:Int)])]) rfl rfl ⟨⟨.inr (.inl ⟨rfl, rfl⟩), rfl, trivial⟩, trivial⟩ ⟨⟨⟨rfl, rfl⟩, rfl⟩, .inr rfl, trivial⟩), he⟩
  ·refine go_bind he fun r3_ he => ?_
   have he := ok_some he
   exact ⟨rfl, _, _, (leads_ren [(900, 4)] (l := [(4, .c (.ptr 900 0)), (5, .c (.bool r3_.1))]) (st' := [(900, .rc [.imm y2_ r3_.2.1, .int .i64 r3_.2.2])]) rfl rfl ⟨⟨.inl rfl, rfl, trivial⟩, trivial⟩ ⟨⟨⟨rfl, rfl⟩, rfl⟩, .inl rfl, trivial⟩), he⟩
 ·have he := ok_some he
  exact ⟨rfl, _, _, (leads_ren [(900, 4)] (l := [(4, .c (.ptr 900 0)), (5, .c (.bool false))]) (st' := [(900, .rc [.imm y2_ ([] : List D2_), .int .i64 (0:Int)])]) rfl rfl ⟨⟨.inr (.inl ⟨rfl, rfl⟩), rfl, trivial⟩, trivial⟩ ⟨⟨⟨rfl, rfl⟩, rfl⟩, .inr rfl, trivial⟩), he⟩

noncomputable def c_impl_SaturateConstraint : Con := fun args st => match args, st with
  | [.agg [.imm (.pair (.int .i64) (.int .i64)) c__0, .int .i64 c__1]], [] => .opt (Bool × Int × (List D2_)) (impl_SaturateConstraint (c__0, c__1)) (fun r => .ret (.tup [.agg [.own 901 false, .int .i64 r.2.1], .c (.bool r.1)]) [(900, .rc [.own 901 false, .int .i64 r.2.1]), (901, .sl 155 y2_ r.2.2 .shallow)])
  | _, _ => .fail

noncomputable def C_impl_SaturateConstraint : Cfg := { y := tys, n := 39, h := 0, tab := [(223, c_impl_ConstraintValid)], cut := [], hand := [], good := [], deep := [], sched := [] }

theorem t_impl_SaturateConstraint : TabOk Tryz.prog C_impl_SaturateConstraint := by
  refine tabOk_of ?_
  simp only [C_impl_SaturateConstraint, List.forall_mem_cons]
  exact ⟨k_impl_ConstraintValid, fun p h => by cases h⟩

theorem k_impl_SaturateConstraint : Entry Tryz.prog 264 c_impl_SaturateConstraint := by
 refine entry_by (C := C_impl_SaturateConstraint) mixed tys_ok t_impl_SaturateConstraint (fn := Tryz.f264) (c := bd Tryz.f264) (by kernel_rfl) (by kernel_rfl) (by kernel_rfl) (by kernel_rfl) ?_
 intro args st k he
 unfold c_impl_SaturateConstraint at he
 split at he
 rotate_left
 ·exact he.elim
 rename_i c__0 c__1
 have he : Ok (impl_SaturateConstraint (c__0, c__1)) (fun r => k (.tup [.agg [.own 901 false, .int .i64 r.2.1], .c (.bool r.1)]) [(900, .rc [.own 901 false, .int .i64 r.2.1]), (901, .sl 155 y2_ r.2.2 .shallow)]) := he
 refine ⟨rfl, rfl, ?_⟩
 refine go_bind he fun r1_ he => ?_
 refine go_if he (fun he => ?_) fun he => ?_
 ·have he := ok_some he
  exact ⟨rfl, _, _, (leads_ren [(900, 2)] (l := [(2, .c (.ptr 900 0)), (3, .c (.bool false))]) (st' := [(900, .rc [.own 901 false, .int .i64 (0:Int)]), (901, .sl 155 y2_ ([] : List D2_) .shallow)]) rfl rfl ⟨⟨⟨rfl, trivial⟩, rfl, trivial⟩, trivial, trivial⟩ ⟨⟨⟨rfl, rfl⟩, rfl⟩, .inr rfl, trivial⟩), he⟩
 ·refine go_if he (fun he => ?_) fun he => ?_
  ·refine loop_model mixed tys_ok t_impl_SaturateConstraint (S := Int × (List D2_)) (I := (fun (i, out_0) => (envOf [(1, .c (.ptr 10000000 0)), (2, .c (.ptr 10000001 0)), (4, .c (.ptr 10000002 0)), (18, .c (.imm y2_ (c__0, c__1).1)), (19, .c (.int .i64 ((c__0, c__1).1.length:Int))), (20, .c (.int .i64 i))], [(10000000, .rc [.imm y2_ (c__0, c__1).1, .int .i64 (c__0, c__1).2]), (10000001, .rc [.nil, .int .i64 (0:Int)]), (10000002, .rc [.own 10000003 false, .int .i64 (c__0, c__1).2]), (10000003, .sl 155 y2_ out_0 .shallow)]))) (f := impl_SaturateConstraint_l1 (c__0, c__1)) (K := (fun r => k (.tup [.agg [.own 901 false, .int .i64 r.2.1], .c (.bool r.1)]) [(900, .rc [.own 901 false, .int .i64 r.2.1]), (901, .sl 155 y2_ r.2.2 .shallow)])) he (leads_ren [(10000000, 1), (10000001, 2), (10000002, 4)] rfl rfl ⟨⟨.inl rfl, rfl, trivial⟩, ⟨rfl, rfl, trivial⟩, ⟨⟨rfl, trivial⟩, rfl, trivial⟩, trivial, trivial⟩ ⟨⟨⟨rfl, rfl⟩, rfl⟩, ⟨⟨rfl, rfl⟩, rfl⟩, ⟨⟨rfl, rfl⟩, rfl⟩, .inl rfl, rfl, rfl, trivial⟩) ?_
   rintro ⟨i, out_0⟩ J1 he
   refine go_if he (fun he => ?_) fun he => ?_
   ·refine go_rq he fun he => ?_
    refine go_rq he fun he => ?_
    refine go_rq he fun he => ?_
    have he := ok_some he
    exact ⟨((i + (1:Int)), (out_0 ++ [((min ((c__0, c__1).1.getD i.toNat (0, 0)).1 (c__0, c__1).2), ((c__0, c__1).1.getD i.toNat (0, 0)).2)])), he, (leads_ren [(10000003, 35)] rfl rfl ⟨⟨.inl rfl, rfl, trivial⟩, ⟨rfl, rfl, trivial⟩, ⟨⟨⟨rfl, rfl⟩, trivial⟩, rfl, trivial⟩, ⟨rfl, rfl⟩, trivial⟩ ⟨⟨⟨rfl, rfl⟩, rfl⟩, ⟨⟨rfl, rfl⟩, rfl⟩, ⟨⟨rfl, rfl⟩, rfl⟩, .inl rfl, rfl, rfl, trivial⟩)⟩
   ·have he := ok_some he
    exact ⟨rfl, _, _, (leads_ren [(900, 10000001), (901, 10000003)] (l := [(2, .c (.ptr 900 0)), (3, .c (.bool true))]) (st' := [(900, .rc [.own 901 false, .int .i64 (c__0, c__1).2]), (901, .sl 155 y2_ out_0 .shallow)]) rfl rfl ⟨⟨⟨⟨rfl, rfl⟩, trivial⟩, rfl, trivial⟩, ⟨rfl, rfl⟩, trivial⟩ ⟨⟨⟨rfl, rfl⟩, rfl⟩, .inr rfl, trivial⟩), he⟩
  ·have he := ok_some he
   exact ⟨rfl, _, _, (leads_ren [(900, 2)] (l := [(2, .c (.ptr 900 0)), (3, .c (.bool true))]) (st' := [(900, .rc [.own 901 false, .int .i64 (c__0, c__1).2]), (901, .sl 155 y2_ ([] : List D2_) .shallow)]) rfl rfl ⟨⟨⟨rfl, trivial⟩, rfl, trivial⟩, trivial, trivial⟩ ⟨⟨⟨rfl, rfl⟩, rfl⟩, .inr rfl, trivial⟩), he⟩

noncomputable def c_impl_WeakenConstraint : Con := fun args st => match args, st with
  | [.agg [.imm (.pair (.int .i64) (.int .i64)) c__0, .int .i64 c__1], .c (.int .i64 variable_)], [] => .opt (Bool × Int × (List D2_)) (impl_WeakenConstraint (c__0, c__1) variable_) (fun r => .ret (.tup [.agg [.own 901 false, .int .i64 r.2.1], .c (.bool r.1)]) [(900, .rc [.own 901 false, .int .i64 r.2.1]), (901, .sl 155 y2_ r.2.2 .shallow)])
  | _, _ => .fail

noncomputable def C_impl_WeakenConstraint : Cfg := { y := tys, n := 48, h := 0, tab := [(127, c_impl_within), (170, c_impl_variableOf), (223, c_impl_ConstraintValid)], cut := [], hand := [], good := [], deep := [], sched := [] }

theorem t_impl_WeakenConstraint : TabOk Tryz.prog C_impl_WeakenConstraint := by
  refine tabOk_of ?_
  simp only [C_impl_WeakenConstraint, List.forall_mem_cons]
  exact ⟨k_impl_within, k_impl_variableOf, k_impl_ConstraintValid, fun p h => by cases h⟩

theorem k_impl_WeakenConstraint : Entry Tryz.prog 265 c_impl_WeakenConstraint := by
 refine entry_by (C := C_impl_WeakenConstraint) mixed tys_ok t_impl_WeakenConstraint (fn := Tryz.f265) (c := bd Tryz.f265) (by kernel_rfl) (by kernel_rfl) (by kernel_rfl) (by kernel_rfl) ?_
 intro args st k he
 unfold c_impl_WeakenConstraint at he
 split at he
 rotate_left
 ·exact he.elim
 rename_i c__0 c__1 variable_
 have he : Ok (impl_WeakenConstraint (c__0, c__1) variable_) (fun r => k (.tup [.agg [.own 901 false, .int .i64 r.2.1], .c (.bool r.1)]) [(900, .rc [.own 901 false, .int .i64 r.2.1]), (901, .sl 155 y2_ r.2.2 .shallow)]) := he
 refine ⟨rfl, rfl, ?_⟩
 refine go_bind he fun r1_ he => ?_
 refine go_if2 he (fun he => ?_) fun he => ?_
 ·refine go_bind he fun r2_ he => ?_
  refine go_if he (fun he => ?_) fun he => ?_
  ·have he := ok_some he
   exact ⟨rfl, _, _, (leads_ren [(900, 4)] (l := [(4, .c (.ptr 900 0)), (5, .c (.bool false))]) (st' := [(900, .rc [.own 901 false, .int .i64 (0:Int)]), (901, .sl 155 y2_ ([] : List D2_) .shallow)]) rfl rfl ⟨⟨⟨rfl, trivial⟩, rfl, trivial⟩, trivial, trivial⟩ ⟨⟨⟨rfl, rfl⟩, rfl⟩, .inr rfl, trivial⟩), he⟩
  ·refine loop_model mixed tys_ok t_impl_WeakenConstraint (S := Int × Int × (List D2_)) (I := (fun (i, out_1, out_0) => (envOf [(1, .c (.int .i64 variable_)), (2, .c (.ptr 10000000 0)), (4, .c (.ptr 10000001 0)), (6, .c (.ptr 10000002 0)), (22, .c (.imm y2_ (c__0, c__1).1)), (23, .c (.int .i64 ((c__0, c__1).1.length:Int))), (24, .c (.int .i64 i))], [(10000000, .rc [.imm y2_ (c__0, c__1).1, .int .i64 (c__0, c__1).2]), (10000001, .rc [.nil, .int .i64 (0:Int)]), (10000002, .rc [.own 10000003 false, .int .i64 out_1]), (10000003, .sl 155 y2_ out_0 .shallow)]))) (f := impl_WeakenConstraint_l1 (c__0, c__1) variable_) (K := (fun r => k (.tup [.agg [.own 901 false, .int .i64 r.2.1], .c (.bool r.1)]) [(900, .rc [.own 901 false, .int .i64 r.2.1]), (901, .sl 155 y2_ r.2.2 .shallow)])) he (leads_ren [(10000000, 2), (10000001, 4), (10000002, 6)] rfl rfl ⟨⟨.inl rfl, rfl, trivial⟩, ⟨rfl, rfl, trivial⟩, ⟨⟨rfl, trivial⟩, rfl, trivial⟩, trivial, trivial⟩ ⟨rfl, ⟨⟨rfl, rfl⟩, rfl⟩, ⟨⟨rfl, rfl⟩, rfl⟩, ⟨⟨rfl, rfl⟩, rfl⟩, .inl rfl, rfl, rfl, trivial⟩) ?_
   rintro ⟨i, out_1, out_0⟩ J1 he
   refine go_if he (fun he => ?_) fun he => ?_
   ·refine go_rq he fun he => ?_
    refine go_bind he fun r4_ he => ?_
    refine go_if he (fun he => ?_) fun he => ?_
    ·refine go_rq he fun he => ?_
     refine go_rq he fun he => ?_
     have he := ok_some he
     exact ⟨((i + (1:Int)), (max (0:Int) ((c__0, c__1).2 - ((c__0, c__1).1.getD i.toNat (0, 0)).1)), out_0), he, (leads_ren [] rfl rfl ⟨⟨.inl rfl, rfl, trivial⟩, ⟨rfl, rfl, trivial⟩, ⟨⟨⟨rfl, rfl⟩, trivial⟩, rfl, trivial⟩, ⟨rfl, rfl⟩, trivial⟩ ⟨rfl, ⟨⟨rfl, rfl⟩, rfl⟩, ⟨⟨rfl, rfl⟩, rfl⟩, ⟨⟨rfl, rfl⟩, rfl⟩, .inl rfl, rfl, rfl, trivial⟩)⟩
    ·refine go_rq he fun he => ?_
     refine go_rq he fun he => ?_
     have he := ok_some he
     exact ⟨((i + (1:Int)), out_1, (out_0 ++ [((c__0, c__1).1.getD i.toNat (0, 0))])), he, (leads_ren [(10000003, 44)] rfl rfl ⟨⟨.inl rfl, rfl, trivial⟩, ⟨rfl, rfl, trivial⟩, ⟨⟨⟨rfl, rfl⟩, trivial⟩, rfl, trivial⟩, ⟨rfl, rfl⟩, trivial⟩ ⟨rfl, ⟨⟨rfl, rfl⟩, rfl⟩, ⟨⟨rfl, rfl⟩, rfl⟩, ⟨⟨rfl, rfl⟩, rfl⟩, .inl rfl, rfl, rfl, trivial⟩)⟩
   ·have he := ok_some he
    exact ⟨rfl, _, _, (leads_ren [(900, 10000001), (901, 10000003)] (l := [(4, .c (.ptr 900 0)), (5, .c (.bool true))]) (st' := [(900, .rc [.own 901 false, .int .i64 out_1]), (901, .sl 155 y2_ out_0 .shallow)]) rfl rfl ⟨⟨⟨⟨rfl, rfl⟩, trivial⟩, rfl, trivial⟩, ⟨rfl, rfl⟩, trivial⟩ ⟨⟨⟨rfl, rfl⟩, rfl⟩, .inr rfl, trivial⟩), he⟩
 ·have he := ok_some he
  exact ⟨rfl, _, _, (leads_ren [(900, 4)] (l := [(4, .c (.ptr 900 0)), (5, .c (.bool false))]) (st' := [(900, .rc [.own 901 false, .int .i64 (0:Int)]), (901, .sl 155 y2_ ([] : List D2_) .shallow)]) rfl rfl ⟨⟨⟨rfl, trivial⟩, rfl, trivial⟩, trivial, trivial⟩ ⟨⟨⟨rfl, rfl⟩, rfl⟩, .inr rfl, trivial⟩), he⟩

noncomputable def c_impl_LiteralAxiom : Con := fun args st => match args, st with
  | [.c (.int .i64 lit)], [] => .opt (Bool × Int × (List D2_)) (impl_LiteralAxiom lit) (fun r => .ret (.tup [.agg [.own 901 false, .int .i64 r.2.1], .c (.bool r.1)]) [(900, .rc [.own 901 false, .int .i64 r.2.1]), (901, .sl 155 y2_ r.2.2 .shallow)])
  | _, _ => .fail

noncomputable def C_impl_LiteralAxiom : Cfg := { y := tys, n := 12, h := 0, tab := [(177, c_impl_isLiteral)], cut := [], hand := [], good := [], deep := [], sched := [] }

theorem t_impl_LiteralAxiom : TabOk Tryz.prog C_impl_LiteralAxiom := by
  refine tabOk_of ?_
  simp only [C_impl_LiteralAxiom, List.forall_mem_cons]
  exact ⟨k_impl_isLiteral, fun p h => by cases h⟩

theorem k_impl_LiteralAxiom : Entry Tryz.prog 266 c_impl_LiteralAxiom := by
 refine entry_by (C := C_impl_LiteralAxiom) mixed tys_ok t_impl_LiteralAxiom (fn := Tryz.f266) (c := bd Tryz.f266) (by kernel_rfl) (by kernel_rfl) (by kernel_rfl) (by kernel_rfl) ?_
 intro args st k he
 unfold c_impl_LiteralAxiom at he
 split at he
 rotate_left
 ·exact he.elim
 rename_i lit
 have he : Ok (impl_LiteralAxiom lit) (fun r => k (.tup [.agg [.own 901 false, .int .i64 r.2.1], .c (.bool r.1)]) [(900, .rc [.own 901 false, .int .i64 r.2.1]), (901, .sl 155 y2_ r.2.2 .shallow)]) := he
 refine ⟨rfl, rfl, ?_⟩
 refine go_bind he fun r1_ he => ?_
 refine go_if he (fun he => ?_) fun he => ?_
 ·have he := ok_some he
  exact ⟨rfl, _, _, (leads_ren [(900, 2)] (l := [(2, .c (.ptr 900 0)), (3, .c (.bool false))]) (st' := [(900, .rc [.own 901 false, .int .i64 (0:Int)]), (901, .sl 155 y2_ ([] : List D2_) .shallow)]) rfl rfl ⟨⟨⟨rfl, trivial⟩, rfl, trivial⟩, trivial, trivial⟩ ⟨⟨⟨rfl, rfl⟩, rfl⟩, .inr rfl, trivial⟩), he⟩
 ·have he := ok_some he
  exact ⟨rfl, _, _, (leads_ren [(900, 2), (901, 10)] (l := [(2, .c (.ptr 900 0)), (3, .c (.bool true))]) (st' := [(900, .rc [.own 901 false, .int .i64 (0:Int)]), (901, .sl 155 y2_ [((1:Int), lit)] .shallow)]) rfl rfl ⟨⟨⟨⟨rfl, rfl⟩, trivial⟩, rfl, trivial⟩, ⟨rfl, rfl⟩, trivial⟩ ⟨⟨⟨rfl, rfl⟩, rfl⟩, .inr rfl, trivial⟩), he⟩

noncomputable def c_impl_running_left__Rss : Con := fun args st => match args, st with
  | [.c (.ptr 0 0)], [(0, .rc [.own 1 false, .own 2 false]), (1, .sl 89 (.pair (.sl (.pair (.int .i64) (.int .i64))) (.int .i64)) o1 .shallow), (2, .sl 4 .bool o2 .shallow)] => .opt ((List D3_)) (impl_running_left__Rss o1 o2) (fun r => .ret (.c (.own 900 false)) [(0, .rc [.own 1 false, .own 2 false]), (1, .sl 89 y3_ o1 .shallow), (2, .sl 4 .bool o2 .shallow), (900, .sl 89 y3_ r .shallow)])
  | _, _ => .fail

noncomputable def C_impl_running_left__Rss : Cfg := { y := tys, n := 30, h := 3, tab := [], cut := [], hand := [], good := [], deep := [], sched := [] }

theorem t_impl_running_left__Rss : TabOk Tryz.prog C_impl_running_left__Rss := tabOk_of (fun p h => by cases h)

theorem k_impl_running_left__Rss : Entry Tryz.prog 268 c_impl_running_left__Rss := by
 refine entry_by (C := C_impl_running_left__Rss) mixed tys_ok t_impl_running_left__Rss (fn := Tryz.f268) (c := bd Tryz.f268) (by kernel_rfl) (by kernel_rfl) (by kernel_rfl) (by kernel_rfl) ?_
 intro args st k he
 unfold c_impl_running_left__Rss at he
 split at he
 rotate_left
 ·exact he.elim
 rename_i o1 o2
 have he : Ok (impl_running_left__Rss o1 o2) (fun r => k (.c (.own 900 false)) [(0, .rc [.own 1 false, .own 2 false]), (1, .sl 89 y3_ o1 .shallow), (2, .sl 4 .bool o2 .shallow), (900, .sl 89 y3_ r .shallow)]) := he
 refine ⟨rfl, rfl, ?_⟩
 refine loop_model mixed tys_ok t_impl_running_left__Rss (S := Int × (List D3_)) (I := (fun (i, out) => (envOf [(0, .c (.ptr 0 0)), (3, .c (.own 10000000 false)), (9, .c (.own 1 false)), (10, .c (.int .i64 (o1.length:Int))), (11, .c (.int .i64 i))], [(0, .rc [.own 1 false, .own 2 false]), (1, .sl 89 y3_ o1 .shallow), (2, .sl 4 .bool o2 .shallow), (10000000, .sl 89 y3_ out .shallow)]))) (f := impl_running_left__Rss_l1 o1 o2) (K := (fun r => k (.c (.own 900 false)) [(0, .rc [.own 1 false, .own 2 false]), (1, .sl 89 y3_ o1 .shallow), (2, .sl 4 .bool o2 .shallow), (900, .sl 89 y3_ r .shallow)])) he (leads_ren [] rfl rfl ⟨⟨⟨⟨rfl, rfl⟩, trivial⟩, ⟨⟨rfl, rfl⟩, trivial⟩, trivial⟩, ⟨rfl, rfl⟩, ⟨rfl, rfl⟩, trivial, trivial⟩ ⟨⟨⟨rfl, rfl⟩, rfl⟩, ⟨rfl, trivial⟩, ⟨⟨rfl, rfl⟩, trivial⟩, rfl, rfl, trivial⟩) ?_
 rintro ⟨i, out⟩ J1 he
 refine go_if he (fun he => ?_) fun he => ?_
 ·refine go_rq he fun he => ?_
  refine go_rq he fun he => ?_
  refine go_if he (fun he => ?_) fun he => ?_
  ·refine go_rq he fun he => ?_
   refine go_rq he fun he => ?_
   have he := ok_some he
   exact ⟨((i + (1:Int)), (out ++ [(o1.getD i.toNat ([], 0))])), he, (leads_ren [(10000000, 27)] rfl rfl ⟨⟨⟨⟨rfl, rfl⟩, trivial⟩, ⟨⟨rfl, rfl⟩, trivial⟩, trivial⟩, ⟨rfl, rfl⟩, ⟨rfl, rfl⟩, ⟨rfl, rfl⟩, trivial⟩ ⟨⟨⟨rfl, rfl⟩, rfl⟩, ⟨⟨rfl, rfl⟩, trivial⟩, ⟨⟨rfl, rfl⟩, trivial⟩, rfl, rfl, trivial⟩)⟩
  ·refine go_rq he fun he => ?_
   have he := ok_some he
   exact ⟨((i + (1:Int)), out), he, (leads_ren [] rfl rfl ⟨⟨⟨⟨rfl, rfl⟩, trivial⟩, ⟨⟨rfl, rfl⟩, trivial⟩, trivial⟩, ⟨rfl, rfl⟩, ⟨rfl, rfl⟩, ⟨rfl, rfl⟩, trivial⟩ ⟨⟨⟨rfl, rfl⟩, rfl⟩, ⟨⟨rfl, rfl⟩, trivial⟩, ⟨⟨rfl, rfl⟩, trivial⟩, rfl, rfl, trivial⟩)⟩
 ·have he := ok_some he
  exact ⟨rfl, _, _, (leads_ren [(900, 10000000)] (l := [(2, .c (.own 900 false))]) (st' := [(0, .rc [.own 1 false, .own 2 false]), (1, .sl 89 y3_ o1 .shallow), (2, .sl 4 .bool o2 .shallow), (900, .sl 89 y3_ out .shallow)]) rfl rfl ⟨⟨⟨⟨rfl, rfl⟩, trivial⟩, ⟨⟨rfl, rfl⟩, trivial⟩, trivial⟩, ⟨rfl, rfl⟩, ⟨rfl, rfl⟩, ⟨rfl, rfl⟩, trivial⟩ ⟨⟨⟨rfl, rfl⟩, trivial⟩, trivial⟩), he⟩

noncomputable def c_impl_Constraint_total : Con := fun args st => match args, st with
  | [.agg [.imm (.pair (.int .i64) (.int .i64)) c__0, .int .i64 c__1]], [] => .opt (Int) (impl_Constraint_total (c__0, c__1)) (fun r => .ret (.c (.int .i64 r)) [])
  | _, _ => .fail

noncomputable def C_impl_Constraint_total : Cfg := { y := tys, n := 19, h := 0, tab := [], cut := [], hand := [], good := [], deep := [], sched := [] }

theorem t_impl_Constraint_total : TabOk Tryz.prog C_impl_Constraint_total := tabOk_of (fun p h => by cases h)

theorem k_impl_Constraint_total : Entry Tryz.prog 236 c_impl_Constraint_total := by
 refine entry_by (C := C_impl_Constraint_total) mixed tys_ok t_impl_Constraint_total (fn := Tryz.f236) (c := bd Tryz.f236) (by kernel_rfl) (by kernel_rfl) (by kernel_rfl) (by kernel_rfl) ?_
 intro args st k he
 unfold c_impl_Constraint_total at he
 split at he
 rotate_left
 ·exact he.elim
 rename_i c__0 c__1
 have he : Ok (impl_Constraint_total (c__0, c__1)) (fun r => k (.c (.int .i64 r)) []) := he
 refine ⟨rfl, rfl, ?_⟩
 refine loop_model mixed tys_ok t_impl_Constraint_total (S := Int × Int) (I := (fun (sum, i) => (envOf [(3, .c (.int .i64 sum)), (7, .c (.imm y2_ (c__0, c__1).1)), (8, .c (.int .i64 ((c__0, c__1).1.length:Int))), (9, .c (.int .i64 i))], []))) (f := impl_Constraint_total_l1 (c__0, c__1)) (K := (fun r => k (.c (.int .i64 r)) [])) he (leads_ren [] rfl rfl trivial ⟨rfl, .inl rfl, rfl, rfl, trivial⟩) ?_
 rintro ⟨sum, i⟩ J1 he
 refine go_if he (fun he => ?_) fun he => ?_
 ·refine go_rq he fun he => ?_
  refine go_rq he fun he => ?_
  refine go_rq he fun he => ?_
  have he := ok_some he
  exact ⟨((sum + ((c__0, c__1).1.getD i.toNat (0, 0)).1), (i + (1:Int))), he, (leads_ren [] rfl rfl trivial ⟨rfl, .inl rfl, rfl, rfl, trivial⟩)⟩
 ·have he := ok_some he
  exact ⟨rfl, _, _, Leads.refl _ _, he⟩

noncomputable def c_impl_Constraint_negation : Con := fun args st => match args, st with
  | [.agg [.imm (.pair (.int .i64) (.int .i64)) c__0, .int .i64 c__1]], [] => .opt (Int × (List D2_)) (impl_Constraint_negation (c__0, c__1)) (fun r => .ret (.agg [.own 901 false, .int .i64 r.1]) [(900, .rc [.own 901 false, .int .i64 r.1]), (901, .sl 155 y2_ r.2 .shallow)])
  | _, _ => .fail

noncomputable def C_impl_Constraint_negation : Cfg := { y := tys, n := 34, h := 0, tab := [(236, c_impl_Constraint_total)], cut := [1, 2, 5], hand := [], good := [], deep := [], sched := [(1, (.first 0 (.first 2 (.first 3 (.alt 1 (.first 4 (.first 5 (.alt 6 (.alt 7 (.alt 8 (.alt 9 .done .stop) .stop) (.alt 8 (.alt 7 (.alt 9 .done .stop) .stop) .stop)) (.alt 8 (.alt 6 (.alt 7 (.alt 9 .done .stop) .stop) .stop) .stop)))) (.alt 8 (.alt 1 (.first 4 (.first 5 (.alt 6 (.alt 7 (.alt 9 .done .stop) .stop) .stop))) .stop) .stop))))))] }

theorem t_impl_Constraint_negation : TabOk Tryz.prog C_impl_Constraint_negation := by
  refine tabOk_of ?_
  simp only [C_impl_Constraint_negation, List.forall_mem_cons]
  exact ⟨k_impl_Constraint_total, fun p h => by cases h⟩

theorem k_impl_Constraint_negation : Entry Tryz.prog 294 c_impl_Constraint_negation := by
 refine entry_by (C := C_impl_Constraint_negation) mixed tys_ok t_impl_Constraint_negation (fn := Tryz.f294) (c := bd Tryz.f294) (by kernel_rfl) (by kernel_rfl) (by kernel_rfl) (by kernel_rfl) ?_
 intro args st k he
 unfold c_impl_Constraint_negation at he
 split at he
 rotate_left
 ·exact he.elim
 rename_i c__0 c__1
 have he : Ok (impl_Constraint_negation (c__0, c__1)) (fun r => k (.agg [.own 901 false, .int .i64 r.1]) [(900, .rc [.own 901 false, .int .i64 r.1]), (901, .sl 155 y2_ r.2 .shallow)]) := he
 refine ⟨rfl, rfl, ?_⟩
 refine seq_model mixed tys_ok t_impl_Constraint_negation (S := Unit) (I := (fun _ => (envOf [(1, .c (.iptr y3_ (c__0, c__1) 0)), (2, .c (.ptr 10000000 0))], [(10000000, .rc [.nil, .int .i64 (0:Int)])]))) (B := fun s => Ok (impl_Constraint_negation_j1 (c__0, c__1) s) (fun r => k (.agg [.own 901 false, .int .i64 r.1]) [(900, .rc [.own 901 false, .int .i64 r.1]), (901, .sl 155 y2_ r.2 .shallow)])) ?_ ?_
 ·rintro ⟨⟩ he
  refine seq_model mixed tys_ok t_impl_Constraint_negation (S := Int) (I := (fun out_1 => (envOf [(1, .c (.iptr y3_ (c__0, c__1) 0)), (2, .c (.ptr 10001000 0)), (3, .c (.ptr 10001001 0))], [(10001000, .rc [.nil, .int .i64 (0:Int)]), (10001001, .rc [.nil, .int .i64 out_1])]))) (B := fun s => Ok (impl_Constraint_negation_j2 (c__0, c__1) s) (fun r => k (.agg [.own 901 false, .int .i64 r.1]) [(900, .rc [.own 901 false, .int .i64 r.1]), (901, .sl 155 y2_ r.2 .shallow)])) ?_ ?_
  ·rintro out_1 he
   refine loop_model mixed tys_ok t_impl_Constraint_negation (S := Int × (List D2_)) (I := (fun (i, out_0) => (envOf [(2, .c (.ptr 10002000 0)), (3, .c (.ptr 10002001 0)), (15, .c (.imm y2_ (c__0, c__1).1)), (16, .c (.int .i64 ((c__0, c__1).1.length:Int))), (17, .c (.int .i64 i))], [(10002000, .rc [.nil, .int .i64 (0:Int)]), (10002001, .rc [.own 10002002 false, .int .i64 out_1]), (10002002, .sl 155 y2_ out_0 .shallow)]))) (f := impl_Constraint_negation_l1 (c__0, c__1) out_1) (K := (fun r => k (.agg [.own 901 false, .int .i64 r.1]) [(900, .rc [.own 901 false, .int .i64 r.1]), (901, .sl 155 y2_ r.2 .shallow)])) he (leads_ren [(10002000, 10001000), (10002001, 10001001)] rfl rfl ⟨⟨rfl, rfl, trivial⟩, ⟨⟨rfl, trivial⟩, rfl, trivial⟩, trivial, trivial⟩ ⟨⟨⟨rfl, rfl⟩, rfl⟩, ⟨⟨rfl, rfl⟩, rfl⟩, .inl rfl, rfl, rfl, trivial⟩) ?_
   rintro ⟨i, out_0⟩ J1 he
   refine go_if he (fun he => ?_) fun he => ?_
   ·refine seq_model mixed tys_ok t_impl_Constraint_negation (S := Unit) (I := (fun _ => (envOf [(2, .c (.ptr 10004000 0)), (3, .c (.ptr 10004001 0)), (5, .c (.iptr y2_ ((c__0, c__1).1.getD i.toNat (0, 0)) 0)), (15, .c (.imm y2_ (c__0, c__1).1)), (16, .c (.int .i64 ((c__0, c__1).1.length:Int))), (17, .c (.int .i64 i))], [(10004000, .rc [.nil, .int .i64 (0:Int)]), (10004001, .rc [.own 10004002 false, .int .i64 out_1]), (10004002, .sl 155 y2_ out_0 .shallow)]))) (B := fun s => Ok (impl_Constraint_negation_j3 (c__0, c__1) i out_0 s) (LK J1 (fun r => k (.agg [.own 901 false, .int .i64 r.1]) [(900, .rc [.own 901 false, .int .i64 r.1]), (901, .sl 155 y2_ r.2 .shallow)]))) ?_ ?_
    ·rintro ⟨⟩ he
     refine go_rq he fun he => ?_
     refine go_rq he fun he => ?_
     refine go_rq he fun he => ?_
     have he := ok_some he
     exact ⟨((i + (1:Int)), (out_0 ++ [(((c__0, c__1).1.getD i.toNat (0, 0)).1, (0 - ((c__0, c__1).1.getD i.toNat (0, 0)).2))])), he, (leads_ren [(10002000, 10004000), (10002001, 10004001), (10002002, 30)] rfl rfl ⟨⟨rfl, rfl, trivial⟩, ⟨⟨⟨rfl, rfl⟩, trivial⟩, rfl, trivial⟩, ⟨rfl, rfl⟩, trivial⟩ ⟨⟨⟨rfl, rfl⟩, rfl⟩, ⟨⟨rfl, rfl⟩, rfl⟩, .inl rfl, rfl, rfl, trivial⟩)⟩
    ·skip
     refine go_rq he fun he => ?_
     exact ⟨(), he, (leads_ren [(10004000, 10002000), (10004001, 10002001), (10004002, 10002002)] rfl rfl ⟨⟨rfl, rfl, trivial⟩, ⟨⟨⟨rfl, rfl⟩, trivial⟩, rfl, trivial⟩, ⟨rfl, rfl⟩, trivial⟩ ⟨⟨⟨rfl, rfl⟩, rfl⟩, ⟨⟨rfl, rfl⟩, rfl⟩, .inr ⟨5, rfl, ⟨rfl, by repeat (first | exact trivial | refine And.intro trivial ?_)⟩, rfl⟩, .inl rfl, rfl, rfl, trivial⟩)⟩
   ·have he := ok_some he
    exact ⟨rfl, _, _, (leads_ren [(900, 10002000), (901, 10002002)] (l := [(2, .c (.ptr 900 0))]) (st' := [(900, .rc [.own 901 false, .int .i64 out_1]), (901, .sl 155 y2_ out_0 .shallow)]) rfl rfl ⟨⟨⟨⟨rfl, rfl⟩, trivial⟩, rfl, trivial⟩, ⟨rfl, rfl⟩, trivial⟩ ⟨⟨⟨rfl, rfl⟩, rfl⟩, trivial⟩), he⟩
  ·skip
   refine And.intro (by kernel_rfl) ?_
   obtain ⟨r2_, hq1, he⟩ := ok_bind he
   have he := ok_rq he
   have hq2 := he.1
   have he := he.2
   have he := ok_rq he
   have hq3 := he.1
   have he := he.2
   refine And.intro ?_ (And.intro ?_ (trivial))
   ·skip
    refine ⟨r2_, hq1, ?_⟩
    refine And.intro hq2 ?_
    refine And.intro hq3 ?_
    refine And.intro ?_ (And.intro ?_ (trivial))
    ·skip
     refine And.intro ?_ (And.intro ?_ (trivial))
     ·skip
      refine And.intro ?_ trivial
      refine And.intro ?_ trivial
      exact ⟨(max (0:Int) ((r2_ - (c__0, c__1).2) + (1:Int))), he, (leads_ren [(10001000, 10000000), (10001001, 3)] rfl rfl ⟨⟨rfl, rfl, trivial⟩, ⟨rfl, rfl, trivial⟩, trivial⟩ ⟨.inl rfl, ⟨⟨rfl, rfl⟩, rfl⟩, ⟨⟨rfl, rfl⟩, rfl⟩, trivial⟩)⟩
     ·skip
      refine And.intro ?_ trivial
      refine And.intro ?_ trivial
      exact ⟨(max (0:Int) ((r2_ - (c__0, c__1).2) + (1:Int))), he, (leads_ren [(10001000, 10000000), (10001001, 3)] rfl rfl ⟨⟨rfl, rfl, trivial⟩, ⟨rfl, rfl, trivial⟩, trivial⟩ ⟨.inl rfl, ⟨⟨rfl, rfl⟩, rfl⟩, ⟨⟨rfl, rfl⟩, rfl⟩, trivial⟩)⟩
    ·skip
     refine And.intro ?_ trivial
     refine And.intro ?_ trivial
     refine And.intro ?_ trivial
     exact ⟨(max (0:Int) ((r2_ - (c__0, c__1).2) + (1:Int))), he, (leads_ren [(10001000, 10000000), (10001001, 3)] rfl rfl ⟨⟨rfl, rfl, trivial⟩, ⟨rfl, rfl, trivial⟩, trivial⟩ ⟨.inl rfl, ⟨⟨rfl, rfl⟩, rfl⟩, ⟨⟨rfl, rfl⟩, rfl⟩, trivial⟩)⟩
   ·skip
    refine And.intro ?_ trivial
    refine ⟨r2_, hq1, ?_⟩
    refine And.intro hq2 ?_
    refine And.intro hq3 ?_
    refine And.intro ?_ trivial
    refine And.intro ?_ trivial
    refine And.intro ?_ trivial
    exact ⟨(max (0:Int) ((r2_ - (c__0, c__1).2) + (1:Int))), he, (leads_ren [(10001000, 10000000), (10001001, 3)] rfl rfl ⟨⟨rfl, rfl, trivial⟩, ⟨rfl, rfl, trivial⟩, trivial⟩ ⟨.inl rfl, ⟨⟨rfl, rfl⟩, rfl⟩, ⟨⟨rfl, rfl⟩, rfl⟩, trivial⟩)⟩
 ·skip
  exact ⟨(), he, (leads_ren [(10000000, 2)] rfl rfl ⟨⟨rfl, rfl, trivial⟩, trivial⟩ ⟨.inr ⟨1, rfl, ⟨rfl, by repeat (first | exact trivial | refine And.intro trivial ?_)⟩, rfl⟩, ⟨⟨rfl, rfl⟩, rfl⟩, trivial⟩)⟩

noncomputable def c_impl_rup : Con := fun args st => match args, st with
  | [.c (.imm (.pair (.sl (.pair (.int .i64) (.int .i64))) (.int .i64)) list_), .agg [.imm (.pair (.int .i64) (.int .i64)) c__0, .int .i64 c__1]], [] => .opt (Bool) (impl_rup list_ (c__0, c__1)) (fun r => .ret (.c (.bool r)) [])
  | _, _ => .fail

noncomputable def C_impl_rup : Cfg := { y := tys, n := 20, h := 0, tab := [(61, c_slices_Clone_impl_Constraint), (171, c_impl_propagate), (294, c_impl_Constraint_negation)], cut := [2], hand := [], good := [], deep := [], sched := [(1, (.first 0 (.alt 1 (.alt 2 (.alt 3 (.alt 4 (.alt 5 (.alt 6 (.alt 7 (.first 8 (.first 9 (.first 10 (.first 11 (.first 12 .done))))) .stop) .stop) (.alt 6 (.alt 5 (.alt 7 (.first 8 (.first 9 (.first 10 (.first 11 (.first 12 .done))))) .stop) .stop) .stop)) (.alt 6 (.alt 4 (.alt 5 (.alt 7 (.first 8 (.first 9 (.first 10 (.first 11 (.first 12 .done))))) .stop) .stop) .stop) .stop)) (.alt 6 (.alt 3 (.alt 4 (.alt 5 (.alt 7 (.first 8 (.first 9 (.first 10 (.first 11 (.first 12 .done))))) .stop) .stop) .stop) .stop) .stop)) (.alt 6 (.alt 2 (.alt 3 (.alt 4 (.alt 5 (.alt 7 (.first 8 (.first 9 (.first 10 (.first 11 (.first 12 .done))))) .stop) .stop) .stop) .stop) .stop) .stop)) (.alt 2 (.alt 1 (.alt 3 (.alt 4 (.alt 5 (.alt 6 (.alt 7 (.first 8 (.first 9 (.first 10 (.first 11 (.first 12 .done))))) .stop) .stop) (.alt 6 (.alt 5 (.alt 7 (.first 8 (.first 9 (.first 10 (.first 11 (.first 12 .done))))) .stop) .stop) .stop)) (.alt 6 (.alt 4 (.alt 5 (.alt 7 (.first 8 (.first 9 (.first 10 (.first 11 (.first 12 .done))))) .stop) .stop) .stop) .stop)) (.alt 6 (.alt 3 (.alt 4 (.alt 5 (.alt 7 (.first 8 (.first 9 (.first 10 (.first 11 (.first 12 .done))))) .stop) .stop) .stop) .stop) .stop)) (.alt 6 (.alt 1 (.alt 3 (.alt 4 (.alt 5 (.alt 7 (.first 8 (.first 9 (.first 10 (.first 11 (.first 12 .done))))) .stop) .stop) .stop) .stop) .stop) .stop)) (.alt 6 (.alt 1 (.alt 2 (.alt 3 (.alt 4 (.alt 5 (.alt 7 (.first 8 (.first 9 (.first 10 (.first 11 (.first 12 .done))))) .stop) .stop) .stop) .stop) .stop) (.alt 2 (.alt 1 (.alt 3 (.alt 4 (.alt 5 (.alt 7 (.first 8 (.first 9 (.first 10 (.first 11 (.first 12 .done))))) .stop) .stop) .stop) .stop) .stop) .stop)) .stop)))))] }

theorem t_impl_rup : TabOk Tryz.prog C_impl_rup := by
  refine tabOk_of ?_
  simp only [C_impl_rup, List.forall_mem_cons]
  exact ⟨k_slices_Clone_impl_Constraint, k_impl_propagate, k_impl_Constraint_negation, fun p h => by cases h⟩

theorem k_impl_rup : Entry Tryz.prog 267 c_impl_rup := by
 refine entry_by (C := C_impl_rup) mixed tys_ok t_impl_rup (fn := Tryz.f267) (c := bd Tryz.f267) (by kernel_rfl) (by kernel_rfl) (by kernel_rfl) (by kernel_rfl) ?_
 intro args st k he
 unfold c_impl_rup at he
 split at he
 rotate_left
 ·exact he.elim
 rename_i list_ c__0 c__1
 have he : Ok (impl_rup list_ (c__0, c__1)) (fun r => k (.c (.bool r)) []) := he
 refine ⟨rfl, rfl, ?_⟩
 refine seq_model mixed tys_ok t_impl_rup (S := Int) (I := (fun i => (envOf [(6, .c (.int .i64 i))], []))) (B := fun s => Ok (impl_rup_j1 s) (fun r => k (.c (.bool r)) [])) ?_ ?_
 ·rintro i he
  have he := ok_some he
  exact ⟨rfl, _, _, Leads.refl _ _, he⟩
 ·skip
  refine And.intro (by kernel_rfl) ?_
  obtain ⟨r4_, hq1, he⟩ := ok_bind he
  obtain ⟨r5_, hq2, he⟩ := ok_bind he
  have he := ok_rq he
  have hq3 := he.1
  have he := he.2
  have he := ok_rq he
  have hq4 := he.1
  have he := he.2
  obtain ⟨r6_, hq5, he⟩ := ok_bind he
  refine And.intro ?_ (And.intro ?_ (And.intro ?_ (trivial)))
  ·skip
   refine ⟨r4_, hq1, ?_⟩
   refine And.intro ?_ (And.intro ?_ (trivial))
   ·skip
    refine And.intro ?_ (And.intro ?_ (trivial))
    ·skip
     refine ⟨r5_, hq2, ?_⟩
     refine And.intro ?_ (And.intro ?_ (trivial))
     ·skip
      refine And.intro ?_ (And.intro ?_ (trivial))
      ·skip
       refine And.intro hq3 ?_
       refine And.intro ?_ trivial
       refine And.intro hq4 ?_
       refine And.intro ?_ trivial
       refine ⟨r6_, hq5, ?_⟩
       exact ⟨r6_.1, he, (leads_ren [] rfl rfl trivial ⟨rfl, trivial⟩)⟩
      ·skip
       refine And.intro hq4 ?_
       refine And.intro ?_ trivial
       refine And.intro hq3 ?_
       refine And.intro ?_ trivial
       refine ⟨r6_, hq5, ?_⟩
       exact ⟨r6_.1, he, (leads_ren [] rfl rfl trivial ⟨rfl, trivial⟩)⟩
     ·skip
      refine And.intro hq4 ?_
      refine And.intro ?_ trivial
      refine And.intro ?_ trivial
      refine And.intro hq3 ?_
      refine And.intro ?_ trivial
      refine ⟨r6_, hq5, ?_⟩
      exact ⟨r6_.1, he, (leads_ren [] rfl rfl trivial ⟨rfl, trivial⟩)⟩
    ·skip
     refine And.intro hq4 ?_
     refine And.intro ?_ trivial
     refine ⟨r5_, hq2, ?_⟩
     refine And.intro ?_ trivial
     refine And.intro ?_ trivial
     refine And.intro hq3 ?_
     refine And.intro ?_ trivial
     refine ⟨r6_, hq5, ?_⟩
     exact ⟨r6_.1, he, (leads_ren [] rfl rfl trivial ⟨rfl, trivial⟩)⟩
   ·skip
    refine And.intro hq4 ?_
    refine And.intro ?_ trivial
    refine And.intro ?_ trivial
    refine ⟨r5_, hq2, ?_⟩
    refine And.intro ?_ trivial
    refine And.intro ?_ trivial
    refine And.intro hq3 ?_
    refine And.intro ?_ trivial
    refine ⟨r6_, hq5, ?_⟩
    exact ⟨r6_.1, he, (leads_ren [] rfl rfl trivial ⟨rfl, trivial⟩)⟩
  ·skip
   refine And.intro ?_ (And.intro ?_ (trivial))
   ·skip
    refine ⟨r4_, hq1, ?_⟩
    refine And.intro ?_ (And.intro ?_ (trivial))
    ·skip
     refine ⟨r5_, hq2, ?_⟩
     refine And.intro ?_ (And.intro ?_ (trivial))
     ·skip
      refine And.intro ?_ (And.intro ?_ (trivial))
      ·skip
       refine And.intro hq3 ?_
       refine And.intro ?_ trivial
       refine And.intro hq4 ?_
       refine And.intro ?_ trivial
       refine ⟨r6_, hq5, ?_⟩
       exact ⟨r6_.1, he, (leads_ren [] rfl rfl trivial ⟨rfl, trivial⟩)⟩
      ·skip
       refine And.intro hq4 ?_
       refine And.intro ?_ trivial
       refine And.intro hq3 ?_
       refine And.intro ?_ trivial
       refine ⟨r6_, hq5, ?_⟩
       exact ⟨r6_.1, he, (leads_ren [] rfl rfl trivial ⟨rfl, trivial⟩)⟩
     ·skip
      refine And.intro hq4 ?_
      refine And.intro ?_ trivial
      refine And.intro ?_ trivial
      refine And.intro hq3 ?_
      refine And.intro ?_ trivial
      refine ⟨r6_, hq5, ?_⟩
      exact ⟨r6_.1, he, (leads_ren [] rfl rfl trivial ⟨rfl, trivial⟩)⟩
    ·skip
     refine And.intro hq4 ?_
     refine And.intro ?_ trivial
     refine ⟨r5_, hq2, ?_⟩
     refine And.intro ?_ trivial
     refine And.intro ?_ trivial
     refine And.intro hq3 ?_
     refine And.intro ?_ trivial
     refine ⟨r6_, hq5, ?_⟩
     exact ⟨r6_.1, he, (leads_ren [] rfl rfl trivial ⟨rfl, trivial⟩)⟩
   ·skip
    refine And.intro hq4 ?_
    refine And.intro ?_ trivial
    refine ⟨r4_, hq1, ?_⟩
    refine And.intro ?_ trivial
    refine ⟨r5_, hq2, ?_⟩
    refine And.intro ?_ trivial
    refine And.intro ?_ trivial
    refine And.intro hq3 ?_
    refine And.intro ?_ trivial
    refine ⟨r6_, hq5, ?_⟩
    exact ⟨r6_.1, he, (leads_ren [] rfl rfl trivial ⟨rfl, trivial⟩)⟩
  ·skip
   refine And.intro hq4 ?_
   refine And.intro ?_ (And.intro ?_ (trivial))
   ·skip
    refine ⟨r4_, hq1, ?_⟩
    refine And.intro ?_ trivial
    refine And.intro ?_ trivial
    refine ⟨r5_, hq2, ?_⟩
    refine And.intro ?_ trivial
    refine And.intro ?_ trivial
    refine And.intro hq3 ?_
    refine And.intro ?_ trivial
    refine ⟨r6_, hq5, ?_⟩
    exact ⟨r6_.1, he, (leads_ren [] rfl rfl trivial ⟨rfl, trivial⟩)⟩
   ·skip
    refine And.intro ?_ trivial
    refine ⟨r4_, hq1, ?_⟩
    refine And.intro ?_ trivial
    refine ⟨r5_, hq2, ?_⟩
    refine And.intro ?_ trivial
    refine And.intro ?_ trivial
    refine And.intro hq3 ?_
    refine And.intro ?_ trivial
    refine ⟨r6_, hq5, ?_⟩
    exact ⟨r6_.1, he, (leads_ren [] rfl rfl trivial ⟨rfl, trivial⟩)⟩

end Go.AE.Y
