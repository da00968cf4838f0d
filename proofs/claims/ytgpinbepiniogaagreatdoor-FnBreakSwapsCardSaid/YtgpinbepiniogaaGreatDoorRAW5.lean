/-
  Walks: each function keeps the contract that its model gives. No conditions.
-/
import Derived.Test.YtgpinbepiniogaaGreatDoorRATab
import Derived.Test.YtgpinbepiniogaaGreatDoorRAW4
import Derived.Test.YtgpinbepiniogaaGreatDoorRAS
namespace Go.AE.Y
open Go Go.AE Go.Proofs
set_option linter.unusedVariables false
set_option maxHeartbeats 2000000
set_option maxRecDepth 100000

noncomputable def c_slices_EqualFunc_impl_Rule__impl_sameRule : Con := fun
  | [.c (.imm (.pair (.int .i64) (.pair (.sl (.int .i64)) (.pair (.sl (.int .i64)) (.pair (.int .i64) (.sl (.sl (.int .i64))))))) s1_), .c (.imm (.pair (.int .i64) (.pair (.sl (.int .i64)) (.pair (.sl (.int .i64)) (.pair (.int .i64) (.sl (.sl (.int .i64))))))) s2_), .c (.fn 71 [])], [] => .opt _ (slices_EqualFunc_impl_Rule__impl_sameRule s1_ s2_) (fun r => .ret (.c (.bool r)) [])
  | _, _ => .fail

noncomputable def C_slices_EqualFunc_impl_Rule__impl_sameRule : Cfg := { y := tys, n := 32, h := 0, tab := [(71, c_impl_sameRule)] }

theorem k_slices_EqualFunc_impl_Rule__impl_sameRule : Entry Tryz.prog 70 c_slices_EqualFunc_impl_Rule__impl_sameRule := by
 refine wkEnt (C := C_slices_EqualFunc_impl_Rule__impl_sameRule) Tryz.f70 (wkTab k_impl_sameRule wkNil) fun _ a b k he => ?_
 unfold c_slices_EqualFunc_impl_Rule__impl_sameRule at he; split at he; rotate_left; exact he.elim
 rename_i s1_ s2_
 refine wkGo0 he fun he => ?_
 refine go_if he (fun he => ?_) fun he => ?_
 ·exact wkz_27
 ·refine wkLoop (slices_EqualFunc_impl_Rule__impl_sameRule_l1 s1_ s2_) (fun i => (envOf [(1, .c (.imm y5_ s2_)), (2, .c (.fn 71 [])), (15, .c (.imm y5_ s1_)), (16, .c (.int .i64 (s1_.length:Int))), (17, .c (.int .i64 i))], [])) he (leads_au []) ?_
  rintro i _ he
  refine go_if he (fun he => ?_) fun he => ?_
  ·refine go_rq he fun he => ?_
   refine go_rq he fun he => ?_
   refine go_bind he fun r1_ he => ?_
   refine go_if he (fun he => ?_) fun he => ?_
   ·exact wkRet [(6, [])] (ok_some he :) (leads_au [])
   ·exact wkz_5
  ·exact wkz_27

noncomputable def c_impl_ModelSame : Con := fun
  | [.agg [.imm (.int .i64) a_0, .imm (.pair (.int .i64) (.pair (.sl (.int .i64)) (.pair (.sl (.int .i64)) (.pair (.int .i64) (.sl (.sl (.int .i64))))))) a_1], .agg [.imm (.int .i64) b_0, .imm (.pair (.int .i64) (.pair (.sl (.int .i64)) (.pair (.sl (.int .i64)) (.pair (.int .i64) (.sl (.sl (.int .i64))))))) b_1]], [] => .opt _ (impl_ModelSame (a_0, a_1) (b_0, b_1)) (fun r => .ret (.c (.bool r)) [])
  | _, _ => .fail

noncomputable def C_impl_ModelSame : Cfg := { y := tys, n := 17, h := 0, tab := [(69, c_slices_Equal_int), (70, c_slices_EqualFunc_impl_Rule__impl_sameRule)] }

theorem k_impl_ModelSame : Entry Tryz.prog 35 c_impl_ModelSame := by
 refine wkEnt (C := C_impl_ModelSame) Tryz.f35 (wkTab k_slices_Equal_int (wkTab k_slices_EqualFunc_impl_Rule__impl_sameRule wkNil)) fun _ a b k he => ?_
 unfold c_impl_ModelSame at he; split at he; rotate_left; exact he.elim
 rename_i a_0 a_1 b_0 b_1
 refine wkGo0 he fun he => ?_
 refine go_bind he fun r1_ he => ?_
 refine go_if he (fun he => ?_) fun he => ?_
 ·exact wkz_79
 ·exact wkz_1

noncomputable def c_impl_Rule_holds_1 : Con := fun
  | [.c (.imm (.int .i64) row), .c (.ptr 0 0)], [(0, .rc [.imm (.int .i64) o0])] => .opt _ (impl_Rule_holds_1 row o0) (fun r => .ret (.c (.bool r)) [(0, .rc [.imm y0_ o0])])
  | _, _ => .fail

noncomputable def C_impl_Rule_holds_1 : Cfg := { y := tys, n := 7, h := 1, tab := [(69, c_slices_Equal_int)] }

theorem k_impl_Rule_holds_1 : Entry Tryz.prog 145 c_impl_Rule_holds_1 := by
 refine wkEnt (C := C_impl_Rule_holds_1) Tryz.f145 (wkTab k_slices_Equal_int wkNil) fun _ a b k he => ?_
 unfold c_impl_Rule_holds_1 at he; split at he; rotate_left; exact he.elim
 rename_i row o0
 refine wkGo0 he fun he => ?_
 refine go_bind he fun r1_ he => ?_
 exact wkRet [(3, [])] (ok_some he :) (leads_au [])

noncomputable def c_slices_IndexFunc_s_int__impl_Rule_holds_1 : Con := fun
  | [.c (.imm (.sl (.int .i64)) s_), .c (.fn 145 [0])], [(0, .rc [.imm (.int .i64) o0])] => .opt _ (slices_IndexFunc_s_int__impl_Rule_holds_1 s_ o0) (fun r => .ret (.c (.int .i64 r)) [(0, .rc [.imm y0_ o0])])
  | _, _ => .fail

noncomputable def C_slices_IndexFunc_s_int__impl_Rule_holds_1 : Cfg := { y := tys, n := 19, h := 1, tab := [(145, c_impl_Rule_holds_1)] }

theorem k_slices_IndexFunc_s_int__impl_Rule_holds_1 : Entry Tryz.prog 125 c_slices_IndexFunc_s_int__impl_Rule_holds_1 := by
 refine wkEnt (C := C_slices_IndexFunc_s_int__impl_Rule_holds_1) Tryz.f125 (wkTab k_impl_Rule_holds_1 wkNil) fun _ a b k he => ?_
 unfold c_slices_IndexFunc_s_int__impl_Rule_holds_1 at he; split at he; rotate_left; exact he.elim
 rename_i s_ o0
 refine wkGo0 he fun he => ?_
 refine wkLoop (slices_IndexFunc_s_int__impl_Rule_holds_1_l1 s_ o0) (fun i => (envOf [(0, .c (.imm (.sl y0_) s_)), (1, .c (.fn 145 [0])), (7, .c (.int .i64 (s_.length:Int))), (8, .c (.int .i64 i))], [(0, .rc [.imm y0_ o0])])) he (leads_au []) ?_
 exact wkz_35

noncomputable def c_slices_ContainsFunc_s_int__impl_Rule_holds_1 : Con := fun
  | [.c (.imm (.sl (.int .i64)) s_), .c (.fn 145 [0])], [(0, .rc [.imm (.int .i64) o0])] => .opt _ (slices_ContainsFunc_s_int__impl_Rule_holds_1 s_ o0) (fun r => .ret (.c (.bool r)) [(0, .rc [.imm y0_ o0])])
  | _, _ => .fail

noncomputable def C_slices_ContainsFunc_s_int__impl_Rule_holds_1 : Cfg := { y := tys, n := 9, h := 1, tab := [(125, c_slices_IndexFunc_s_int__impl_Rule_holds_1)] }

theorem k_slices_ContainsFunc_s_int__impl_Rule_holds_1 : Entry Tryz.prog 95 c_slices_ContainsFunc_s_int__impl_Rule_holds_1 := by
 refine wkEnt (C := C_slices_ContainsFunc_s_int__impl_Rule_holds_1) Tryz.f95 (wkTab k_slices_IndexFunc_s_int__impl_Rule_holds_1 wkNil) fun _ a b k he => ?_
 unfold c_slices_ContainsFunc_s_int__impl_Rule_holds_1 at he; split at he; rotate_left; exact he.elim
 rename_i s_ o0
 refine wkGo0 he fun he => ?_
 refine go_bind he fun r1_ he => ?_
 exact wkz_1

noncomputable def c_impl_Rule_holds : Con := fun
  | [.agg [.int .i64 r__0, .imm (.int .i64) r__1, .imm (.int .i64) r__2, .int .i64 r__3, .imm (.sl (.int .i64)) r__4], .c (.imm (.int .i64) vals)], [] => .opt _ (impl_Rule_holds (r__0, (r__1, (r__2, (r__3, r__4)))) vals) (fun r => .ret (.c (.bool r)) [])
  | _, _ => .fail

noncomputable def C_impl_Rule_holds : Cfg := { y := tys, n := 63, h := 0, tab := [(80, c_slices_Contains_int), (95, c_slices_ContainsFunc_s_int__impl_Rule_holds_1)] }

theorem k_impl_Rule_holds : Entry Tryz.prog 126 c_impl_Rule_holds := by
 refine wkEnt (C := C_impl_Rule_holds) Tryz.f126 (wkTab k_slices_Contains_int (wkTab k_slices_ContainsFunc_s_int__impl_Rule_holds_1 wkNil)) fun _ a b k he => ?_
 unfold c_impl_Rule_holds at he; split at he; rotate_left; exact he.elim
 rename_i r__0 r__1 r__2 r__3 r__4 vals
 refine wkGo0 he fun he => ?_
 refine go_if he (fun he => ?_) fun he => ?_
 ·refine wkLoop (impl_Rule_holds_l1 (r__0, (r__1, (r__2, (r__3, r__4)))) vals) (fun (sum, i) => (envOf [(2, .c (.ptr 10000000 0)), (5, .c (.int .i64 sum)), (14, .c (.imm y0_ vals)), (15, .c (.int .i64 (vals.length:Int))), (16, .c (.int .i64 i))], [(10000000, .rc [.int .i64 (r__0, (r__1, (r__2, (r__3, r__4)))).1, .imm y0_ (r__0, (r__1, (r__2, (r__3, r__4)))).2.1, .imm y0_ (r__0, (r__1, (r__2, (r__3, r__4)))).2.2.1, .int .i64 (r__0, (r__1, (r__2, (r__3, r__4)))).2.2.2.1, .imm (.sl y0_) (r__0, (r__1, (r__2, (r__3, r__4)))).2.2.2.2])])) he (leads_au [(10000000, 2)]) ?_
  rintro ⟨sum, i⟩ _ he
  refine go_if he (fun he => ?_) fun he => ?_
  ·refine go_rq he fun he => ?_
   exact wkz_10
  ·exact wkz_1
 ·refine go_if he (fun he => ?_) fun he => ?_
  ·refine wkLoop (impl_Rule_holds_l2 vals) (fun i1 => (envOf [(3, .c (.ptr 10001000 0)), (37, .c (.imm y0_ vals)), (38, .c (.int .i64 (vals.length:Int))), (39, .c (.int .i64 i1))], [(10001000, .rc [.imm y0_ vals])])) he (leads_au [(10001000, 3)]) ?_
   rintro i1 _ he
   refine go_if he (fun he => ?_) fun he => ?_
   ·refine go_rq he fun he => ?_
    exact wkz_34
   ·exact wkz_1
  ·refine go_if he (fun he => ?_) fun he => ?_
   ·exact wkz_79
   ·refine And.intro (by kernel_rfl) ?_
    exact wkz_3

noncomputable def c_impl_Rule_at : Con := fun
  | [.agg [.int .i64 r__0, .imm (.int .i64) r__1, .imm (.int .i64) r__2, .int .i64 r__3, .imm (.sl (.int .i64)) r__4], .c (.imm (.int .i64) cells)], [] => .opt _ (impl_Rule_at (r__0, (r__1, (r__2, (r__3, r__4)))) cells) (fun r => .ret (.c (.bool r)) [])
  | _, _ => .fail

noncomputable def C_impl_Rule_at : Cfg := { y := tys, n := 26, h := 0, tab := [(126, c_impl_Rule_holds)], cut := [7] }

theorem wkz_99 {P : Prop} (h : P := by
  refine go_bind he fun r1_ he => ?_
  exact wkz_1) : P := h

theorem k_impl_Rule_at : Entry Tryz.prog 99 c_impl_Rule_at := by
 refine wkEnt (C := C_impl_Rule_at) Tryz.f99 (wkTab k_impl_Rule_holds wkNil) fun _ a b k he => ?_
 unfold c_impl_Rule_at at he; split at he; rotate_left; exact he.elim
 rename_i r__0 r__1 r__2 r__3 r__4 cells
 refine wkGo0 he fun he => ?_
 refine wkSeq (impl_Rule_at_j1 (r__0, (r__1, (r__2, (r__3, r__4))))) (fun vals1 => (envOf [(2, .c (.ptr 10001000 0)), (5, .c (.own 10001001 false))], [(10001000, .rc [.int .i64 (r__0, (r__1, (r__2, (r__3, r__4)))).1, .imm y0_ (r__0, (r__1, (r__2, (r__3, r__4)))).2.1, .imm y0_ (r__0, (r__1, (r__2, (r__3, r__4)))).2.2.1, .int .i64 (r__0, (r__1, (r__2, (r__3, r__4)))).2.2.2.1, .imm (.sl y0_) (r__0, (r__1, (r__2, (r__3, r__4)))).2.2.2.2]), (10001001, .sl 3 y0_ vals1 .shallow)])) he ?_ ?_
 ·rintro vals1 he
  exact wkz_99
 ·skip
  refine wkLoop (impl_Rule_at_l1 (r__0, (r__1, (r__2, (r__3, r__4)))) cells) (fun (i, vals) => (envOf [(1, .c (.imm y0_ cells)), (2, .c (.ptr 10000000 0)), (5, .c (.own 10000001 false)), (9, .c (.imm y0_ (r__0, (r__1, (r__2, (r__3, r__4)))).2.1)), (10, .c (.int .i64 ((r__0, (r__1, (r__2, (r__3, r__4)))).2.1.length:Int))), (11, .c (.int .i64 i))], [(10000000, .rc [.int .i64 (r__0, (r__1, (r__2, (r__3, r__4)))).1, .imm y0_ (r__0, (r__1, (r__2, (r__3, r__4)))).2.1, .imm y0_ (r__0, (r__1, (r__2, (r__3, r__4)))).2.2.1, .int .i64 (r__0, (r__1, (r__2, (r__3, r__4)))).2.2.2.1, .imm (.sl y0_) (r__0, (r__1, (r__2, (r__3, r__4)))).2.2.2.2]), (10000001, .sl 3 y0_ vals .shallow)])) he (leads_au [(10000000, 2)]) ?_
  rintro ⟨i, vals⟩ _ he
  refine go_if he (fun he => ?_) fun he => ?_
  ·refine go_rq he fun he => ?_
   refine go_rq he fun he => ?_
   refine go_rq he fun he => ?_
   refine go_rq he fun he => ?_
   exact ⟨_, (ok_some he :), (leads_au [(10000001, 21)])⟩
  ·exact ⟨_, (ok_up he :), (leads_au [(10001000, 10000000), (10001001, 10000001)])⟩

noncomputable def c_impl_Model_solves_1 : Con := fun
  | [.agg [.int .i64 r__0, .imm (.int .i64) r__1, .imm (.int .i64) r__2, .int .i64 r__3, .imm (.sl (.int .i64)) r__4], .c (.ptr 0 0)], [(0, .rc [.imm (.int .i64) o0])] => .opt _ (impl_Model_solves_1 (r__0, (r__1, (r__2, (r__3, r__4)))) o0) (fun r => .ret (.c (.bool r)) [(0, .rc [.imm y0_ o0])])
  | _, _ => .fail

noncomputable def C_impl_Model_solves_1 : Cfg := { y := tys, n := 8, h := 1, tab := [(99, c_impl_Rule_at)] }

theorem k_impl_Model_solves_1 : Entry Tryz.prog 98 c_impl_Model_solves_1 := by
 refine wkEnt (C := C_impl_Model_solves_1) Tryz.f98 (wkTab k_impl_Rule_at wkNil) fun _ a b k he => ?_
 unfold c_impl_Model_solves_1 at he; split at he; rotate_left; exact he.elim
 rename_i r__0 r__1 r__2 r__3 r__4 o0
 refine wkGo0 he fun he => ?_
 refine go_bind he fun r1_ he => ?_
 exact wkRet [(3, [])] (ok_some he :) (leads_au [])

noncomputable def c_slices_IndexFunc_impl_Rule__impl_Model_solves_1 : Con := fun
  | [.c (.imm (.pair (.int .i64) (.pair (.sl (.int .i64)) (.pair (.sl (.int .i64)) (.pair (.int .i64) (.sl (.sl (.int .i64))))))) s_), .c (.fn 98 [0])], [(0, .rc [.imm (.int .i64) o0])] => .opt _ (slices_IndexFunc_impl_Rule__impl_Model_solves_1 s_ o0) (fun r => .ret (.c (.int .i64 r)) [(0, .rc [.imm y0_ o0])])
  | _, _ => .fail

noncomputable def C_slices_IndexFunc_impl_Rule__impl_Model_solves_1 : Cfg := { y := tys, n := 19, h := 1, tab := [(98, c_impl_Model_solves_1)] }

theorem k_slices_IndexFunc_impl_Rule__impl_Model_solves_1 : Entry Tryz.prog 92 c_slices_IndexFunc_impl_Rule__impl_Model_solves_1 := by
 refine wkEnt (C := C_slices_IndexFunc_impl_Rule__impl_Model_solves_1) Tryz.f92 (wkTab k_impl_Model_solves_1 wkNil) fun _ a b k he => ?_
 unfold c_slices_IndexFunc_impl_Rule__impl_Model_solves_1 at he; split at he; rotate_left; exact he.elim
 rename_i s_ o0
 refine wkGo0 he fun he => ?_
 refine wkLoop (slices_IndexFunc_impl_Rule__impl_Model_solves_1_l1 s_ o0) (fun i => (envOf [(0, .c (.imm y5_ s_)), (1, .c (.fn 98 [0])), (7, .c (.int .i64 (s_.length:Int))), (8, .c (.int .i64 i))], [(0, .rc [.imm y0_ o0])])) he (leads_au []) ?_
 exact wkz_35

noncomputable def c_slices_ContainsFunc_impl_Rule__impl_Model_solves_1 : Con := fun
  | [.c (.imm (.pair (.int .i64) (.pair (.sl (.int .i64)) (.pair (.sl (.int .i64)) (.pair (.int .i64) (.sl (.sl (.int .i64))))))) s_), .c (.fn 98 [0])], [(0, .rc [.imm (.int .i64) o0])] => .opt _ (slices_ContainsFunc_impl_Rule__impl_Model_solves_1 s_ o0) (fun r => .ret (.c (.bool r)) [(0, .rc [.imm y0_ o0])])
  | _, _ => .fail

noncomputable def C_slices_ContainsFunc_impl_Rule__impl_Model_solves_1 : Cfg := { y := tys, n := 9, h := 1, tab := [(92, c_slices_IndexFunc_impl_Rule__impl_Model_solves_1)] }

theorem k_slices_ContainsFunc_impl_Rule__impl_Model_solves_1 : Entry Tryz.prog 55 c_slices_ContainsFunc_impl_Rule__impl_Model_solves_1 := by
 refine wkEnt (C := C_slices_ContainsFunc_impl_Rule__impl_Model_solves_1) Tryz.f55 (wkTab k_slices_IndexFunc_impl_Rule__impl_Model_solves_1 wkNil) fun _ a b k he => ?_
 unfold c_slices_ContainsFunc_impl_Rule__impl_Model_solves_1 at he; split at he; rotate_left; exact he.elim
 rename_i s_ o0
 refine wkGo0 he fun he => ?_
 refine go_bind he fun r1_ he => ?_
 exact wkz_1

noncomputable def c_impl_Model_solves : Con := fun
  | [.agg [.imm (.int .i64) m_0, .imm (.pair (.int .i64) (.pair (.sl (.int .i64)) (.pair (.sl (.int .i64)) (.pair (.int .i64) (.sl (.sl (.int .i64))))))) m_1], .c (.imm (.int .i64) cells)], [] => .opt _ (impl_Model_solves (m_0, m_1) cells) (fun r => .ret (.c (.bool r)) [])
  | _, _ => .fail

noncomputable def C_impl_Model_solves : Cfg := { y := tys, n := 10, h := 0, tab := [(55, c_slices_ContainsFunc_impl_Rule__impl_Model_solves_1)] }

theorem k_impl_Model_solves : Entry Tryz.prog 64 c_impl_Model_solves := by
 refine wkEnt (C := C_impl_Model_solves) Tryz.f64 (wkTab k_slices_ContainsFunc_impl_Rule__impl_Model_solves_1 wkNil) fun _ a b k he => ?_
 unfold c_impl_Model_solves at he; split at he; rotate_left; exact he.elim
 rename_i m_0 m_1 cells
 refine wkGo0 he fun he => ?_
 refine go_bind he fun r1_ he => ?_
 exact wkz_1

noncomputable def c_impl_CountModel_1__rrs : Con := fun
  | [.c (.own 2 false), .c (.ptr 0 0), .c (.ptr 1 0)], [(0, .rc [.imm (.int .i64) o0_0, .imm (.pair (.int .i64) (.pair (.sl (.int .i64)) (.pair (.sl (.int .i64)) (.pair (.int .i64) (.sl (.sl (.int .i64))))))) o0_1]), (1, .rc [.int .i64 o1]), (2, .sl 3 (.int .i64) cells .shallow)] => .opt _ (impl_CountModel_1__rrs (o0_0, o0_1) o1 cells) (fun r => .ret (.c (.bool r.1)) [(0, .rc [.imm y0_ o0_0, .imm y5_ o0_1]), (1, .rc [.int .i64 r.2]), (2, .sl 3 y0_ cells .shallow)])
  | _, _ => .fail

noncomputable def C_impl_CountModel_1__rrs : Cfg := { y := tys, n := 10, h := 3, tab := [(64, c_impl_Model_solves)] }

theorem k_impl_CountModel_1__rrs : Entry Tryz.prog 72 c_impl_CountModel_1__rrs := by
 refine wkEnt (C := C_impl_CountModel_1__rrs) Tryz.f72 (wkTab k_impl_Model_solves wkNil) fun _ a b k he => ?_
 unfold c_impl_CountModel_1__rrs at he; split at he; rotate_left; exact he.elim
 rename_i o0_0 o0_1 o1 cells
 refine wkGo0 he fun he => ?_
 refine go_bind he fun r1_ he => ?_
 refine go_if he (fun he => ?_) fun he => ?_
 ·exact wkz_2
 ·exact wkz_1

noncomputable def c_impl_each__impl_CountModel_1 : Con := fun
  | [.c (.imm (.int .i64) sizes), .c (.imm (.int .i64) from_), .c (.fn 72 [0, 1])], [(0, .rc [.imm (.int .i64) o0_0, .imm (.pair (.int .i64) (.pair (.sl (.int .i64)) (.pair (.sl (.int .i64)) (.pair (.int .i64) (.sl (.sl (.int .i64))))))) o0_1]), (1, .rc [.int .i64 o1])] => .opt _ (impl_each__impl_CountModel_1 sizes from_ (o0_0, o0_1) o1) (fun r => .ret (.tup []) [(0, .rc [.imm y0_ o0_0, .imm y5_ o0_1]), (1, .rc [.int .i64 r])])
  | _, _ => .fail

noncomputable def C_impl_each__impl_CountModel_1 : Cfg := { y := tys, n := 42, h := 2, tab := [(65, c_slices_Clone_int), (72, c_impl_CountModel_1__rrs)], cut := [6], hand := [(72, [0])] }

theorem wkz_100 {P : Prop} (h : P := by
  exact wkRet [] (ok_some he :) (leads_au [] (l := []) (st' := [(0, .rc [.imm y0_ o0_0, .imm y5_ o0_1]), (1, .rc [.int .i64 r3_.2])]))) : P := h

theorem k_impl_each__impl_CountModel_1 : Entry Tryz.prog 62 c_impl_each__impl_CountModel_1 := by
 refine wkEnt (C := C_impl_each__impl_CountModel_1) Tryz.f62 (wkTab k_slices_Clone_int (wkTab k_impl_CountModel_1__rrs wkNil)) fun _ a b k he => ?_
 unfold c_impl_each__impl_CountModel_1 at he; split at he; rotate_left; exact he.elim
 rename_i sizes from_ o0_0 o0_1 o1
 refine wkGo0 he fun he => ?_
 refine go_bind he fun r1_ he => ?_
 refine wkLoop (impl_each__impl_CountModel_1_l1 sizes (o0_0, o0_1)) (fun (cap, cells2) => (envOf [(0, .c (.imm y0_ sizes)), (2, .c (.fn 72 [0, 1])), (6, .c (.own 10000000 false))], [(0, .rc [.imm y0_ (o0_0, o0_1).1, .imm y5_ (o0_0, o0_1).2]), (1, .rc [.int .i64 cap]), (10000000, .sl 3 y0_ cells2 .shallow)])) he (leads_au [(10000000, 10900)]) ?_
 rintro ⟨cap, cells2⟩ _ he
 refine go_bind he fun r3_ he => ?_
 refine go_if he (fun he => ?_) fun he => ?_
 ·refine go_rq he fun he => ?_
  refine wkSeq (impl_each__impl_CountModel_1_j1 r3_) (fun (i3, cells4) => (envOf [(0, .c (.imm y0_ sizes)), (2, .c (.fn 72 [0, 1])), (6, .c (.own 10004000 false)), (7, .c (.int .i64 i3))], [(0, .rc [.imm y0_ (o0_0, o0_1).1, .imm y5_ (o0_0, o0_1).2]), (1, .rc [.int .i64 r3_.2]), (10004000, .sl 3 y0_ cells4 .shallow)])) he ?_ ?_
  ·rintro ⟨i3, cells4⟩ he
   refine go_if he (fun he => ?_) fun he => ?_
   ·exact wkz_100
   ·refine go_rq he fun he => ?_
    refine go_rq he fun he => ?_
    refine go_rq he fun he => ?_
    exact ⟨_, (ok_some he :), (leads_au [(10000000, 10004000)])⟩
  ·skip
   refine wkLoop (impl_each__impl_CountModel_1_l2 sizes r3_) (fun (i2, cells3) => (envOf [(0, .c (.imm y0_ sizes)), (2, .c (.fn 72 [0, 1])), (6, .c (.own 10003000 false)), (7, .c (.int .i64 i2))], [(0, .rc [.imm y0_ (o0_0, o0_1).1, .imm y5_ (o0_0, o0_1).2]), (1, .rc [.int .i64 r3_.2]), (10003000, .sl 3 y0_ cells3 .shallow)])) he (leads_au [(10003000, 10000000)]) ?_
   rintro ⟨i2, cells3⟩ _ he
   refine And.intro (by kernel_rfl) ?_
   refine go_if he (fun he => ?_) fun he => ?_
   ·refine go_rq he fun he => ?_
    refine go_rq he fun he => ?_
    refine go_if he (fun he => ?_) fun he => ?_
    ·exact wkz_8
    ·exact ⟨_, (ok_up he :), (leads_au [(10004000, 10003000)])⟩
   ·exact ⟨_, (ok_up he :), (leads_au [(10004000, 10003000)])⟩
 ·exact wkz_100

noncomputable def c_impl_CountModel : Con := fun
  | [.agg [.imm (.int .i64) m_0, .imm (.pair (.int .i64) (.pair (.sl (.int .i64)) (.pair (.sl (.int .i64)) (.pair (.int .i64) (.sl (.sl (.int .i64))))))) m_1]], [] => .opt _ (impl_CountModel (m_0, m_1)) (fun r => .ret (.c (.int .i64 r)) [])
  | _, _ => .fail

noncomputable def C_impl_CountModel_s1 : Sched := .alt 7 .done .stop
noncomputable def C_impl_CountModel_s2 : Sched := .alt 6 C_impl_CountModel_s1 .stop
noncomputable def C_impl_CountModel_s3 : Sched := .alt 5 C_impl_CountModel_s1 .stop
noncomputable def C_impl_CountModel_s4 : Sched := .alt 5 C_impl_CountModel_s2 (.alt 6 C_impl_CountModel_s3 .stop)
noncomputable def C_impl_CountModel_s5 : Sched := .alt 3 (.first 4 C_impl_CountModel_s3) .stop
noncomputable def C_impl_CountModel_s6 : Sched := .alt 1 C_impl_CountModel_s1 .stop
noncomputable def C_impl_CountModel_s7 : Sched := .alt 1 C_impl_CountModel_s3 (.alt 5 C_impl_CountModel_s6 .stop)
noncomputable def C_impl_CountModel : Cfg := { y := tys, n := 16, h := 0, tab := [(22, c_impl_ModelValid), (62, c_impl_each__impl_CountModel_1)], cut := [5], sched := [(4, (wkFs [0, 2] (.alt 1 (.alt 3 (.first 4 C_impl_CountModel_s4) (.alt 6 C_impl_CountModel_s5 .stop)) (.alt 3 (.first 4 (.alt 1 C_impl_CountModel_s4 (.alt 5 (.alt 1 C_impl_CountModel_s2 (.alt 6 C_impl_CountModel_s6 .stop)) (.alt 6 C_impl_CountModel_s7 .stop)))) (.alt 6 (.alt 1 C_impl_CountModel_s5 (.alt 3 (.first 4 C_impl_CountModel_s7) .stop)) .stop)))))] }

theorem wkz_101 {P : Prop} (h : P := by
  refine And.intro ?_ trivial
  refine ⟨r3_, hq2, ?_⟩
  exact ⟨_, he, (leads_au [(10000000, 3)])⟩) : P := h

theorem wkz_102 {P : Prop} (h : P := by
  skip
  refine And.intro hq1 ?_
  refine And.intro ?_ trivial
  exact wkz_101) : P := h

theorem wkz_103 {P : Prop} (h : P := by
  skip
  refine And.intro ?_ trivial
  refine And.intro hq1 ?_
  exact wkz_101) : P := h

theorem wkz_104 {P : Prop} (h : P := by
  skip
  refine And.intro ?_ (And.intro ?_ (trivial))
  ·exact wkz_102
  ·exact wkz_103) : P := h

theorem wkz_105 {P : Prop} (h : P := by
  skip
  refine And.intro ?_ trivial
  refine And.intro ?_ trivial
  refine And.intro hq1 ?_
  exact wkz_101) : P := h

theorem k_impl_CountModel : Entry Tryz.prog 36 c_impl_CountModel := by
 refine wkEnt (C := C_impl_CountModel) Tryz.f36 (wkTab k_impl_ModelValid (wkTab k_impl_each__impl_CountModel_1 wkNil)) fun _ a b k he => ?_
 unfold c_impl_CountModel at he; split at he; rotate_left; exact he.elim
 rename_i m_0 m_1
 refine wkGo0 he fun he => ?_
 refine go_bind he fun r1_ he => ?_
 refine go_if he (fun he => ?_) fun he => ?_
 ·exact wkz_37
 ·refine wkSeq (impl_CountModel_j1) (fun count => (envOf [(3, .c (.ptr 10000000 0))], [(10000000, .rc [.int .i64 count])])) he ?_ ?_
  ·rintro count he
   exact wkz_37
  ·skip
   refine And.intro (by kernel_rfl) ?_
   obtain ⟨hq1, he⟩ := ok_rq he
   obtain ⟨r3_, hq2, he⟩ := ok_bind he
   refine And.intro ?_ (And.intro ?_ (And.intro ?_ (trivial)))
   ·skip
    refine And.intro ?_ (And.intro ?_ (trivial))
    ·exact wkz_104
    ·exact wkz_105
   ·skip
    refine And.intro ?_ (And.intro ?_ (And.intro ?_ (trivial)))
    ·exact wkz_104
    ·skip
     refine And.intro hq1 ?_
     refine And.intro ?_ (And.intro ?_ (trivial))
     ·skip
      refine And.intro ?_ trivial
      exact wkz_101
     ·skip
      refine And.intro ?_ trivial
      exact wkz_101
    ·skip
     refine And.intro ?_ (And.intro ?_ (trivial))
     ·exact wkz_103
     ·exact wkz_102
   ·skip
    refine And.intro ?_ (And.intro ?_ (trivial))
    ·exact wkz_105
    ·skip
     refine And.intro ?_ (And.intro ?_ (trivial))
     ·exact wkz_103
     ·exact wkz_102

noncomputable def c_laws_FnBreakSwaps : Con := fun
  | [.c (.imm (.int .u8) code)], [] => .opt _ (laws_FnBreakSwaps code) (fun r => .ret (.c (.bool r)) [])
  | _, _ => .fail

noncomputable def C_laws_FnBreakSwaps : Cfg := { y := tys, n := 64, h := 0, tab := [(22, c_impl_ModelValid), (32, c_spec_DrawBreakSwaps), (33, c_impl_BreakSwaps), (34, c_spec_BreakSwaps), (35, c_impl_ModelSame), (36, c_impl_CountModel)], good := [33] }

theorem k_laws_FnBreakSwaps : Entry Tryz.prog 8 c_laws_FnBreakSwaps := by
 refine wkEnt (C := C_laws_FnBreakSwaps) Tryz.f8 (wkTab k_impl_ModelValid (wkTab k_spec_DrawBreakSwaps (wkTab k_impl_BreakSwaps (wkTab k_spec_BreakSwaps (wkTab k_impl_ModelSame (wkTab k_impl_CountModel wkNil)))))) fun _ a b k he => ?_
 unfold c_laws_FnBreakSwaps at he; split at he; rotate_left; exact he.elim
 rename_i code
 refine wkGo0 he fun he => ?_
 refine go_if he (fun he => ?_) fun he => ?_
 ·exact wkz_27
 ·refine go_bind he fun r1_ he => ?_
  refine go_bind he fun r2_ he => ?_
  refine go_bind he fun r3_ he => ?_
  refine go_if2 he (fun he => ?_) fun he => ?_
  ·refine go_bind he fun r4_ he => ?_
   refine go_if2 he (fun he => ?_) fun he => ?_
   ·refine go_if he (fun he => ?_) fun he => ?_
    ·refine go_if he (fun he => ?_) fun he => ?_
     ·refine go_bind he fun r5_ he => ?_
      exact wkz_37
     ·exact wkz_37
    ·refine go_bind he fun r8_ he => ?_
     refine go_bind he fun r9_ he => ?_
     refine go_if he (fun he => ?_) fun he => ?_
     ·refine go_if he (fun he => ?_) fun he => ?_
      ·refine go_bind he fun r10_ he => ?_
       exact wkz_37
      ·exact wkz_37
     ·exact wkz_37
   ·refine go_if he (fun he => ?_) fun he => ?_
    ·refine go_bind he fun r6_ he => ?_
     exact wkz_37
    ·exact wkz_37
  ·refine go_if he (fun he => ?_) fun he => ?_
   ·refine go_bind he fun r7_ he => ?_
    exact wkz_37
   ·exact wkz_37

end Go.AE.Y
