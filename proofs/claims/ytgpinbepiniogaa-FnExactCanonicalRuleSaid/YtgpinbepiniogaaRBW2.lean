/-
  Walks: each function keeps the contract that its model gives. No conditions.
-/
import Derived.Test.YtgpinbepiniogaaRBTab
import Derived.Test.YtgpinbepiniogaaRBW1
import Derived.Test.YtgpinbepiniogaaRBS
import Derived.Test.YtgpinbepiniogaaPx1
namespace Go.AE.Y
open Go Go.AE Go.Proofs
set_option linter.unusedVariables false
set_option maxHeartbeats 2000000
set_option maxRecDepth 100000

noncomputable def c_spec_CanonicalRule : Con := fun
  | [.agg [.imm (.int .i64) m_0, .imm (.pair (.int .i64) (.pair (.sl (.int .i64)) (.pair (.sl (.int .i64)) (.pair (.int .i64) (.sl (.sl (.int .i64))))))) m_1], .c (.int .i64 rule)], [] => .opt _ (spec_CanonicalRule (m_0, m_1) rule) (fun r => .ret (.tup [.agg [.int .i64 r.2.1, .own 901 false, .own 902 false, .int .i64 r.2.2.1, .imm (.sl y0_) r.2.2.2.1], .c (.bool r.1)]) [(900, .rc [.int .i64 r.2.1, .own 901 false, .own 902 false, .int .i64 r.2.2.1, .imm (.sl y0_) r.2.2.2.1]), (901, .sl 3 y0_ r.2.2.2.2.1 .shallow), (902, .sl 3 y0_ r.2.2.2.2.2 .shallow)])
  | _, _ => .fail

noncomputable def C_spec_CanonicalRule : Cfg := { y := tys, n := 27, h := 0, tab := [(25, c_spec_ModelValid), (26, c_spec_l10Canonical)] }

theorem wkz_26 {P : Prop} (h : P := by
  exact wkRet [(4, [900]), (5, [])] (ok_some he :) (leads_ren [(900, 4)] rfl rfl ⟨⟨rfl, ⟨rfl, trivial⟩, ⟨rfl, trivial⟩, rfl, .inr (.inl ⟨rfl, rfl⟩), trivial⟩, trivial, trivial, trivial⟩ ⟨⟨⟨rfl, rfl⟩, rfl⟩, .inr rfl, trivial⟩)) : P := h

theorem k_spec_CanonicalRule : Entry Try.prog 7 c_spec_CanonicalRule := by
 refine wkEnt (C := C_spec_CanonicalRule) Try.f7 (wkTab k_spec_ModelValid (wkTab k_spec_l10Canonical wkNil)) fun _ a b k he => ?_
 unfold c_spec_CanonicalRule at he; split at he; rotate_left; exact he.elim
 rename_i m_0 m_1 rule
 refine wkGo0 he fun he => ?_
 refine go_bind he fun r1_ he => ?_
 refine go_if2 he (fun he => ?_) fun he => ?_
 ·refine go_if2 he (fun he => ?_) fun he => ?_
  ·refine go_if he (fun he => ?_) fun he => ?_
   ·exact wkz_26
   ·refine go_rq he fun he => ?_
    refine go_bind he fun r2_ he => ?_
    exact wkRet [(4, [900]), (5, [])] (ok_some he :) (leads_au [(900, 4), (901, 27901), (902, 27902)])
  ·exact wkz_26
 ·exact wkz_26

noncomputable def c_impl_within : Con := fun
  | [.c (.int .i64 n), .c (.int .i64 low), .c (.int .i64 high)], [] => .opt _ (impl_within n low high) (fun r => .ret (.c (.bool r)) [])
  | _, _ => .fail

noncomputable def C_impl_within : Cfg := { y := tys, n := 15, h := 0, tab := [] }

theorem k_impl_within : Entry Try.prog 47 c_impl_within := by
 refine wkEnt (C := C_impl_within) Try.f47 wkNil fun _ a b k he => ?_
 unfold c_impl_within at he; split at he; rotate_left; exact he.elim
 rename_i n low high
 refine wkGo0 he fun he => ?_
 refine go_if he (fun he => ?_) fun he => ?_
 ·exact wkz_1
 ·exact wkz_1

noncomputable def c_slices_Index_int : Con := fun
  | [.c (.imm (.int .i64) s_), .c (.int .i64 v)], [] => .opt _ (slices_Index_int s_ v) (fun r => .ret (.c (.int .i64 r)) [])
  | _, _ => .fail

noncomputable def C_slices_Index_int : Cfg := { y := tys, n := 19, h := 0, tab := [] }

theorem k_slices_Index_int : Entry Try.prog 87 c_slices_Index_int := by
 refine wkEnt (C := C_slices_Index_int) Try.f87 wkNil fun _ a b k he => ?_
 unfold c_slices_Index_int at he; split at he; rotate_left; exact he.elim
 rename_i s_ v
 refine wkGo0 he fun he => ?_
 refine wkLoop (slices_Index_int_l1 s_ v) (fun i => (envOf [(0, .c (.imm y0_ s_)), (1, .c (.int .i64 v)), (7, .c (.int .i64 (s_.length:Int))), (8, .c (.int .i64 i))], [])) he (leads_au []) ?_
 rintro i _ he
 refine go_if he (fun he => ?_) fun he => ?_
 ·refine go_rq he fun he => ?_
  exact wkz_4
 ·exact wkz_1

noncomputable def c_slices_Contains_int : Con := fun
  | [.c (.imm (.int .i64) s_), .c (.int .i64 v)], [] => .opt _ (slices_Contains_int s_ v) (fun r => .ret (.c (.bool r)) [])
  | _, _ => .fail

noncomputable def C_slices_Contains_int : Cfg := { y := tys, n := 9, h := 0, tab := [(87, c_slices_Index_int)] }

theorem k_slices_Contains_int : Entry Try.prog 67 c_slices_Contains_int := by
 refine wkEnt (C := C_slices_Contains_int) Try.f67 (wkTab k_slices_Index_int wkNil) fun _ a b k he => ?_
 unfold c_slices_Contains_int at he; split at he; rotate_left; exact he.elim
 rename_i s_ v
 refine wkGo0 he fun he => ?_
 refine go_bind he fun r1_ he => ?_
 exact wkz_1

noncomputable def c_impl_ruleValid_1 : Con := fun
  | [.c (.int .i64 n)], [] => .opt _ (impl_ruleValid_1 n) (fun r => .ret (.c (.bool r)) [])
  | _, _ => .fail

noncomputable def C_impl_ruleValid_1 : Cfg := { y := tys, n := 10, h := 0, tab := [(47, c_impl_within)] }

theorem wkz_27 {P : Prop} (h : P := by
  refine go_bind he fun r1_ he => ?_
  exact wkz_1) : P := h

theorem k_impl_ruleValid_1 : Entry Try.prog 69 c_impl_ruleValid_1 := by
 refine wkEnt (C := C_impl_ruleValid_1) Try.f69 (wkTab k_impl_within wkNil) fun _ a b k he => ?_
 unfold c_impl_ruleValid_1 at he; split at he; rotate_left; exact he.elim
 rename_i n
 refine wkGo0 he fun he => ?_
 refine go_if2 he (fun he => ?_) fun he => ?_
 ·exact wkz_27
 ·exact wkz_1

noncomputable def c_slices_IndexFunc_int__impl_ruleValid_1 : Con := fun
  | [.c (.imm (.int .i64) s_), .c (.fn 69 [])], [] => .opt _ (slices_IndexFunc_int__impl_ruleValid_1 s_) (fun r => .ret (.c (.int .i64 r)) [])
  | _, _ => .fail

noncomputable def C_slices_IndexFunc_int__impl_ruleValid_1 : Cfg := { y := tys, n := 19, h := 0, tab := [(69, c_impl_ruleValid_1)] }

theorem k_slices_IndexFunc_int__impl_ruleValid_1 : Entry Try.prog 88 c_slices_IndexFunc_int__impl_ruleValid_1 := by
 refine wkEnt (C := C_slices_IndexFunc_int__impl_ruleValid_1) Try.f88 (wkTab k_impl_ruleValid_1 wkNil) fun _ a b k he => ?_
 unfold c_slices_IndexFunc_int__impl_ruleValid_1 at he; split at he; rotate_left; exact he.elim
 rename_i s_
 refine wkGo0 he fun he => ?_
 refine wkLoop (slices_IndexFunc_int__impl_ruleValid_1_l1 s_) (fun i => (envOf [(0, .c (.imm y0_ s_)), (1, .c (.fn 69 [])), (7, .c (.int .i64 (s_.length:Int))), (8, .c (.int .i64 i))], [])) he (leads_au []) ?_
 rintro i _ he
 exact wkz_6

noncomputable def c_slices_ContainsFunc_int__impl_ruleValid_1 : Con := fun
  | [.c (.imm (.int .i64) s_), .c (.fn 69 [])], [] => .opt _ (slices_ContainsFunc_int__impl_ruleValid_1 s_) (fun r => .ret (.c (.bool r)) [])
  | _, _ => .fail

noncomputable def C_slices_ContainsFunc_int__impl_ruleValid_1 : Cfg := { y := tys, n := 9, h := 0, tab := [(88, c_slices_IndexFunc_int__impl_ruleValid_1)] }

theorem k_slices_ContainsFunc_int__impl_ruleValid_1 : Entry Try.prog 68 c_slices_ContainsFunc_int__impl_ruleValid_1 := by
 refine wkEnt (C := C_slices_ContainsFunc_int__impl_ruleValid_1) Try.f68 (wkTab k_slices_IndexFunc_int__impl_ruleValid_1 wkNil) fun _ a b k he => ?_
 unfold c_slices_ContainsFunc_int__impl_ruleValid_1 at he; split at he; rotate_left; exact he.elim
 rename_i s_
 refine wkGo0 he fun he => ?_
 refine go_bind he fun r1_ he => ?_
 exact wkz_1

noncomputable def c_impl_ruleValid_2_1 : Con := fun
  | [.c (.int .i64 n)], [] => .opt _ (impl_ruleValid_2_1 n) (fun r => .ret (.c (.bool r)) [])
  | _, _ => .fail

noncomputable def C_impl_ruleValid_2_1 : Cfg := { y := tys, n := 6, h := 0, tab := [(47, c_impl_within)] }

theorem k_impl_ruleValid_2_1 : Entry Try.prog 72 c_impl_ruleValid_2_1 := by
 refine wkEnt (C := C_impl_ruleValid_2_1) Try.f72 (wkTab k_impl_within wkNil) fun _ a b k he => ?_
 unfold c_impl_ruleValid_2_1 at he; split at he; rotate_left; exact he.elim
 rename_i n
 refine wkGo0 he fun he => ?_
 refine go_bind he fun r1_ he => ?_
 exact wkz_1

noncomputable def c_slices_IndexFunc_int__impl_ruleValid_2_1 : Con := fun
  | [.c (.imm (.int .i64) s_), .c (.fn 72 [])], [] => .opt _ (slices_IndexFunc_int__impl_ruleValid_2_1 s_) (fun r => .ret (.c (.int .i64 r)) [])
  | _, _ => .fail

noncomputable def C_slices_IndexFunc_int__impl_ruleValid_2_1 : Cfg := { y := tys, n := 19, h := 0, tab := [(72, c_impl_ruleValid_2_1)] }

theorem k_slices_IndexFunc_int__impl_ruleValid_2_1 : Entry Try.prog 88 c_slices_IndexFunc_int__impl_ruleValid_2_1 := by
 refine wkEnt (C := C_slices_IndexFunc_int__impl_ruleValid_2_1) Try.f88 (wkTab k_impl_ruleValid_2_1 wkNil) fun _ a b k he => ?_
 unfold c_slices_IndexFunc_int__impl_ruleValid_2_1 at he; split at he; rotate_left; exact he.elim
 rename_i s_
 refine wkGo0 he fun he => ?_
 refine wkLoop (slices_IndexFunc_int__impl_ruleValid_2_1_l1 s_) (fun i => (envOf [(0, .c (.imm y0_ s_)), (1, .c (.fn 72 [])), (7, .c (.int .i64 (s_.length:Int))), (8, .c (.int .i64 i))], [])) he (leads_au []) ?_
 rintro i _ he
 exact wkz_6

noncomputable def c_slices_ContainsFunc_int__impl_ruleValid_2_1 : Con := fun
  | [.c (.imm (.int .i64) s_), .c (.fn 72 [])], [] => .opt _ (slices_ContainsFunc_int__impl_ruleValid_2_1 s_) (fun r => .ret (.c (.bool r)) [])
  | _, _ => .fail

noncomputable def C_slices_ContainsFunc_int__impl_ruleValid_2_1 : Cfg := { y := tys, n := 9, h := 0, tab := [(88, c_slices_IndexFunc_int__impl_ruleValid_2_1)] }

theorem k_slices_ContainsFunc_int__impl_ruleValid_2_1 : Entry Try.prog 68 c_slices_ContainsFunc_int__impl_ruleValid_2_1 := by
 refine wkEnt (C := C_slices_ContainsFunc_int__impl_ruleValid_2_1) Try.f68 (wkTab k_slices_IndexFunc_int__impl_ruleValid_2_1 wkNil) fun _ a b k he => ?_
 unfold c_slices_ContainsFunc_int__impl_ruleValid_2_1 at he; split at he; rotate_left; exact he.elim
 rename_i s_
 refine wkGo0 he fun he => ?_
 refine go_bind he fun r1_ he => ?_
 exact wkz_1

noncomputable def c_impl_ruleValid_2 : Con := fun
  | [.c (.imm (.int .i64) row), .c (.ptr 0 0)], [(0, .rc [.int .i64 o0_0, .imm (.int .i64) o0_1, .imm (.int .i64) o0_2, .int .i64 o0_3, .imm (.sl (.int .i64)) o0_4])] => .opt _ (impl_ruleValid_2 row (o0_0, (o0_1, (o0_2, (o0_3, o0_4))))) (fun r => .ret (.c (.bool r)) [(0, .rc [.int .i64 o0_0, .imm y0_ o0_1, .imm y0_ o0_2, .int .i64 o0_3, .imm (.sl y0_) o0_4])])
  | _, _ => .fail

noncomputable def C_impl_ruleValid_2 : Cfg := { y := tys, n := 14, h := 1, tab := [(68, c_slices_ContainsFunc_int__impl_ruleValid_2_1)] }

theorem wkz_28 {P : Prop} (h : P := by
  refine go_bind he fun r1_ he => ?_
  exact wkRet [(3, [])] (ok_some he :) (leads_au [])) : P := h

theorem k_impl_ruleValid_2 : Entry Try.prog 71 c_impl_ruleValid_2 := by
 refine wkEnt (C := C_impl_ruleValid_2) Try.f71 (wkTab k_slices_ContainsFunc_int__impl_ruleValid_2_1 wkNil) fun _ a b k he => ?_
 unfold c_impl_ruleValid_2 at he; split at he; rotate_left; exact he.elim
 rename_i row o0_0 o0_1 o0_2 o0_3 o0_4
 refine wkGo0 he fun he => ?_
 refine go_if2 he (fun he => ?_) fun he => ?_
 ·exact wkz_28
 ·exact wkRet [(3, [])] (ok_some he :) (leads_au [])

noncomputable def c_slices_IndexFunc_s_int__impl_ruleValid_2 : Con := fun
  | [.c (.imm (.sl (.int .i64)) s_), .c (.fn 71 [0])], [(0, .rc [.int .i64 o0_0, .imm (.int .i64) o0_1, .imm (.int .i64) o0_2, .int .i64 o0_3, .imm (.sl (.int .i64)) o0_4])] => .opt _ (slices_IndexFunc_s_int__impl_ruleValid_2 s_ (o0_0, (o0_1, (o0_2, (o0_3, o0_4))))) (fun r => .ret (.c (.int .i64 r)) [(0, .rc [.int .i64 o0_0, .imm y0_ o0_1, .imm y0_ o0_2, .int .i64 o0_3, .imm (.sl y0_) o0_4])])
  | _, _ => .fail

noncomputable def C_slices_IndexFunc_s_int__impl_ruleValid_2 : Cfg := { y := tys, n := 19, h := 1, tab := [(71, c_impl_ruleValid_2)] }

theorem wkz_29 {P : Prop} (h : P := by
  rintro i _ he
  refine go_if he (fun he => ?_) fun he => ?_
  ·refine go_rq he fun he => ?_
   refine go_bind he fun r1_ he => ?_
   exact wkz_13
  ·exact wkz_7) : P := h

theorem k_slices_IndexFunc_s_int__impl_ruleValid_2 : Entry Try.prog 89 c_slices_IndexFunc_s_int__impl_ruleValid_2 := by
 refine wkEnt (C := C_slices_IndexFunc_s_int__impl_ruleValid_2) Try.f89 (wkTab k_impl_ruleValid_2 wkNil) fun _ a b k he => ?_
 unfold c_slices_IndexFunc_s_int__impl_ruleValid_2 at he; split at he; rotate_left; exact he.elim
 rename_i s_ o0_0 o0_1 o0_2 o0_3 o0_4
 refine wkGo0 he fun he => ?_
 refine wkLoop (slices_IndexFunc_s_int__impl_ruleValid_2_l1 s_ (o0_0, (o0_1, (o0_2, (o0_3, o0_4))))) (fun i => (envOf [(0, .c (.imm (.sl y0_) s_)), (1, .c (.fn 71 [0])), (7, .c (.int .i64 (s_.length:Int))), (8, .c (.int .i64 i))], [(0, .rc [.int .i64 (o0_0, (o0_1, (o0_2, (o0_3, o0_4)))).1, .imm y0_ (o0_0, (o0_1, (o0_2, (o0_3, o0_4)))).2.1, .imm y0_ (o0_0, (o0_1, (o0_2, (o0_3, o0_4)))).2.2.1, .int .i64 (o0_0, (o0_1, (o0_2, (o0_3, o0_4)))).2.2.2.1, .imm (.sl y0_) (o0_0, (o0_1, (o0_2, (o0_3, o0_4)))).2.2.2.2])])) he (leads_au []) ?_
 exact wkz_29

noncomputable def c_slices_ContainsFunc_s_int__impl_ruleValid_2 : Con := fun
  | [.c (.imm (.sl (.int .i64)) s_), .c (.fn 71 [0])], [(0, .rc [.int .i64 o0_0, .imm (.int .i64) o0_1, .imm (.int .i64) o0_2, .int .i64 o0_3, .imm (.sl (.int .i64)) o0_4])] => .opt _ (slices_ContainsFunc_s_int__impl_ruleValid_2 s_ (o0_0, (o0_1, (o0_2, (o0_3, o0_4))))) (fun r => .ret (.c (.bool r)) [(0, .rc [.int .i64 o0_0, .imm y0_ o0_1, .imm y0_ o0_2, .int .i64 o0_3, .imm (.sl y0_) o0_4])])
  | _, _ => .fail

noncomputable def C_slices_ContainsFunc_s_int__impl_ruleValid_2 : Cfg := { y := tys, n := 9, h := 1, tab := [(89, c_slices_IndexFunc_s_int__impl_ruleValid_2)] }

theorem k_slices_ContainsFunc_s_int__impl_ruleValid_2 : Entry Try.prog 70 c_slices_ContainsFunc_s_int__impl_ruleValid_2 := by
 refine wkEnt (C := C_slices_ContainsFunc_s_int__impl_ruleValid_2) Try.f70 (wkTab k_slices_IndexFunc_s_int__impl_ruleValid_2 wkNil) fun _ a b k he => ?_
 unfold c_slices_ContainsFunc_s_int__impl_ruleValid_2 at he; split at he; rotate_left; exact he.elim
 rename_i s_ o0_0 o0_1 o0_2 o0_3 o0_4
 refine wkGo0 he fun he => ?_
 refine go_bind he fun r1_ he => ?_
 exact wkz_7

noncomputable def c_impl_ruleValid : Con := fun
  | [.agg [.int .i64 a0_0, .imm (.int .i64) a0_1, .imm (.int .i64) a0_2, .int .i64 a0_3, .imm (.sl (.int .i64)) a0_4], .c (.int .i64 a1)], [] => .opt _ (impl_ruleValid (a0_0, (a0_1, (a0_2, (a0_3, a0_4)))) a1) (fun r => .ret (.c (.bool r)) [])
  | _, _ => .fail

noncomputable def C_impl_ruleValid : Cfg := { y := tys, n := 104, h := 0, tab := [(47, c_impl_within), (67, c_slices_Contains_int), (68, c_slices_ContainsFunc_int__impl_ruleValid_1), (70, c_slices_ContainsFunc_s_int__impl_ruleValid_2)], cut := [9] }

theorem wkz_30 {P : Prop} (h : P := by
  refine go_if he (fun he => ?_) fun he => ?_
  ·refine go_if he (fun he => ?_) fun he => ?_
   ·exact wkz_7
   ·exact ⟨_, he, (leads_au [(10001000, 10000000)])⟩
  ·exact ⟨_, he, (leads_au [(10001000, 10000000)])⟩) : P := h

theorem k_impl_ruleValid : Entry Try.prog 50 c_impl_ruleValid := by
 refine wkEnt (C := C_impl_ruleValid) Try.f50 (wkTab k_impl_within (wkTab k_slices_Contains_int (wkTab k_slices_ContainsFunc_int__impl_ruleValid_1 (wkTab k_slices_ContainsFunc_s_int__impl_ruleValid_2 wkNil)))) fun _ a b k he => ?_
 unfold c_impl_ruleValid at he; split at he; rotate_left; exact he.elim
 rename_i a0_0 a0_1 a0_2 a0_3 a0_4 a1
 refine wkGo0 he fun he => ?_
 refine wkLoop (impl_ruleValid_l1 (a0_0, (a0_1, (a0_2, (a0_3, a0_4)))) a1) (fun i => (envOf [(1, .c (.int .i64 a1)), (2, .c (.ptr 10000000 0)), (8, .c (.imm y0_ (a0_0, (a0_1, (a0_2, (a0_3, a0_4)))).2.1)), (9, .c (.int .i64 ((a0_0, (a0_1, (a0_2, (a0_3, a0_4)))).2.1.length:Int))), (10, .c (.int .i64 i))], [(10000000, .rc [.int .i64 (a0_0, (a0_1, (a0_2, (a0_3, a0_4)))).1, .imm y0_ (a0_0, (a0_1, (a0_2, (a0_3, a0_4)))).2.1, .imm y0_ (a0_0, (a0_1, (a0_2, (a0_3, a0_4)))).2.2.1, .int .i64 (a0_0, (a0_1, (a0_2, (a0_3, a0_4)))).2.2.2.1, .imm (.sl y0_) (a0_0, (a0_1, (a0_2, (a0_3, a0_4)))).2.2.2.2])])) he (leads_au [(10000000, 2)]) ?_
 rintro i _ he
 refine go_if he (fun he => ?_) fun he => ?_
 ·refine go_rq he fun he => ?_
  refine go_rq he fun he => ?_
  refine go_bind he fun r1_ he => ?_
  refine go_if2 he (fun he => ?_) fun he => ?_
  ·refine go_rq he fun he => ?_
   refine go_bind he fun r2_ he => ?_
   exact wkz_13
  ·exact wkz_7
 ·refine wkSeq (impl_ruleValid_j1 (a0_0, (a0_1, (a0_2, (a0_3, a0_4))))) (fun _ => (envOf [(2, .c (.ptr 10001000 0))], [(10001000, .rc [.int .i64 (a0_0, (a0_1, (a0_2, (a0_3, a0_4)))).1, .imm y0_ (a0_0, (a0_1, (a0_2, (a0_3, a0_4)))).2.1, .imm y0_ (a0_0, (a0_1, (a0_2, (a0_3, a0_4)))).2.2.1, .int .i64 (a0_0, (a0_1, (a0_2, (a0_3, a0_4)))).2.2.2.1, .imm (.sl y0_) (a0_0, (a0_1, (a0_2, (a0_3, a0_4)))).2.2.2.2])])) he ?_ ?_
  ·rintro ⟨⟩ he
   refine go_if he (fun he => ?_) fun he => ?_
   ·refine go_if he (fun he => ?_) fun he => ?_
    ·refine go_bind he fun r3_ he => ?_
     refine go_if he (fun he => ?_) fun he => ?_
     ·refine go_bind he fun r4_ he => ?_
      exact wkz_7
     ·exact wkz_7
    ·exact wkz_7
   ·refine go_if he (fun he => ?_) fun he => ?_
    ·refine go_if he (fun he => ?_) fun he => ?_
     ·refine go_bind he fun r5_ he => ?_
      exact wkz_7
     ·exact wkz_7
    ·exact wkz_8
  ·skip
   refine go_if2 he (fun he => ?_) fun he => ?_
   ·refine go_if he (fun he => ?_) fun he => ?_
    ·refine go_if2 he (fun he => ?_) fun he => ?_
     ·refine go_if2 he (fun he => ?_) fun he => ?_
      ·exact wkz_30
      ·exact wkz_7
     ·exact wkz_7
    ·exact wkz_30
   ·exact wkz_7

noncomputable def c_impl_ModelValid_1 : Con := fun
  | [.agg [.int .i64 r__0, .imm (.int .i64) r__1, .imm (.int .i64) r__2, .int .i64 r__3, .imm (.sl (.int .i64)) r__4], .c (.ptr 0 0)], [(0, .rc [.imm (.int .i64) o0_0, .imm (.pair (.int .i64) (.pair (.sl (.int .i64)) (.pair (.sl (.int .i64)) (.pair (.int .i64) (.sl (.sl (.int .i64))))))) o0_1])] => .opt _ (impl_ModelValid_1 (r__0, (r__1, (r__2, (r__3, r__4)))) (o0_0, o0_1)) (fun r => .ret (.c (.bool r)) [(0, .rc [.imm y0_ o0_0, .imm y4_ o0_1])])
  | _, _ => .fail

noncomputable def C_impl_ModelValid_1 : Cfg := { y := tys, n := 10, h := 1, tab := [(50, c_impl_ruleValid)] }

theorem k_impl_ModelValid_1 : Entry Try.prog 49 c_impl_ModelValid_1 := by
 refine wkEnt (C := C_impl_ModelValid_1) Try.f49 (wkTab k_impl_ruleValid wkNil) fun _ a b k he => ?_
 unfold c_impl_ModelValid_1 at he; split at he; rotate_left; exact he.elim
 rename_i r__0 r__1 r__2 r__3 r__4 o0_0 o0_1
 refine wkGo0 he fun he => ?_
 refine go_bind he fun r1_ he => ?_
 exact wkRet [(3, [])] (ok_some he :) (leads_au [])

noncomputable def c_slices_IndexFunc_impl_Rule__impl_ModelValid_1 : Con := fun
  | [.c (.imm (.pair (.int .i64) (.pair (.sl (.int .i64)) (.pair (.sl (.int .i64)) (.pair (.int .i64) (.sl (.sl (.int .i64))))))) s_), .c (.fn 49 [0])], [(0, .rc [.imm (.int .i64) o0_0, .imm (.pair (.int .i64) (.pair (.sl (.int .i64)) (.pair (.sl (.int .i64)) (.pair (.int .i64) (.sl (.sl (.int .i64))))))) o0_1])] => .opt _ (slices_IndexFunc_impl_Rule__impl_ModelValid_1 s_ (o0_0, o0_1)) (fun r => .ret (.c (.int .i64 r)) [(0, .rc [.imm y0_ o0_0, .imm y4_ o0_1])])
  | _, _ => .fail

noncomputable def C_slices_IndexFunc_impl_Rule__impl_ModelValid_1 : Cfg := { y := tys, n := 19, h := 1, tab := [(49, c_impl_ModelValid_1)] }

theorem k_slices_IndexFunc_impl_Rule__impl_ModelValid_1 : Entry Try.prog 66 c_slices_IndexFunc_impl_Rule__impl_ModelValid_1 := by
 refine wkEnt (C := C_slices_IndexFunc_impl_Rule__impl_ModelValid_1) Try.f66 (wkTab k_impl_ModelValid_1 wkNil) fun _ a b k he => ?_
 unfold c_slices_IndexFunc_impl_Rule__impl_ModelValid_1 at he; split at he; rotate_left; exact he.elim
 rename_i s_ o0_0 o0_1
 refine wkGo0 he fun he => ?_
 refine wkLoop (slices_IndexFunc_impl_Rule__impl_ModelValid_1_l1 s_ (o0_0, o0_1)) (fun i => (envOf [(0, .c (.imm y4_ s_)), (1, .c (.fn 49 [0])), (7, .c (.int .i64 (s_.length:Int))), (8, .c (.int .i64 i))], [(0, .rc [.imm y0_ (o0_0, o0_1).1, .imm y4_ (o0_0, o0_1).2])])) he (leads_au []) ?_
 exact wkz_29

noncomputable def c_slices_ContainsFunc_impl_Rule__impl_ModelValid_1 : Con := fun
  | [.c (.imm (.pair (.int .i64) (.pair (.sl (.int .i64)) (.pair (.sl (.int .i64)) (.pair (.int .i64) (.sl (.sl (.int .i64))))))) s_), .c (.fn 49 [0])], [(0, .rc [.imm (.int .i64) o0_0, .imm (.pair (.int .i64) (.pair (.sl (.int .i64)) (.pair (.sl (.int .i64)) (.pair (.int .i64) (.sl (.sl (.int .i64))))))) o0_1])] => .opt _ (slices_ContainsFunc_impl_Rule__impl_ModelValid_1 s_ (o0_0, o0_1)) (fun r => .ret (.c (.bool r)) [(0, .rc [.imm y0_ o0_0, .imm y4_ o0_1])])
  | _, _ => .fail

noncomputable def C_slices_ContainsFunc_impl_Rule__impl_ModelValid_1 : Cfg := { y := tys, n := 9, h := 1, tab := [(66, c_slices_IndexFunc_impl_Rule__impl_ModelValid_1)] }

theorem k_slices_ContainsFunc_impl_Rule__impl_ModelValid_1 : Entry Try.prog 48 c_slices_ContainsFunc_impl_Rule__impl_ModelValid_1 := by
 refine wkEnt (C := C_slices_ContainsFunc_impl_Rule__impl_ModelValid_1) Try.f48 (wkTab k_slices_IndexFunc_impl_Rule__impl_ModelValid_1 wkNil) fun _ a b k he => ?_
 unfold c_slices_ContainsFunc_impl_Rule__impl_ModelValid_1 at he; split at he; rotate_left; exact he.elim
 rename_i s_ o0_0 o0_1
 refine wkGo0 he fun he => ?_
 refine go_bind he fun r1_ he => ?_
 exact wkz_7

noncomputable def c_impl_ModelValid : Con := fun
  | [.agg [.imm (.int .i64) m_0, .imm (.pair (.int .i64) (.pair (.sl (.int .i64)) (.pair (.sl (.int .i64)) (.pair (.int .i64) (.sl (.sl (.int .i64))))))) m_1]], [] => .opt _ (impl_ModelValid (m_0, m_1)) (fun r => .ret (.c (.bool r)) [])
  | _, _ => .fail

noncomputable def C_impl_ModelValid : Cfg := { y := tys, n := 41, h := 0, tab := [(47, c_impl_within), (48, c_slices_ContainsFunc_impl_Rule__impl_ModelValid_1)] }

theorem k_impl_ModelValid : Entry Try.prog 22 c_impl_ModelValid := by
 refine wkEnt (C := C_impl_ModelValid) Try.f22 (wkTab k_impl_within (wkTab k_slices_ContainsFunc_impl_Rule__impl_ModelValid_1 wkNil)) fun _ a b k he => ?_
 unfold c_impl_ModelValid at he; split at he; rotate_left; exact he.elim
 rename_i m_0 m_1
 refine wkGo0 he fun he => ?_
 refine go_bind he fun r1_ he => ?_
 refine go_if2 he (fun he => ?_) fun he => ?_
 ·refine go_if he (fun he => ?_) fun he => ?_
  ·exact wkz_14
  ·refine wkLoop (impl_ModelValid_l1 (m_0, m_1)) (fun (count, i) => (envOf [(1, .c (.ptr 10000000 0)), (3, .c (.int .i64 count)), (18, .c (.imm y0_ (m_0, m_1).1)), (19, .c (.int .i64 ((m_0, m_1).1.length:Int))), (20, .c (.int .i64 i))], [(10000000, .rc [.imm y0_ (m_0, m_1).1, .imm y4_ (m_0, m_1).2])])) he (leads_au [(10000000, 1)]) ?_
   rintro ⟨count, i⟩ _ he
   refine go_if he (fun he => ?_) fun he => ?_
   ·refine go_rq he fun he => ?_
    refine go_bind he fun r2_ he => ?_
    refine go_if he (fun he => ?_) fun he => ?_
    ·exact wkz_14
    ·exact wkz_11
   ·refine go_if he (fun he => ?_) fun he => ?_
    ·refine go_bind he fun r3_ he => ?_
     exact wkz_14
    ·exact wkz_14
 ·exact wkz_14

noncomputable def c_impl_isRule : Con := fun
  | [.agg [.imm (.int .i64) m_0, .imm (.pair (.int .i64) (.pair (.sl (.int .i64)) (.pair (.sl (.int .i64)) (.pair (.int .i64) (.sl (.sl (.int .i64))))))) m_1], .c (.int .i64 rule)], [] => .opt _ (impl_isRule (m_0, m_1) rule) (fun r => .ret (.c (.bool r)) [])
  | _, _ => .fail

noncomputable def C_impl_isRule : Cfg := { y := tys, n := 11, h := 0, tab := [(47, c_impl_within)] }

theorem wkz_31 {P : Prop} (h : P := by
  refine go_bind he fun r1_ he => ?_
  exact wkz_7) : P := h

theorem k_impl_isRule : Entry Try.prog 23 c_impl_isRule := by
 refine wkEnt (C := C_impl_isRule) Try.f23 (wkTab k_impl_within wkNil) fun _ a b k he => ?_
 unfold c_impl_isRule at he; split at he; rotate_left; exact he.elim
 rename_i m_0 m_1 rule
 refine wkGo0 he fun he => ?_
 refine go_rq he fun he => ?_
 exact wkz_31

noncomputable def c_slices_Clone_int : Con := fun
  | [.c (.imm (.int .i64) s_)], [] => .opt _ (slices_Clone_int s_) (fun r => .ret (.c (.own 900 false)) [(900, .sl 3 y0_ r .shallow)])
  | _, _ => .fail

noncomputable def C_slices_Clone_int : Cfg := { y := tys, n := 8, h := 0, tab := [] }

theorem k_slices_Clone_int : Entry Try.prog 73 c_slices_Clone_int := by
 refine wkEnt (C := C_slices_Clone_int) Try.f73 wkNil fun _ a b k he => ?_
 unfold c_slices_Clone_int at he; split at he; rotate_left; exact he.elim
 rename_i s_
 refine wkGo0 he fun he => ?_
 refine fun b1_ hb1_ => ?_
 have he := ok_nt he hb1_
 refine And.intro (fun hb => ?_) (fun hb => ?_)
 ·have he := ok_t he hb
  exact wkz_14
 ·have he := ok_f he hb
  refine go_rq he fun he => ?_
  exact wkRet [(2, [])] (ok_some he :) (leads_au [(900, 7)])

end Go.AE.Y
