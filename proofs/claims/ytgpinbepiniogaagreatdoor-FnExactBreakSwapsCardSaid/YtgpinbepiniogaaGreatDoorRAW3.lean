/-
  Walks: each function keeps the contract that its model gives. No conditions.
-/
import Derived.Test.YtgpinbepiniogaaGreatDoorRATab
import Derived.Test.YtgpinbepiniogaaGreatDoorRAW2
import Derived.Test.YtgpinbepiniogaaGreatDoorRAS
namespace Go.AE.Y
open Go Go.AE Go.Proofs
set_option linter.unusedVariables false
set_option maxHeartbeats 2000000
set_option maxRecDepth 100000

noncomputable def c_impl_ruleValid_2_1 : Con := fun
  | [.c (.int .i64 n)], [] => .opt _ (impl_ruleValid_2_1 n) (fun r => .ret (.c (.bool r)) [])
  | _, _ => .fail

noncomputable def C_impl_ruleValid_2_1 : Cfg := { y := tys, n := 6, h := 0, tab := [(54, c_impl_within)] }

theorem k_impl_ruleValid_2_1 : Entry Tryz.prog 97 c_impl_ruleValid_2_1 := by
 refine wkEnt (C := C_impl_ruleValid_2_1) Tryz.f97 (wkTab k_impl_within wkNil) fun _ a b k he => ?_
 unfold c_impl_ruleValid_2_1 at he; split at he; rotate_left; exact he.elim
 rename_i n
 refine wkGo0 he fun he => ?_
 refine go_bind he fun r1_ he => ?_
 exact wkz_1

noncomputable def c_slices_IndexFunc_int__impl_ruleValid_2_1 : Con := fun
  | [.c (.imm (.int .i64) s_), .c (.fn 97 [])], [] => .opt _ (slices_IndexFunc_int__impl_ruleValid_2_1 s_) (fun r => .ret (.c (.int .i64 r)) [])
  | _, _ => .fail

noncomputable def C_slices_IndexFunc_int__impl_ruleValid_2_1 : Cfg := { y := tys, n := 19, h := 0, tab := [(97, c_impl_ruleValid_2_1)] }

theorem k_slices_IndexFunc_int__impl_ruleValid_2_1 : Entry Tryz.prog 124 c_slices_IndexFunc_int__impl_ruleValid_2_1 := by
 refine wkEnt (C := C_slices_IndexFunc_int__impl_ruleValid_2_1) Tryz.f124 (wkTab k_impl_ruleValid_2_1 wkNil) fun _ a b k he => ?_
 unfold c_slices_IndexFunc_int__impl_ruleValid_2_1 at he; split at he; rotate_left; exact he.elim
 rename_i s_
 refine wkGo0 he fun he => ?_
 refine wkLoop (slices_IndexFunc_int__impl_ruleValid_2_1_l1 s_) (fun i => (envOf [(0, .c (.imm y0_ s_)), (1, .c (.fn 97 [])), (7, .c (.int .i64 (s_.length:Int))), (8, .c (.int .i64 i))], [])) he (leads_au []) ?_
 rintro i _ he
 exact wkz_6

noncomputable def c_slices_ContainsFunc_int__impl_ruleValid_2_1 : Con := fun
  | [.c (.imm (.int .i64) s_), .c (.fn 97 [])], [] => .opt _ (slices_ContainsFunc_int__impl_ruleValid_2_1 s_) (fun r => .ret (.c (.bool r)) [])
  | _, _ => .fail

noncomputable def C_slices_ContainsFunc_int__impl_ruleValid_2_1 : Cfg := { y := tys, n := 9, h := 0, tab := [(124, c_slices_IndexFunc_int__impl_ruleValid_2_1)] }

theorem k_slices_ContainsFunc_int__impl_ruleValid_2_1 : Entry Tryz.prog 93 c_slices_ContainsFunc_int__impl_ruleValid_2_1 := by
 refine wkEnt (C := C_slices_ContainsFunc_int__impl_ruleValid_2_1) Tryz.f93 (wkTab k_slices_IndexFunc_int__impl_ruleValid_2_1 wkNil) fun _ a b k he => ?_
 unfold c_slices_ContainsFunc_int__impl_ruleValid_2_1 at he; split at he; rotate_left; exact he.elim
 rename_i s_
 refine wkGo0 he fun he => ?_
 refine go_bind he fun r1_ he => ?_
 exact wkz_1

noncomputable def c_impl_ruleValid_2 : Con := fun
  | [.c (.imm (.int .i64) row), .c (.ptr 0 0)], [(0, .rc [.int .i64 o0_0, .imm (.int .i64) o0_1, .imm (.int .i64) o0_2, .int .i64 o0_3, .imm (.sl (.int .i64)) o0_4])] => .opt _ (impl_ruleValid_2 row (o0_0, (o0_1, (o0_2, (o0_3, o0_4))))) (fun r => .ret (.c (.bool r)) [(0, .rc [.int .i64 o0_0, .imm y0_ o0_1, .imm y0_ o0_2, .int .i64 o0_3, .imm (.sl y0_) o0_4])])
  | _, _ => .fail

noncomputable def C_impl_ruleValid_2 : Cfg := { y := tys, n := 14, h := 1, tab := [(93, c_slices_ContainsFunc_int__impl_ruleValid_2_1)] }

theorem wkz_49 {P : Prop} (h : P := by
  refine go_bind he fun r1_ he => ?_
  exact wkRet [(3, [])] (ok_some he :) (leads_au [])) : P := h

theorem k_impl_ruleValid_2 : Entry Tryz.prog 96 c_impl_ruleValid_2 := by
 refine wkEnt (C := C_impl_ruleValid_2) Tryz.f96 (wkTab k_slices_ContainsFunc_int__impl_ruleValid_2_1 wkNil) fun _ a b k he => ?_
 unfold c_impl_ruleValid_2 at he; split at he; rotate_left; exact he.elim
 rename_i row o0_0 o0_1 o0_2 o0_3 o0_4
 refine wkGo0 he fun he => ?_
 refine go_if2 he (fun he => ?_) fun he => ?_
 ·exact wkz_49
 ·exact wkRet [(3, [])] (ok_some he :) (leads_au [])

noncomputable def c_slices_IndexFunc_s_int__impl_ruleValid_2 : Con := fun
  | [.c (.imm (.sl (.int .i64)) s_), .c (.fn 96 [0])], [(0, .rc [.int .i64 o0_0, .imm (.int .i64) o0_1, .imm (.int .i64) o0_2, .int .i64 o0_3, .imm (.sl (.int .i64)) o0_4])] => .opt _ (slices_IndexFunc_s_int__impl_ruleValid_2 s_ (o0_0, (o0_1, (o0_2, (o0_3, o0_4))))) (fun r => .ret (.c (.int .i64 r)) [(0, .rc [.int .i64 o0_0, .imm y0_ o0_1, .imm y0_ o0_2, .int .i64 o0_3, .imm (.sl y0_) o0_4])])
  | _, _ => .fail

noncomputable def C_slices_IndexFunc_s_int__impl_ruleValid_2 : Cfg := { y := tys, n := 19, h := 1, tab := [(96, c_impl_ruleValid_2)] }

theorem wkz_50 {P : Prop} (h : P := by
  rintro i _ he
  refine go_if he (fun he => ?_) fun he => ?_
  ·refine go_rq he fun he => ?_
   refine go_bind he fun r1_ he => ?_
   exact wkz_14
  ·exact wkz_7) : P := h

theorem k_slices_IndexFunc_s_int__impl_ruleValid_2 : Entry Tryz.prog 125 c_slices_IndexFunc_s_int__impl_ruleValid_2 := by
 refine wkEnt (C := C_slices_IndexFunc_s_int__impl_ruleValid_2) Tryz.f125 (wkTab k_impl_ruleValid_2 wkNil) fun _ a b k he => ?_
 unfold c_slices_IndexFunc_s_int__impl_ruleValid_2 at he; split at he; rotate_left; exact he.elim
 rename_i s_ o0_0 o0_1 o0_2 o0_3 o0_4
 refine wkGo0 he fun he => ?_
 refine wkLoop (slices_IndexFunc_s_int__impl_ruleValid_2_l1 s_ (o0_0, (o0_1, (o0_2, (o0_3, o0_4))))) (fun i => (envOf [(0, .c (.imm (.sl y0_) s_)), (1, .c (.fn 96 [0])), (7, .c (.int .i64 (s_.length:Int))), (8, .c (.int .i64 i))], [(0, .rc [.int .i64 (o0_0, (o0_1, (o0_2, (o0_3, o0_4)))).1, .imm y0_ (o0_0, (o0_1, (o0_2, (o0_3, o0_4)))).2.1, .imm y0_ (o0_0, (o0_1, (o0_2, (o0_3, o0_4)))).2.2.1, .int .i64 (o0_0, (o0_1, (o0_2, (o0_3, o0_4)))).2.2.2.1, .imm (.sl y0_) (o0_0, (o0_1, (o0_2, (o0_3, o0_4)))).2.2.2.2])])) he (leads_au []) ?_
 exact wkz_50

noncomputable def c_slices_ContainsFunc_s_int__impl_ruleValid_2 : Con := fun
  | [.c (.imm (.sl (.int .i64)) s_), .c (.fn 96 [0])], [(0, .rc [.int .i64 o0_0, .imm (.int .i64) o0_1, .imm (.int .i64) o0_2, .int .i64 o0_3, .imm (.sl (.int .i64)) o0_4])] => .opt _ (slices_ContainsFunc_s_int__impl_ruleValid_2 s_ (o0_0, (o0_1, (o0_2, (o0_3, o0_4))))) (fun r => .ret (.c (.bool r)) [(0, .rc [.int .i64 o0_0, .imm y0_ o0_1, .imm y0_ o0_2, .int .i64 o0_3, .imm (.sl y0_) o0_4])])
  | _, _ => .fail

noncomputable def C_slices_ContainsFunc_s_int__impl_ruleValid_2 : Cfg := { y := tys, n := 9, h := 1, tab := [(125, c_slices_IndexFunc_s_int__impl_ruleValid_2)] }

theorem k_slices_ContainsFunc_s_int__impl_ruleValid_2 : Entry Tryz.prog 95 c_slices_ContainsFunc_s_int__impl_ruleValid_2 := by
 refine wkEnt (C := C_slices_ContainsFunc_s_int__impl_ruleValid_2) Tryz.f95 (wkTab k_slices_IndexFunc_s_int__impl_ruleValid_2 wkNil) fun _ a b k he => ?_
 unfold c_slices_ContainsFunc_s_int__impl_ruleValid_2 at he; split at he; rotate_left; exact he.elim
 rename_i s_ o0_0 o0_1 o0_2 o0_3 o0_4
 refine wkGo0 he fun he => ?_
 refine go_bind he fun r1_ he => ?_
 exact wkz_7

noncomputable def c_impl_ruleValid : Con := fun
  | [.agg [.int .i64 a0_0, .imm (.int .i64) a0_1, .imm (.int .i64) a0_2, .int .i64 a0_3, .imm (.sl (.int .i64)) a0_4], .c (.int .i64 a1)], [] => .opt _ (impl_ruleValid (a0_0, (a0_1, (a0_2, (a0_3, a0_4)))) a1) (fun r => .ret (.c (.bool r)) [])
  | _, _ => .fail

noncomputable def C_impl_ruleValid : Cfg := { y := tys, n := 104, h := 0, tab := [(54, c_impl_within), (80, c_slices_Contains_int), (93, c_slices_ContainsFunc_int__impl_ruleValid_1), (95, c_slices_ContainsFunc_s_int__impl_ruleValid_2)], cut := [9] }

theorem wkz_51 {P : Prop} (h : P := by
  refine go_if he (fun he => ?_) fun he => ?_
  ·refine go_if he (fun he => ?_) fun he => ?_
   ·exact wkz_7
   ·exact ⟨_, he, (leads_au [(10001000, 10000000)])⟩
  ·exact ⟨_, he, (leads_au [(10001000, 10000000)])⟩) : P := h

theorem k_impl_ruleValid : Entry Tryz.prog 57 c_impl_ruleValid := by
 refine wkEnt (C := C_impl_ruleValid) Tryz.f57 (wkTab k_impl_within (wkTab k_slices_Contains_int (wkTab k_slices_ContainsFunc_int__impl_ruleValid_1 (wkTab k_slices_ContainsFunc_s_int__impl_ruleValid_2 wkNil)))) fun _ a b k he => ?_
 unfold c_impl_ruleValid at he; split at he; rotate_left; exact he.elim
 rename_i a0_0 a0_1 a0_2 a0_3 a0_4 a1
 refine wkGo0 he fun he => ?_
 refine wkLoop (impl_ruleValid_l1 (a0_0, (a0_1, (a0_2, (a0_3, a0_4)))) a1) (fun i => (envOf [(1, .c (.int .i64 a1)), (2, .c (.ptr 10000000 0)), (8, .c (.imm y0_ (a0_0, (a0_1, (a0_2, (a0_3, a0_4)))).2.1)), (9, .c (.int .i64 ((a0_0, (a0_1, (a0_2, (a0_3, a0_4)))).2.1.length:Int))), (10, .c (.int .i64 i))], [(10000000, .rc [.int .i64 (a0_0, (a0_1, (a0_2, (a0_3, a0_4)))).1, .imm y0_ (a0_0, (a0_1, (a0_2, (a0_3, a0_4)))).2.1, .imm y0_ (a0_0, (a0_1, (a0_2, (a0_3, a0_4)))).2.2.1, .int .i64 (a0_0, (a0_1, (a0_2, (a0_3, a0_4)))).2.2.2.1, .imm (.sl y0_) (a0_0, (a0_1, (a0_2, (a0_3, a0_4)))).2.2.2.2])])) he (leads_au [(10000000, 2)]) ?_
 rintro i _ he
 refine go_if he (fun he => ?_) fun he => ?_
 ·refine go_rq he fun he => ?_
  refine go_rq he fun he => ?_
  refine go_bind he fun r1_ he => ?_
  refine go_if2 he (fun he => ?_) fun he => ?_
  ·refine go_rq he fun he => ?_
   refine go_bind he fun r2_ he => ?_
   exact wkz_14
  ·exact wkz_7
 ·refine wkSeq (impl_ruleValid_j1 (a0_0, (a0_1, (a0_2, (a0_3, a0_4))))) (fun _ => (envOf [(2, .c (.ptr 10001000 0))], [(10001000, .rc [.int .i64 (a0_0, (a0_1, (a0_2, (a0_3, a0_4)))).1, .imm y0_ (a0_0, (a0_1, (a0_2, (a0_3, a0_4)))).2.1, .imm y0_ (a0_0, (a0_1, (a0_2, (a0_3, a0_4)))).2.2.1, .int .i64 (a0_0, (a0_1, (a0_2, (a0_3, a0_4)))).2.2.2.1, .imm (.sl y0_) (a0_0, (a0_1, (a0_2, (a0_3, a0_4)))).2.2.2.2])])) he ?_ ?_
  ·rintro ⟨⟩ he
   refine go_if he (fun he => ?_) fun he => ?_
   ·refine go_if he (fun he => ?_) fun he => ?_
    ·refine go_bind he fun r3_ he => ?_
     refine go_if he (fun he => ?_) fun he => ?_
     ·refine go_bind he fun r4_ he => ?_
      exact wkz_7
     ·exact wkz_7
    ·exact wkz_7
   ·refine go_if he (fun he => ?_) fun he => ?_
    ·refine go_if he (fun he => ?_) fun he => ?_
     ·refine go_bind he fun r5_ he => ?_
      exact wkz_7
     ·exact wkz_7
    ·exact wkz_8
  ·skip
   refine go_if2 he (fun he => ?_) fun he => ?_
   ·refine go_if he (fun he => ?_) fun he => ?_
    ·refine go_if2 he (fun he => ?_) fun he => ?_
     ·refine go_if2 he (fun he => ?_) fun he => ?_
      ·exact wkz_51
      ·exact wkz_7
     ·exact wkz_7
    ·exact wkz_51
   ·exact wkz_7

noncomputable def c_impl_ModelValid_1 : Con := fun
  | [.agg [.int .i64 r__0, .imm (.int .i64) r__1, .imm (.int .i64) r__2, .int .i64 r__3, .imm (.sl (.int .i64)) r__4], .c (.ptr 0 0)], [(0, .rc [.imm (.int .i64) o0_0, .imm (.pair (.int .i64) (.pair (.sl (.int .i64)) (.pair (.sl (.int .i64)) (.pair (.int .i64) (.sl (.sl (.int .i64))))))) o0_1])] => .opt _ (impl_ModelValid_1 (r__0, (r__1, (r__2, (r__3, r__4)))) (o0_0, o0_1)) (fun r => .ret (.c (.bool r)) [(0, .rc [.imm y0_ o0_0, .imm y4_ o0_1])])
  | _, _ => .fail

noncomputable def C_impl_ModelValid_1 : Cfg := { y := tys, n := 10, h := 1, tab := [(57, c_impl_ruleValid)] }

theorem k_impl_ModelValid_1 : Entry Tryz.prog 56 c_impl_ModelValid_1 := by
 refine wkEnt (C := C_impl_ModelValid_1) Tryz.f56 (wkTab k_impl_ruleValid wkNil) fun _ a b k he => ?_
 unfold c_impl_ModelValid_1 at he; split at he; rotate_left; exact he.elim
 rename_i r__0 r__1 r__2 r__3 r__4 o0_0 o0_1
 refine wkGo0 he fun he => ?_
 refine go_bind he fun r1_ he => ?_
 exact wkRet [(3, [])] (ok_some he :) (leads_au [])

noncomputable def c_slices_IndexFunc_impl_Rule__impl_ModelValid_1 : Con := fun
  | [.c (.imm (.pair (.int .i64) (.pair (.sl (.int .i64)) (.pair (.sl (.int .i64)) (.pair (.int .i64) (.sl (.sl (.int .i64))))))) s_), .c (.fn 56 [0])], [(0, .rc [.imm (.int .i64) o0_0, .imm (.pair (.int .i64) (.pair (.sl (.int .i64)) (.pair (.sl (.int .i64)) (.pair (.int .i64) (.sl (.sl (.int .i64))))))) o0_1])] => .opt _ (slices_IndexFunc_impl_Rule__impl_ModelValid_1 s_ (o0_0, o0_1)) (fun r => .ret (.c (.int .i64 r)) [(0, .rc [.imm y0_ o0_0, .imm y4_ o0_1])])
  | _, _ => .fail

noncomputable def C_slices_IndexFunc_impl_Rule__impl_ModelValid_1 : Cfg := { y := tys, n := 19, h := 1, tab := [(56, c_impl_ModelValid_1)] }

theorem k_slices_IndexFunc_impl_Rule__impl_ModelValid_1 : Entry Tryz.prog 92 c_slices_IndexFunc_impl_Rule__impl_ModelValid_1 := by
 refine wkEnt (C := C_slices_IndexFunc_impl_Rule__impl_ModelValid_1) Tryz.f92 (wkTab k_impl_ModelValid_1 wkNil) fun _ a b k he => ?_
 unfold c_slices_IndexFunc_impl_Rule__impl_ModelValid_1 at he; split at he; rotate_left; exact he.elim
 rename_i s_ o0_0 o0_1
 refine wkGo0 he fun he => ?_
 refine wkLoop (slices_IndexFunc_impl_Rule__impl_ModelValid_1_l1 s_ (o0_0, o0_1)) (fun i => (envOf [(0, .c (.imm y4_ s_)), (1, .c (.fn 56 [0])), (7, .c (.int .i64 (s_.length:Int))), (8, .c (.int .i64 i))], [(0, .rc [.imm y0_ (o0_0, o0_1).1, .imm y4_ (o0_0, o0_1).2])])) he (leads_au []) ?_
 exact wkz_50

noncomputable def c_slices_ContainsFunc_impl_Rule__impl_ModelValid_1 : Con := fun
  | [.c (.imm (.pair (.int .i64) (.pair (.sl (.int .i64)) (.pair (.sl (.int .i64)) (.pair (.int .i64) (.sl (.sl (.int .i64))))))) s_), .c (.fn 56 [0])], [(0, .rc [.imm (.int .i64) o0_0, .imm (.pair (.int .i64) (.pair (.sl (.int .i64)) (.pair (.sl (.int .i64)) (.pair (.int .i64) (.sl (.sl (.int .i64))))))) o0_1])] => .opt _ (slices_ContainsFunc_impl_Rule__impl_ModelValid_1 s_ (o0_0, o0_1)) (fun r => .ret (.c (.bool r)) [(0, .rc [.imm y0_ o0_0, .imm y4_ o0_1])])
  | _, _ => .fail

noncomputable def C_slices_ContainsFunc_impl_Rule__impl_ModelValid_1 : Cfg := { y := tys, n := 9, h := 1, tab := [(92, c_slices_IndexFunc_impl_Rule__impl_ModelValid_1)] }

theorem k_slices_ContainsFunc_impl_Rule__impl_ModelValid_1 : Entry Tryz.prog 55 c_slices_ContainsFunc_impl_Rule__impl_ModelValid_1 := by
 refine wkEnt (C := C_slices_ContainsFunc_impl_Rule__impl_ModelValid_1) Tryz.f55 (wkTab k_slices_IndexFunc_impl_Rule__impl_ModelValid_1 wkNil) fun _ a b k he => ?_
 unfold c_slices_ContainsFunc_impl_Rule__impl_ModelValid_1 at he; split at he; rotate_left; exact he.elim
 rename_i s_ o0_0 o0_1
 refine wkGo0 he fun he => ?_
 refine go_bind he fun r1_ he => ?_
 exact wkz_7

noncomputable def c_impl_ModelValid : Con := fun
  | [.agg [.imm (.int .i64) m_0, .imm (.pair (.int .i64) (.pair (.sl (.int .i64)) (.pair (.sl (.int .i64)) (.pair (.int .i64) (.sl (.sl (.int .i64))))))) m_1]], [] => .opt _ (impl_ModelValid (m_0, m_1)) (fun r => .ret (.c (.bool r)) [])
  | _, _ => .fail

noncomputable def C_impl_ModelValid : Cfg := { y := tys, n := 41, h := 0, tab := [(54, c_impl_within), (55, c_slices_ContainsFunc_impl_Rule__impl_ModelValid_1)] }

theorem k_impl_ModelValid : Entry Tryz.prog 22 c_impl_ModelValid := by
 refine wkEnt (C := C_impl_ModelValid) Tryz.f22 (wkTab k_impl_within (wkTab k_slices_ContainsFunc_impl_Rule__impl_ModelValid_1 wkNil)) fun _ a b k he => ?_
 unfold c_impl_ModelValid at he; split at he; rotate_left; exact he.elim
 rename_i m_0 m_1
 refine wkGo0 he fun he => ?_
 refine go_bind he fun r1_ he => ?_
 refine go_if2 he (fun he => ?_) fun he => ?_
 ·refine go_if he (fun he => ?_) fun he => ?_
  ·exact wkz_16
  ·refine wkLoop (impl_ModelValid_l1 (m_0, m_1)) (fun (count, i) => (envOf [(1, .c (.ptr 10000000 0)), (3, .c (.int .i64 count)), (18, .c (.imm y0_ (m_0, m_1).1)), (19, .c (.int .i64 ((m_0, m_1).1.length:Int))), (20, .c (.int .i64 i))], [(10000000, .rc [.imm y0_ (m_0, m_1).1, .imm y4_ (m_0, m_1).2])])) he (leads_au [(10000000, 1)]) ?_
   rintro ⟨count, i⟩ _ he
   refine go_if he (fun he => ?_) fun he => ?_
   ·refine go_rq he fun he => ?_
    refine go_bind he fun r2_ he => ?_
    refine go_if he (fun he => ?_) fun he => ?_
    ·exact wkz_16
    ·exact wkz_11
   ·refine go_if he (fun he => ?_) fun he => ?_
    ·refine go_bind he fun r3_ he => ?_
     exact wkz_16
    ·exact wkz_16
 ·exact wkz_16

noncomputable def c_slices_Clone_int : Con := fun
  | [.c (.imm (.int .i64) s_)], [] => .opt _ (slices_Clone_int s_) (fun r => .ret (.c (.own 900 false)) [(900, .sl 3 y0_ r .shallow)])
  | _, _ => .fail

noncomputable def C_slices_Clone_int : Cfg := { y := tys, n := 8, h := 0, tab := [] }

theorem k_slices_Clone_int : Entry Tryz.prog 65 c_slices_Clone_int := by
 refine wkEnt (C := C_slices_Clone_int) Tryz.f65 wkNil fun _ a b k he => ?_
 unfold c_slices_Clone_int at he; split at he; rotate_left; exact he.elim
 rename_i s_
 refine wkGo0 he fun he => ?_
 refine fun b1_ hb1_ => ?_
 have he := ok_nt he hb1_
 refine And.intro (fun hb => ?_) (fun hb => ?_)
 ·have he := ok_t he hb
  exact wkz_16
 ·have he := ok_f he hb
  refine go_rq he fun he => ?_
  exact wkRet [(2, [])] (ok_some he :) (leads_au [(900, 7)])

noncomputable def c_slices_Clone_s_int : Con := fun
  | [.c (.imm (.sl (.int .i64)) s_)], [] => .opt _ (slices_Clone_s_int s_) (fun r => .ret (.c (.own 900 false)) [(900, .sl 22 (.sl y0_) r .shallow)])
  | _, _ => .fail

noncomputable def C_slices_Clone_s_int : Cfg := { y := tys, n := 8, h := 0, tab := [] }

theorem k_slices_Clone_s_int : Entry Tryz.prog 127 c_slices_Clone_s_int := by
 refine wkEnt (C := C_slices_Clone_s_int) Tryz.f127 wkNil fun _ a b k he => ?_
 unfold c_slices_Clone_s_int at he; split at he; rotate_left; exact he.elim
 rename_i s_
 refine wkGo0 he fun he => ?_
 refine fun b1_ hb1_ => ?_
 have he := ok_nt he hb1_
 refine And.intro (fun hb => ?_) (fun hb => ?_)
 ·have he := ok_t he hb
  exact wkz_16
 ·have he := ok_f he hb
  refine go_rq he fun he => ?_
  exact wkRet [(2, [])] (ok_some he :) (leads_au [(900, 7)])

noncomputable def c_impl_Rule_own : Con := fun
  | [.agg [.int .i64 r__0, .imm (.int .i64) r__1, .imm (.int .i64) r__2, .int .i64 r__3, .imm (.sl (.int .i64)) r__4]], [] => .opt _ (impl_Rule_own (r__0, (r__1, (r__2, (r__3, r__4))))) (fun r => .ret (.agg [.int .i64 r.1, .own 901 false, .own 902 false, .int .i64 r.2.1, .own 903 false]) [(900, .rc [.int .i64 r.1, .own 901 false, .own 902 false, .int .i64 r.2.1, .own 903 false]), (901, .sl 3 y0_ r.2.2.1 .shallow), (902, .sl 3 y0_ r.2.2.2.1 .shallow), (903, .sl 22 (.sl y0_) r.2.2.2.2 (.deep true .no))])
  | _, _ => .fail

noncomputable def C_impl_Rule_own_s1 : Sched := .alt 8 (.alt 10 (.first 11 (.alt 12 (.first 13 (.alt 14 .done .stop)) .stop)) .stop) .stop
noncomputable def C_impl_Rule_own_s2 : Sched := .first 9 (.alt 5 C_impl_Rule_own_s1 .stop)
noncomputable def C_impl_Rule_own_s3 : Sched := .alt 5 (.alt 7 (.first 9 C_impl_Rule_own_s1) .stop) (.alt 7 C_impl_Rule_own_s2 .stop)
noncomputable def C_impl_Rule_own_s4 : Sched := .alt 4 C_impl_Rule_own_s2 .stop
noncomputable def C_impl_Rule_own_s5 : Sched := .alt 2 C_impl_Rule_own_s2 .stop
noncomputable def C_impl_Rule_own_s6 : Sched := .alt 2 C_impl_Rule_own_s3 (.alt 7 C_impl_Rule_own_s5 .stop)
noncomputable def C_impl_Rule_own_s7 : Sched := .alt 2 C_impl_Rule_own_s4 (.alt 4 C_impl_Rule_own_s5 .stop)
noncomputable def C_impl_Rule_own_s8 : Sched := .alt 1 C_impl_Rule_own_s5 .stop
noncomputable def C_impl_Rule_own_s9 : Sched := .first 5 (.alt 6 .done .stop)
noncomputable def C_impl_Rule_own : Cfg := { y := tys, n := 33, h := 0, tab := [(65, c_slices_Clone_int), (127, c_slices_Clone_s_int)], cut := [2], sched := [(1, (wkFs [0, 3, 6] (.alt 1 (.alt 2 (.alt 4 C_impl_Rule_own_s3 (.alt 7 C_impl_Rule_own_s4 .stop)) (.alt 4 C_impl_Rule_own_s6 (.alt 7 C_impl_Rule_own_s7 .stop))) (.alt 4 (.alt 1 C_impl_Rule_own_s6 (.alt 7 C_impl_Rule_own_s8 .stop)) (.alt 7 (.alt 1 C_impl_Rule_own_s7 (.alt 4 C_impl_Rule_own_s8 .stop)) .stop))))), (5, (wkFs [0, 2, 3] (.alt 1 (.alt 4 C_impl_Rule_own_s9 .stop) (.alt 4 (.alt 1 C_impl_Rule_own_s9 .stop) .stop))))] }

theorem wkz_52 {P : Prop} (h : P := by
  refine And.intro hq2 ?_
  refine And.intro ?_ trivial
  refine And.intro hq3 ?_
  exact wkz_3) : P := h

theorem wkz_53 {P : Prop} (h : P := by
  refine And.intro ?_ trivial
  refine ⟨r6_, hq3, ?_⟩
  refine And.intro ?_ trivial
  refine And.intro ?_ trivial
  refine And.intro ?_ trivial
  exact ⟨_, he, (leads_au [(10000000, 1), (10000001, 2), (10000002, 8900), (10000003, 11900), (10000004, 14900)])⟩) : P := h

theorem wkz_54 {P : Prop} (h : P := by
  refine And.intro ?_ trivial
  refine ⟨r5_, hq2, ?_⟩
  exact wkz_53) : P := h

theorem wkz_55 {P : Prop} (h : P := by
  refine And.intro ?_ (And.intro ?_ (trivial))
  ·skip
   refine ⟨r5_, hq2, ?_⟩
   refine And.intro ?_ trivial
   exact wkz_53
  ·skip
   exact wkz_54) : P := h

theorem wkz_56 {P : Prop} (h : P := by
  skip
  refine And.intro ?_ (And.intro ?_ (trivial))
  ·skip
   refine ⟨r4_, hq1, ?_⟩
   exact wkz_55
  ·skip
   refine And.intro ?_ trivial
   refine ⟨r4_, hq1, ?_⟩
   exact wkz_54) : P := h

theorem wkz_57 {P : Prop} (h : P := by
  skip
  refine And.intro ?_ (And.intro ?_ (trivial))
  ·skip
   refine ⟨r4_, hq1, ?_⟩
   refine And.intro ?_ trivial
   exact wkz_54
  ·skip
   refine And.intro ?_ trivial
   refine ⟨r4_, hq1, ?_⟩
   exact wkz_54) : P := h

theorem k_impl_Rule_own : Entry Tryz.prog 100 c_impl_Rule_own := by
 refine wkEnt (C := C_impl_Rule_own) Tryz.f100 (wkTab k_slices_Clone_int (wkTab k_slices_Clone_s_int wkNil)) fun _ a b k he => ?_
 unfold c_impl_Rule_own at he; split at he; rotate_left; exact he.elim
 rename_i r__0 r__1 r__2 r__3 r__4
 refine wkGo0 he fun he => ?_
 refine wkSeq (impl_Rule_own_j1 (r__0, (r__1, (r__2, (r__3, r__4))))) (fun (r_1, r_2, r_4) => (envOf [(1, .c (.ptr 10000000 0)), (2, .c (.ptr 10000001 0))], [(10000000, .rc [.int .i64 (r__0, (r__1, (r__2, (r__3, r__4)))).1, .own 10000002 false, .own 10000003 false, .int .i64 (r__0, (r__1, (r__2, (r__3, r__4)))).2.2.2.1, .own 10000004 false]), (10000001, .rc [.int .i64 (0:Int), .nil, .nil, .int .i64 (0:Int), .nil]), (10000002, .sl 3 y0_ r_1 .shallow), (10000003, .sl 3 y0_ r_2 .shallow), (10000004, .sl 22 (.sl y0_) r_4 .shallow)])) he ?_ ?_
 ·rintro ⟨r_1, r_2, r_4⟩ he
  refine wkLoop (impl_Rule_own_l1 (r__0, (r__1, (r__2, (r__3, r__4)))) r_1 r_2 r_4) (fun (i, k_, i1) => (envOf [(1, .c (.ptr 10001000 0)), (2, .c (.ptr 10001001 0)), (18, .c (.own 10001002 false)), (19, .c (.int .i64 (r_4.length:Int))), (20, .c (.int .i64 i))], [(10001000, .rc [.int .i64 (r__0, (r__1, (r__2, (r__3, r__4)))).1, .own 10001003 false, .own 10001004 false, .int .i64 (r__0, (r__1, (r__2, (r__3, r__4)))).2.2.2.1, .own 10001002 false]), (10001001, .rc [.int .i64 (0:Int), .nil, .nil, .int .i64 (0:Int), .nil]), (10001002, .sl 22 (.sl y0_) i1 (.mix k_)), (10001003, .sl 3 y0_ r_1 .shallow), (10001004, .sl 3 y0_ r_2 .shallow)])) he ((leads_mix 10000004).trans (leads_au [(10001000, 10000000), (10001001, 10000001), (10001002, 10000004), (10001003, 10000002), (10001004, 10000003)] (l := [(1, .c (.ptr 10001000 0)), (2, .c (.ptr 10001001 0)), (18, .c (.own 10001002 false)), (19, .c (.int .i64 (r_4.length:Int))), (20, .c (.int .i64 (0:Int)))]) (st' := [(10001000, .rc [.int .i64 (r__0, (r__1, (r__2, (r__3, r__4)))).1, .own 10001003 false, .own 10001004 false, .int .i64 (r__0, (r__1, (r__2, (r__3, r__4)))).2.2.2.1, .own 10001002 false]), (10001001, .rc [.int .i64 (0:Int), .nil, .nil, .int .i64 (0:Int), .nil]), (10001002, .sl 22 (.sl y0_) r_4 (.mix (0:Int))), (10001003, .sl 3 y0_ r_1 .shallow), (10001004, .sl 3 y0_ r_2 .shallow)]))) ?_
  rintro ⟨i, k_, i1⟩ _ he
  refine go_if he (fun he => ?_) fun he => ?_
  ·refine go_rq he fun he => ?_
   refine go_rq he fun he => ?_
   refine And.intro (by kernel_rfl) ?_
   obtain ⟨r9_, hq1, he⟩ := ok_bind he
   obtain ⟨hq2, he⟩ := ok_rq he
   obtain ⟨hq3, he⟩ := ok_rq he
   refine And.intro ?_ (And.intro ?_ (trivial))
   ·skip
    refine And.intro ?_ trivial
    refine ⟨r9_, hq1, ?_⟩
    exact wkz_52
   ·skip
    refine ⟨r9_, hq1, ?_⟩
    refine And.intro ?_ trivial
    exact wkz_52
  ·obtain ⟨hun0, he⟩ := ok_rq he
   exact wkRet [(2, [900])] (ok_some he :) ((leads_all 10001002 (by exact hun0)).trans (leads_au [(900, 10001001), (901, 10001003), (902, 10001004), (903, 10001002)] (l := [(2, .c (.ptr 900 0))]) (st' := [(900, .rc [.int .i64 (r__0, (r__1, (r__2, (r__3, r__4)))).1, .own 901 false, .own 902 false, .int .i64 (r__0, (r__1, (r__2, (r__3, r__4)))).2.2.2.1, .own 903 false]), (901, .sl 3 y0_ r_1 .shallow), (902, .sl 3 y0_ r_2 .shallow), (903, .sl 22 (.sl y0_) i1 (.deep true .no))])))
 ·skip
  refine And.intro (by kernel_rfl) ?_
  obtain ⟨r4_, hq1, he⟩ := ok_bind he
  obtain ⟨r5_, hq2, he⟩ := ok_bind he
  obtain ⟨r6_, hq3, he⟩ := ok_bind he
  refine And.intro ?_ (And.intro ?_ (And.intro ?_ (trivial)))
  ·skip
   refine And.intro ?_ (And.intro ?_ (And.intro ?_ (trivial)))
   ·skip
    refine ⟨r4_, hq1, ?_⟩
    refine And.intro ?_ (And.intro ?_ (trivial))
    ·skip
     exact wkz_55
    ·skip
     refine And.intro ?_ trivial
     exact wkz_54
   ·exact wkz_56
   ·exact wkz_57
  ·skip
   refine And.intro ?_ (And.intro ?_ (trivial))
   ·exact wkz_56
   ·skip
    refine And.intro ?_ trivial
    refine And.intro ?_ trivial
    refine ⟨r4_, hq1, ?_⟩
    exact wkz_54
  ·skip
   refine And.intro ?_ (And.intro ?_ (trivial))
   ·exact wkz_57
   ·skip
    refine And.intro ?_ trivial
    refine And.intro ?_ trivial
    refine ⟨r4_, hq1, ?_⟩
    exact wkz_54

noncomputable def c_impl_Model_own : Con := fun
  | [.agg [.imm (.int .i64) m_0, .imm (.pair (.int .i64) (.pair (.sl (.int .i64)) (.pair (.sl (.int .i64)) (.pair (.int .i64) (.sl (.sl (.int .i64))))))) m_1]], [] => .opt _ (impl_Model_own (m_0, m_1)) (fun r => .ret (.agg [.own 901 false, .own 902 false]) [(900, .rc [.own 901 false, .own 902 false]), (901, .sl 3 y0_ r.1 .shallow), (902, .sl 72 y4_ r.2 (.deep true .no))])
  | _, _ => .fail

noncomputable def C_impl_Model_own_s1 : Sched := .alt 5 (.first 6 (.alt 7 .done .stop)) .stop
noncomputable def C_impl_Model_own_s2 : Sched := .alt 4 C_impl_Model_own_s1 .stop
noncomputable def C_impl_Model_own_s3 : Sched := .alt 3 C_impl_Model_own_s2 .stop
noncomputable def C_impl_Model_own : Cfg := { y := tys, n := 26, h := 0, tab := [(65, c_slices_Clone_int), (100, c_impl_Rule_own)], hand := [(100, [0])], deep := [21], sched := [(5, (.first 0 (.alt 1 (.alt 2 C_impl_Model_own_s3 .stop) (.alt 2 (.alt 1 C_impl_Model_own_s3 (.alt 3 (.alt 1 C_impl_Model_own_s2 (.alt 4 (.alt 1 C_impl_Model_own_s1 .stop) .stop)) .stop)) .stop))))] }

theorem wkz_58 {P : Prop} (h : P := by
  refine And.intro ?_ trivial
  refine And.intro ?_ trivial
  refine And.intro hq2 ?_
  refine And.intro ?_ trivial
  refine go_rq he fun he => ?_
  exact ⟨_, (ok_some he :), (leads_au [(10000003, 22)])⟩) : P := h

theorem k_impl_Model_own : Entry Tryz.prog 66 c_impl_Model_own := by
 refine wkEnt (C := C_impl_Model_own) Tryz.f66 (wkTab k_slices_Clone_int (wkTab k_impl_Rule_own wkNil)) fun _ a b k he => ?_
 unfold c_impl_Model_own at he; split at he; rotate_left; exact he.elim
 rename_i m_0 m_1
 refine wkGo0 he fun he => ?_
 refine go_bind he fun r1_ he => ?_
 refine wkLoop (impl_Model_own_l1 (m_0, m_1) r1_) (fun (i, out_1) => (envOf [(2, .c (.ptr 10000000 0)), (3, .c (.ptr 10000001 0)), (11, .c (.imm y4_ (m_0, m_1).2)), (12, .c (.int .i64 ((m_0, m_1).2.length:Int))), (13, .c (.int .i64 i))], [(10000000, .rc [.nil, .nil]), (10000001, .rc [.own 10000002 false, .own 10000003 false]), (10000002, .sl 3 y0_ r1_ .shallow), (10000003, .sl 72 y4_ out_1 (.deep true .no))])) he (leads_au [(10000000, 2), (10000001, 3), (10000002, 9900)]) ?_
 rintro ⟨i, out_1⟩ _ he
 refine go_if he (fun he => ?_) fun he => ?_
 ·refine go_rq he fun he => ?_
  refine And.intro (by kernel_rfl) ?_
  obtain ⟨r4_, hq1, he⟩ := ok_bind he
  obtain ⟨hq2, he⟩ := ok_rq he
  refine And.intro ?_ (And.intro ?_ (trivial))
  ·skip
   refine And.intro ?_ trivial
   refine And.intro ?_ trivial
   refine ⟨r4_, hq1, ?_⟩
   exact wkz_58
  ·skip
   refine And.intro ?_ (And.intro ?_ (trivial))
   ·skip
    refine And.intro ?_ trivial
    refine ⟨r4_, hq1, ?_⟩
    exact wkz_58
   ·skip
    refine ⟨r4_, hq1, ?_⟩
    refine And.intro ?_ (And.intro ?_ (trivial))
    ·skip
     exact wkz_58
    ·skip
     exact wkz_58
 ·exact wkRet [(2, [900])] (ok_some he :) (leads_au [(900, 10000000), (901, 10000002), (902, 10000003)])

noncomputable def c_impl_PermValid : Con := fun
  | [.agg [.imm (.int .i64) m_0, .imm (.pair (.int .i64) (.pair (.sl (.int .i64)) (.pair (.sl (.int .i64)) (.pair (.int .i64) (.sl (.sl (.int .i64))))))) m_1], .c (.imm (.int .i64) perm)], [] => .opt _ (impl_PermValid (m_0, m_1) perm) (fun r => .ret (.c (.bool r)) [])
  | _, _ => .fail

noncomputable def C_impl_PermValid_s1 : Sched := wkFs [17, 18, 19, 20, 21, 23] (.alt 22 (.alt 24 (.first 25 .done) .stop) .stop)
noncomputable def C_impl_PermValid : Cfg := { y := tys, n := 52, h := 0, tab := [(22, c_impl_ModelValid), (54, c_impl_within), (80, c_slices_Contains_int)], sched := [(6, (wkFs [0, 1, 2, 3] (.alt 4 (wkFs [5, 6, 7, 9, 12, 14] (.alt 8 (wkFs [10, 11] (.alt 13 (wkFs [15, 16] C_impl_PermValid_s1) .stop)) (.alt 13 (wkFs [15, 16] (.alt 8 (wkFs [10, 11] C_impl_PermValid_s1) .stop)) .stop))) .stop)))] }

theorem wkz_59 {P : Prop} (h : P := by
  refine go_if2 he (fun he => ?_) fun he => ?_
  ·refine And.intro ?_ trivial
   refine go_rq he fun he => ?_
   refine And.intro ?_ trivial
   refine go_bind he fun r5_ he => ?_
   exact wkz_14
  ·refine And.intro ?_ trivial
   refine And.intro ?_ trivial
   exact wkz_7) : P := h

theorem wkz_60 {P : Prop} (h : P := by
  refine And.intro ?_ trivial
  refine And.intro ?_ trivial
  refine And.intro ?_ trivial
  exact wkz_7) : P := h

theorem wkz_61 {P : Prop} (h : P := by
  refine And.intro ?_ (And.intro ?_ (trivial))
  ·skip
   exact wkz_60
  ·skip
   exact wkz_60) : P := h

theorem k_impl_PermValid : Entry Tryz.prog 43 c_impl_PermValid := by
 refine wkEnt (C := C_impl_PermValid) Tryz.f43 (wkTab k_impl_ModelValid (wkTab k_impl_within (wkTab k_slices_Contains_int wkNil))) fun _ a b k he => ?_
 unfold c_impl_PermValid at he; split at he; rotate_left; exact he.elim
 rename_i m_0 m_1 perm
 refine wkGo0 he fun he => ?_
 refine go_bind he fun r1_ he => ?_
 refine go_if2 he (fun he => ?_) fun he => ?_
 ·refine go_if he (fun he => ?_) fun he => ?_
  ·exact wkz_7
  ·refine wkLoop (impl_PermValid_l1 (m_0, m_1) perm) (fun i => (envOf [(1, .c (.imm y0_ perm)), (2, .c (.ptr 10000000 0)), (18, .c (.imm y0_ perm)), (19, .c (.int .i64 (perm.length:Int))), (20, .c (.int .i64 i))], [(10000000, .rc [.imm y0_ (m_0, m_1).1, .imm y4_ (m_0, m_1).2])])) he (leads_au [(10000000, 2)]) ?_
   rintro i _ he
   refine go_if he (fun he => ?_) fun he => ?_
   ·refine go_rq he fun he => ?_
    refine And.intro (by kernel_rfl) ?_
    refine go_rq he fun he => ?_
    refine And.intro ?_ trivial
    refine go_bind he fun r4_ he => ?_
    refine go_if2 he (fun he => ?_) fun he => ?_
    ·obtain ⟨hq1, he⟩ := ok_rq he
     obtain ⟨hq2, he⟩ := ok_rq he
     refine And.intro ?_ (And.intro ?_ (trivial))
     ·skip
      refine And.intro hq1 ?_
      refine And.intro ?_ trivial
      refine And.intro hq2 ?_
      exact wkz_59
     ·skip
      refine And.intro hq2 ?_
      refine And.intro ?_ trivial
      refine And.intro hq1 ?_
      exact wkz_59
    ·exact wkz_61
   ·exact wkz_7
 ·exact wkz_7

noncomputable def c_impl_Model_permuted : Con := fun
  | [.agg [.imm (.int .i64) m_0, .imm (.pair (.int .i64) (.pair (.sl (.int .i64)) (.pair (.sl (.int .i64)) (.pair (.int .i64) (.sl (.sl (.int .i64))))))) m_1], .c (.imm (.int .i64) perm)], [] => .opt _ (impl_Model_permuted (m_0, m_1) perm) (fun r => .ret (.agg [.own 901 false, .own 902 false]) [(900, .rc [.own 901 false, .own 902 false]), (901, .sl 3 y0_ r.1 .shallow), (902, .sl 72 y4_ r.2 (.deep true .no))])
  | _, _ => .fail

noncomputable def C_impl_Model_permuted : Cfg := { y := tys, n := 38, h := 0, tab := [(66, c_impl_Model_own)], sched := [(8, (wkFs [0, 2, 3, 4, 5, 6] (.alt 1 (.first 7 (.alt 8 .done .stop)) .stop)))] }

theorem k_impl_Model_permuted : Entry Tryz.prog 45 c_impl_Model_permuted := by
 refine wkEnt (C := C_impl_Model_permuted) Tryz.f45 (wkTab k_impl_Model_own wkNil) fun _ a b k he => ?_
 unfold c_impl_Model_permuted at he; split at he; rotate_left; exact he.elim
 rename_i m_0 m_1 perm
 refine wkGo0 he fun he => ?_
 refine go_bind he fun r1_ he => ?_
 refine wkLoop (impl_Model_permuted_l1 perm r1_) (fun (i, i3) => (envOf [(1, .c (.imm y0_ perm)), (4, .c (.ptr 10000000 0)), (5, .c (.ptr 10000001 0)), (13, .c (.own 10000002 false)), (14, .c (.int .i64 (r1_.2.length:Int))), (15, .c (.int .i64 i))], [(10000000, .rc [.nil, .nil]), (10000001, .rc [.own 10000003 false, .own 10000002 false]), (10000002, .sl 72 y4_ i3 (.deep true .no)), (10000003, .sl 3 y0_ r1_.1 .shallow)])) he (leads_au [(10000000, 4), (10000001, 5), (10000002, 12902), (10000003, 12901)]) ?_
 rintro ⟨i, i3⟩ _ he
 refine go_if he (fun he => ?_) fun he => ?_
 ·refine go_rq he fun he => ?_
  refine wkLoop (impl_Model_permuted_l2 perm i i3) (fun (i4, i5) => (envOf [(1, .c (.imm y0_ perm)), (4, .c (.ptr 10002000 0)), (5, .c (.ptr 10002001 0)), (7, .c (.ptr 10002002 0)), (13, .c (.own 10000002 false)), (14, .c (.int .i64 (r1_.2.length:Int))), (15, .c (.int .i64 i)), (20, .c (.own 19001 false)), (21, .c (.int .i64 ((i3.getD i.toNat (0, ([], ([], (0, []))))).2.1.length:Int))), (22, .c (.int .i64 i4))], [(19001, .sl 0 y0_ i5 (.deep false .no)), (19002, .sl 0 y0_ (i3.getD i.toNat (0, ([], ([], (0, []))))).2.2.1 (.deep false .no)), (19004, .sl 0 (.sl y0_) (i3.getD i.toNat (0, ([], ([], (0, []))))).2.2.2.2 (.deep false .no)), (10000002, .sl 72 y4_ i3 (.deep true (.at i.toNat 0 5 19000))), (10002000, .rc [.nil, .nil]), (10002001, .rc [.own 10002003 false, .own 10000002 false]), (10002002, .rc [.int .i64 (i3.getD i.toNat (0, ([], ([], (0, []))))).1, .own 19001 false, .own 19002 false, .int .i64 (i3.getD i.toNat (0, ([], ([], (0, []))))).2.2.2.1, .own 19004 false]), (10002003, .sl 3 y0_ r1_.1 .shallow)])) he (leads_au [(10002000, 10000000), (10002001, 10000001), (10002002, 7), (10002003, 10000003)]) ?_
  rintro ⟨i4, i5⟩ _ he
  refine go_if he (fun he => ?_) fun he => ?_
  ·refine go_rq he fun he => ?_
   refine And.intro (by kernel_rfl) ?_
   refine go_rq he fun he => ?_
   refine And.intro ?_ trivial
   refine go_rq he fun he => ?_
   refine And.intro ?_ trivial
   exact wkz_3
  ·refine go_rq he fun he => ?_
   exact ⟨_, (ok_some he :), ((leads_close [10000002] rfl).trans (leads_ren [(10000000, 10002000), (10000001, 10002001), (10000003, 10002003)] (l := [(1, .c (.imm y0_ perm)), (4, .c (.ptr 10000000 0)), (5, .c (.ptr 10000001 0)), (13, .c (.own 10000002 false)), (14, .c (.int .i64 (r1_.2.length:Int))), (15, .c (.int .i64 (i + (1:Int))))]) (st' := [(10000000, .rc [.nil, .nil]), (10000001, .rc [.own 10000003 false, .own 10000002 false]), (10000002, .sl 72 y4_ (i3.set i.toNat ((i3.getD i.toNat (0, ([], ([], (0, []))))).1, (i5, (i3.getD i.toNat (0, ([], ([], (0, []))))).2.2))) (.deep true .no)), (10000003, .sl 3 y0_ r1_.1 .shallow)]) rfl rfl (by exact ⟨⟨rfl, rfl, trivial⟩, ⟨⟨⟨rfl, rfl⟩, trivial⟩, ⟨⟨rfl, rfl⟩, trivial⟩, trivial⟩, ⟨rfl, rfl⟩, ⟨rfl, rfl⟩, trivial⟩) (by exact ⟨.inl rfl, ⟨⟨rfl, rfl⟩, rfl⟩, ⟨⟨rfl, rfl⟩, rfl⟩, ⟨⟨rfl, rfl⟩, trivial⟩, rfl, rfl, trivial⟩)))⟩
 ·exact wkRet [(4, [900])] (ok_some he :) (leads_au [(900, 10000000), (901, 10000003), (902, 10000002)])

noncomputable def c_impl_Rule_canonical_1 : Con := fun
  | [.c (.int .i64 a), .c (.int .i64 b), .c (.iptr (.pair (.int .i64) (.pair (.sl (.int .i64)) (.pair (.sl (.int .i64)) (.pair (.int .i64) (.sl (.sl (.int .i64))))))) a2 0)], [] => .opt _ (impl_Rule_canonical_1 a b a2) (fun r => .ret (.c (.int .i64 r)) [])
  | _, _ => .fail

noncomputable def C_impl_Rule_canonical_1 : Cfg := { y := tys, n := 17, h := 0, tab := [] }

theorem k_impl_Rule_canonical_1 : Entry Tryz.prog 111 c_impl_Rule_canonical_1 := by
 refine wkEnt (C := C_impl_Rule_canonical_1) Tryz.f111 wkNil fun _ a b k he => ?_
 unfold c_impl_Rule_canonical_1 at he; split at he; rotate_left; exact he.elim
 rename_i a b a2
 refine wkGo0 he fun he => ?_
 refine And.intro (by kernel_rfl) ?_
 refine go_rq he fun he => ?_
 exact wkz_32

noncomputable def c_slices_SortFunc_int__impl_Rule_canonical_1 : Con := sortCD y0_ y4_ 111 (fun d x y => impl_Rule_canonical_1 x y d)

theorem k_slices_SortFunc_int__impl_Rule_canonical_1 : Entry Tryz.prog 110 c_slices_SortFunc_int__impl_Rule_canonical_1 := sort_entryD lays110 k_impl_Rule_canonical_1 rfl (fun d x y => rfl)

noncomputable def c_impl_Rule_canonical_2__Rs : Con := fun
  | [.c (.imm (.int .i64) list_), .c (.ptr 0 0)], [(0, .rc [.own 1 false]), (1, .sl 3 (.int .i64) o1 .shallow)] => .opt _ (impl_Rule_canonical_2__Rs list_ o1) (fun r => .ret (.c (.own 900 false)) [(0, .rc [.own 1 false]), (1, .sl 3 y0_ o1 .shallow), (900, .sl 3 y0_ r .shallow)])
  | _, _ => .fail

noncomputable def C_impl_Rule_canonical_2__Rs : Cfg := { y := tys, n := 22, h := 2, tab := [] }

theorem k_impl_Rule_canonical_2__Rs : Entry Tryz.prog 112 c_impl_Rule_canonical_2__Rs := by
 refine wkEnt (C := C_impl_Rule_canonical_2__Rs) Tryz.f112 wkNil fun _ a b k he => ?_
 unfold c_impl_Rule_canonical_2__Rs at he; split at he; rotate_left; exact he.elim
 rename_i list_ o1
 refine wkGo0 he fun he => ?_
 refine wkLoop (impl_Rule_canonical_2__Rs_l1 list_ o1) (fun (i, out) => (envOf [(0, .c (.imm y0_ list_)), (4, .c (.own 10000000 false)), (7, .c (.own 1 false)), (8, .c (.int .i64 (o1.length:Int))), (9, .c (.int .i64 i))], [(0, .rc [.own 1 false]), (1, .sl 3 y0_ o1 .shallow), (10000000, .sl 3 y0_ out .shallow)])) he (leads_au []) ?_
 rintro ⟨i, out⟩ _ he
 refine go_if he (fun he => ?_) fun he => ?_
 ·refine go_rq he fun he => ?_
  refine go_rq he fun he => ?_
  exact wkz_26
 ·exact wkRet [(3, [])] (ok_some he :) (leads_au [(900, 10000000)])

end Go.AE.Y
