/-
  Walks: each function keeps the contract that its model gives. No conditions.
-/
import Derived.Test.YtgpinbepiniogaaGreatDoorRATab
import Derived.Test.YtgpinbepiniogaaGreatDoorRAM
import Derived.Test.YtgpinbepiniogaaGreatDoorRAS
namespace Go.AE.Y
open Go Go.AE Go.Proofs
set_option linter.unusedVariables false
set_option maxHeartbeats 2000000
set_option maxRecDepth 100000

noncomputable def c_laws_szIntS : Con := fun
  | [.c (.imm (.int .i64) a), .c (.int .i64 left)], [] => .opt _ (laws_szIntS a left) (fun r => .ret (.c (.int .i64 r)) [])
  | _, _ => .fail

noncomputable def C_laws_szIntS : Cfg := { y := tys, n := 12, h := 0, tab := [] }

theorem wkz_1 {P : Prop} (h : P := by
  exact wkRet0 he) : P := h

theorem wkz_2 {P : Prop} (h : P := by
  refine go_if he (fun he => ?_) fun he => ?_
  ·exact wkz_1
  ·exact wkz_1) : P := h

theorem k_laws_szIntS : Entry Tryz.prog 38 c_laws_szIntS := by
 refine wkEnt (C := C_laws_szIntS) Tryz.f38 wkNil fun _ a b k he => ?_
 unfold c_laws_szIntS at he; split at he; rotate_left; exact he.elim
 rename_i a left
 refine wkGo0 he fun he => ?_
 refine go_rq he fun he => ?_
 exact wkz_2

noncomputable def c_laws_szIntSS : Con := fun
  | [.c (.imm (.sl (.int .i64)) a), .c (.int .i64 left)], [] => .opt _ (laws_szIntSS a left) (fun r => .ret (.c (.int .i64 r)) [])
  | _, _ => .fail

noncomputable def C_laws_szIntSS : Cfg := { y := tys, n := 27, h := 0, tab := [(38, c_laws_szIntS)] }

theorem wkz_3 {P : Prop} (h : P := by
  refine go_rq he fun he => ?_
  exact ⟨_, (ok_some he :), (leads_au [])⟩) : P := h

theorem wkz_4 {P : Prop} (h : P := by
  refine go_if he (fun he => ?_) fun he => ?_
  ·exact wkz_1
  ·exact wkz_3) : P := h

theorem wkz_5 {P : Prop} (h : P := by
  refine go_rq he fun he => ?_
  refine go_bind he fun r1_ he => ?_
  exact wkz_4) : P := h

theorem wkz_6 {P : Prop} (h : P := by
  refine go_if he (fun he => ?_) fun he => ?_
  ·exact wkz_5
  ·exact wkz_1) : P := h

theorem k_laws_szIntSS : Entry Tryz.prog 103 c_laws_szIntSS := by
 refine wkEnt (C := C_laws_szIntSS) Tryz.f103 (wkTab k_laws_szIntS wkNil) fun _ a b k he => ?_
 unfold c_laws_szIntSS at he; split at he; rotate_left; exact he.elim
 rename_i a left
 refine wkGo0 he fun he => ?_
 refine go_rq he fun he => ?_
 refine go_if he (fun he => ?_) fun he => ?_
 ·exact wkz_1
 ·refine wkLoop (laws_szIntSS_l1 a) (fun (left1, i) => (envOf [(0, .c (.imm (.sl y0_) a)), (1, .c (.int .i64 left1)), (5, .c (.int .i64 i))], [])) he (leads_au []) ?_
  rintro ⟨left1, i⟩ _ he
  exact wkz_6

noncomputable def c_laws_szRule : Con := fun
  | [.agg [.int .i64 a_0, .imm (.int .i64) a_1, .imm (.int .i64) a_2, .int .i64 a_3, .imm (.sl (.int .i64)) a_4], .c (.int .i64 left)], [] => .opt _ (laws_szRule (a_0, (a_1, (a_2, (a_3, a_4)))) left) (fun r => .ret (.c (.int .i64 r)) [])
  | _, _ => .fail

noncomputable def C_laws_szRule : Cfg := { y := tys, n := 24, h := 0, tab := [(38, c_laws_szIntS), (103, c_laws_szIntSS)] }

theorem wkz_7 {P : Prop} (h : P := by
  exact wkRet [(4, [])] (ok_some he :) (leads_au [])) : P := h

theorem wkz_8 {P : Prop} (h : P := by
  refine go_if he (fun he => ?_) fun he => ?_
  ·exact wkz_7
  ·exact wkz_7) : P := h

theorem wkz_9 {P : Prop} (h : P := by
  refine go_if he (fun he => ?_) fun he => ?_
  ·exact wkz_7
  ·refine go_bind he fun r3_ he => ?_
   exact wkz_8) : P := h

theorem k_laws_szRule : Entry Tryz.prog 74 c_laws_szRule := by
 refine wkEnt (C := C_laws_szRule) Tryz.f74 (wkTab k_laws_szIntS (wkTab k_laws_szIntSS wkNil)) fun _ a b k he => ?_
 unfold c_laws_szRule at he; split at he; rotate_left; exact he.elim
 rename_i a_0 a_1 a_2 a_3 a_4 left
 refine wkGo0 he fun he => ?_
 refine go_bind he fun r1_ he => ?_
 refine go_if he (fun he => ?_) fun he => ?_
 ·exact wkz_7
 ·refine go_bind he fun r2_ he => ?_
  exact wkz_9

noncomputable def c_laws_szRuleS : Con := fun
  | [.c (.imm (.pair (.int .i64) (.pair (.sl (.int .i64)) (.pair (.sl (.int .i64)) (.pair (.int .i64) (.sl (.sl (.int .i64))))))) a), .c (.int .i64 left)], [] => .opt _ (laws_szRuleS a left) (fun r => .ret (.c (.int .i64 r)) [])
  | _, _ => .fail

noncomputable def C_laws_szRuleS : Cfg := { y := tys, n := 27, h := 0, tab := [(74, c_laws_szRule)] }

theorem k_laws_szRuleS : Entry Tryz.prog 39 c_laws_szRuleS := by
 refine wkEnt (C := C_laws_szRuleS) Tryz.f39 (wkTab k_laws_szRule wkNil) fun _ a b k he => ?_
 unfold c_laws_szRuleS at he; split at he; rotate_left; exact he.elim
 rename_i a left
 refine wkGo0 he fun he => ?_
 refine go_rq he fun he => ?_
 refine go_if he (fun he => ?_) fun he => ?_
 ·exact wkz_1
 ·refine wkLoop (laws_szRuleS_l1 a) (fun (left1, i) => (envOf [(0, .c (.imm y4_ a)), (1, .c (.int .i64 left1)), (5, .c (.int .i64 i))], [])) he (leads_au []) ?_
  rintro ⟨left1, i⟩ _ he
  exact wkz_6

noncomputable def c_laws_szModel : Con := fun
  | [.agg [.imm (.int .i64) a_0, .imm (.pair (.int .i64) (.pair (.sl (.int .i64)) (.pair (.sl (.int .i64)) (.pair (.int .i64) (.sl (.sl (.int .i64))))))) a_1], .c (.int .i64 left)], [] => .opt _ (laws_szModel (a_0, a_1) left) (fun r => .ret (.c (.int .i64 r)) [])
  | _, _ => .fail

noncomputable def C_laws_szModel : Cfg := { y := tys, n := 18, h := 0, tab := [(38, c_laws_szIntS), (39, c_laws_szRuleS)] }

theorem k_laws_szModel : Entry Tryz.prog 10 c_laws_szModel := by
 refine wkEnt (C := C_laws_szModel) Tryz.f10 (wkTab k_laws_szIntS (wkTab k_laws_szRuleS wkNil)) fun _ a b k he => ?_
 unfold c_laws_szModel at he; split at he; rotate_left; exact he.elim
 rename_i a_0 a_1 left
 refine wkGo0 he fun he => ?_
 refine go_bind he fun r1_ he => ?_
 refine go_if he (fun he => ?_) fun he => ?_
 ·exact wkz_7
 ·refine go_bind he fun r2_ he => ?_
  exact wkz_8

noncomputable def c_laws_toIntS : Con := fun
  | [.c (.imm (.int .i64) a)], [] => .opt _ (laws_toIntS a) (fun r => .ret (.c (.own 900 false)) [(900, .sl 3 y0_ r .shallow)])
  | _, _ => .fail

noncomputable def C_laws_toIntS : Cfg := { y := tys, n := 22, h := 0, tab := [] }

theorem wkz_10 {P : Prop} (h : P := by
  refine go_rq he fun he => ?_
  exact wkz_3) : P := h

theorem wkz_11 {P : Prop} (h : P := by
  refine go_rq he fun he => ?_
  exact wkz_10) : P := h

theorem k_laws_toIntS : Entry Tryz.prog 13 c_laws_toIntS := by
 refine wkEnt (C := C_laws_toIntS) Tryz.f13 wkNil fun _ a b k he => ?_
 unfold c_laws_toIntS at he; split at he; rotate_left; exact he.elim
 rename_i a
 refine wkGo0 he fun he => ?_
 refine go_rq he fun he => ?_
 refine wkLoop (laws_toIntS_l1 a) (fun (i, out) => (envOf [(0, .c (.imm y0_ a)), (3, .c (.own 10000000 false)), (4, .c (.int .i64 i))], [(10000000, .sl 3 y0_ out .shallow)])) he (leads_au [(10000000, 7)]) ?_
 rintro ⟨i, out⟩ _ he
 refine go_if he (fun he => ?_) fun he => ?_
 ·exact wkz_11
 ·exact wkRet [(2, [])] (ok_some he :) (leads_au [(900, 10000000)])

noncomputable def c_laws_toIntSS : Con := fun
  | [.c (.imm (.sl (.int .i64)) a)], [] => .opt _ (laws_toIntSS a) (fun r => .ret (.c (.own 900 false)) [(900, .sl 22 (.sl y0_) r (.deep true .no))])
  | _, _ => .fail

noncomputable def C_laws_toIntSS : Cfg := { y := tys, n := 23, h := 0, tab := [(13, c_laws_toIntS)], deep := [7] }

theorem wkz_12 {P : Prop} (h : P := by
  rintro ⟨i, out⟩ _ he
  refine go_if he (fun he => ?_) fun he => ?_
  ·refine go_rq he fun he => ?_
   refine go_bind he fun r2_ he => ?_
   exact wkz_10
  ·exact wkRet [(2, [])] (ok_some he :) (leads_au [(900, 10000000)])) : P := h

theorem k_laws_toIntSS : Entry Tryz.prog 108 c_laws_toIntSS := by
 refine wkEnt (C := C_laws_toIntSS) Tryz.f108 (wkTab k_laws_toIntS wkNil) fun _ a b k he => ?_
 unfold c_laws_toIntSS at he; split at he; rotate_left; exact he.elim
 rename_i a
 refine wkGo0 he fun he => ?_
 refine go_rq he fun he => ?_
 refine wkLoop (laws_toIntSS_l1 a) (fun (i, out) => (envOf [(0, .c (.imm (.sl y0_) a)), (3, .c (.own 10000000 false)), (4, .c (.int .i64 i))], [(10000000, .sl 22 (.sl y0_) out (.deep true .no))])) he (leads_au [(10000000, 7)]) ?_
 exact wkz_12

noncomputable def c_laws_toRule : Con := fun
  | [.agg [.int .i64 a_0, .imm (.int .i64) a_1, .imm (.int .i64) a_2, .int .i64 a_3, .imm (.sl (.int .i64)) a_4]], [] => .opt _ (laws_toRule (a_0, (a_1, (a_2, (a_3, a_4))))) (fun r => .ret (.agg [.int .i64 r.1, .own 901 false, .own 902 false, .int .i64 r.2.1, .own 903 false]) [(900, .rc [.int .i64 r.1, .own 901 false, .own 902 false, .int .i64 r.2.1, .own 903 false]), (901, .sl 3 y0_ r.2.2.1 .shallow), (902, .sl 3 y0_ r.2.2.2.1 .shallow), (903, .sl 22 (.sl y0_) r.2.2.2.2 (.deep true .no))])
  | _, _ => .fail

noncomputable def C_laws_toRule : Cfg := { y := tys, n := 23, h := 0, tab := [(13, c_laws_toIntS), (108, c_laws_toIntSS)] }

theorem k_laws_toRule : Entry Tryz.prog 79 c_laws_toRule := by
 refine wkEnt (C := C_laws_toRule) Tryz.f79 (wkTab k_laws_toIntS (wkTab k_laws_toIntSS wkNil)) fun _ a b k he => ?_
 unfold c_laws_toRule at he; split at he; rotate_left; exact he.elim
 rename_i a_0 a_1 a_2 a_3 a_4
 refine wkGo0 he fun he => ?_
 refine go_bind he fun r1_ he => ?_
 refine go_bind he fun r2_ he => ?_
 refine go_bind he fun r3_ he => ?_
 exact wkRet [(2, [900])] (ok_some he :) (leads_au [(900, 2), (901, 10900), (902, 14900), (903, 21900)])

noncomputable def c_laws_toRuleS : Con := fun
  | [.c (.imm (.pair (.int .i64) (.pair (.sl (.int .i64)) (.pair (.sl (.int .i64)) (.pair (.int .i64) (.sl (.sl (.int .i64))))))) a)], [] => .opt _ (laws_toRuleS a) (fun r => .ret (.c (.own 900 false)) [(900, .sl 72 y4_ r (.deep true .no))])
  | _, _ => .fail

noncomputable def C_laws_toRuleS : Cfg := { y := tys, n := 23, h := 0, tab := [(79, c_laws_toRule)], deep := [7] }

theorem k_laws_toRuleS : Entry Tryz.prog 42 c_laws_toRuleS := by
 refine wkEnt (C := C_laws_toRuleS) Tryz.f42 (wkTab k_laws_toRule wkNil) fun _ a b k he => ?_
 unfold c_laws_toRuleS at he; split at he; rotate_left; exact he.elim
 rename_i a
 refine wkGo0 he fun he => ?_
 refine go_rq he fun he => ?_
 refine wkLoop (laws_toRuleS_l1 a) (fun (i, out) => (envOf [(0, .c (.imm y4_ a)), (3, .c (.own 10000000 false)), (4, .c (.int .i64 i))], [(10000000, .sl 72 y4_ out (.deep true .no))])) he (leads_au [(10000000, 7)]) ?_
 exact wkz_12

noncomputable def c_laws_toModel : Con := fun
  | [.agg [.imm (.int .i64) a_0, .imm (.pair (.int .i64) (.pair (.sl (.int .i64)) (.pair (.sl (.int .i64)) (.pair (.int .i64) (.sl (.sl (.int .i64))))))) a_1]], [] => .opt _ (laws_toModel (a_0, a_1)) (fun r => .ret (.agg [.own 901 false, .own 902 false]) [(900, .rc [.own 901 false, .own 902 false]), (901, .sl 3 y0_ r.1 .shallow), (902, .sl 72 y4_ r.2 (.deep true .no))])
  | _, _ => .fail

noncomputable def C_laws_toModel : Cfg := { y := tys, n := 13, h := 0, tab := [(13, c_laws_toIntS), (42, c_laws_toRuleS)] }

theorem k_laws_toModel : Entry Tryz.prog 12 c_laws_toModel := by
 refine wkEnt (C := C_laws_toModel) Tryz.f12 (wkTab k_laws_toIntS (wkTab k_laws_toRuleS wkNil)) fun _ a b k he => ?_
 unfold c_laws_toModel at he; split at he; rotate_left; exact he.elim
 rename_i a_0 a_1
 refine wkGo0 he fun he => ?_
 refine go_bind he fun r1_ he => ?_
 refine go_bind he fun r2_ he => ?_
 exact wkRet [(2, [900])] (ok_some he :) (leads_au [(900, 2), (901, 7900), (902, 11900)])

noncomputable def c_spec_l17OwnListListint : Con := fun
  | [.c (.imm (.sl (.int .i64)) list_)], [] => .opt _ (spec_l17OwnListListint list_) (fun r => .ret (.c (.own 900 false)) [(900, .sl 22 (.sl y0_) r (.deep true .no))])
  | _, _ => .fail

noncomputable def C_spec_l17OwnListListint : Cfg := { y := tys, n := 21, h := 0, tab := [], deep := [6, 17] }

theorem wkz_13 {P : Prop} (h : P := by
  refine go_rq he fun he => ?_
  refine go_rq he fun he => ?_
  exact ⟨_, (ok_some he :), (leads_au [(10000000, 18)])⟩) : P := h

theorem k_spec_l17OwnListListint : Entry Tryz.prog 146 c_spec_l17OwnListListint := by
 refine wkEnt (C := C_spec_l17OwnListListint) Tryz.f146 wkNil fun _ a b k he => ?_
 unfold c_spec_l17OwnListListint at he; split at he; rotate_left; exact he.elim
 rename_i list_
 refine wkGo0 he fun he => ?_
 refine wkLoop (spec_l17OwnListListint_l1 list_) (fun (i, out) => (envOf [(3, .c (.own 10000000 false)), (7, .c (.imm (.sl y0_) list_)), (8, .c (.int .i64 (list_.length:Int))), (9, .c (.int .i64 i))], [(10000000, .sl 22 (.sl y0_) out (.deep true .no))])) he (leads_au [(10000000, 6)]) ?_
 rintro ⟨i, out⟩ _ he
 refine go_if he (fun he => ?_) fun he => ?_
 ·refine go_rq he fun he => ?_
  refine go_rq he fun he => ?_
  exact wkz_13
 ·exact wkRet [(2, [])] (ok_some he :) (leads_au [(900, 10000000)])

noncomputable def c_spec_l17OwnRule : Con := fun
  | [.agg [.int .i64 x_0, .imm (.int .i64) x_1, .imm (.int .i64) x_2, .int .i64 x_3, .imm (.sl (.int .i64)) x_4]], [] => .opt _ (spec_l17OwnRule (x_0, (x_1, (x_2, (x_3, x_4))))) (fun r => .ret (.agg [.int .i64 r.1, .own 901 false, .own 902 false, .int .i64 r.2.1, .own 903 false]) [(900, .rc [.int .i64 r.1, .own 901 false, .own 902 false, .int .i64 r.2.1, .own 903 false]), (901, .sl 3 y0_ r.2.2.1 .shallow), (902, .sl 3 y0_ r.2.2.2.1 .shallow), (903, .sl 22 (.sl y0_) r.2.2.2.2 (.deep true .no))])
  | _, _ => .fail

noncomputable def C_spec_l17OwnRule : Cfg := { y := tys, n := 18, h := 0, tab := [(146, c_spec_l17OwnListListint)] }

theorem k_spec_l17OwnRule : Entry Tryz.prog 128 c_spec_l17OwnRule := by
 refine wkEnt (C := C_spec_l17OwnRule) Tryz.f128 (wkTab k_spec_l17OwnListListint wkNil) fun _ a b k he => ?_
 unfold c_spec_l17OwnRule at he; split at he; rotate_left; exact he.elim
 rename_i x_0 x_1 x_2 x_3 x_4
 refine wkGo0 he fun he => ?_
 refine go_rq he fun he => ?_
 refine go_rq he fun he => ?_
 refine go_bind he fun r1_ he => ?_
 exact wkRet [(2, [900])] (ok_some he :) (leads_au [(900, 2), (901, 6), (902, 11), (903, 16900)])

noncomputable def c_spec_l17OwnListRule : Con := fun
  | [.c (.imm (.pair (.int .i64) (.pair (.sl (.int .i64)) (.pair (.sl (.int .i64)) (.pair (.int .i64) (.sl (.sl (.int .i64))))))) list_)], [] => .opt _ (spec_l17OwnListRule list_) (fun r => .ret (.c (.own 900 false)) [(900, .sl 72 y4_ r (.deep true .no))])
  | _, _ => .fail

noncomputable def C_spec_l17OwnListRule : Cfg := { y := tys, n := 20, h := 0, tab := [(128, c_spec_l17OwnRule)], deep := [6, 16] }

theorem k_spec_l17OwnListRule : Entry Tryz.prog 101 c_spec_l17OwnListRule := by
 refine wkEnt (C := C_spec_l17OwnListRule) Tryz.f101 (wkTab k_spec_l17OwnRule wkNil) fun _ a b k he => ?_
 unfold c_spec_l17OwnListRule at he; split at he; rotate_left; exact he.elim
 rename_i list_
 refine wkGo0 he fun he => ?_
 refine wkLoop (spec_l17OwnListRule_l1 list_) (fun (i, out) => (envOf [(3, .c (.own 10000000 false)), (7, .c (.imm y4_ list_)), (8, .c (.int .i64 (list_.length:Int))), (9, .c (.int .i64 i))], [(10000000, .sl 72 y4_ out (.deep true .no))])) he (leads_au [(10000000, 6)]) ?_
 rintro ⟨i, out⟩ _ he
 refine go_if he (fun he => ?_) fun he => ?_
 ·refine go_rq he fun he => ?_
  refine go_bind he fun r2_ he => ?_
  refine go_rq he fun he => ?_
  refine go_rq he fun he => ?_
  exact ⟨_, (ok_some he :), (leads_au [(10000000, 17)])⟩
 ·exact wkRet [(2, [])] (ok_some he :) (leads_au [(900, 10000000)])

noncomputable def c_spec_l17OwnModel : Con := fun
  | [.agg [.imm (.int .i64) x_0, .imm (.pair (.int .i64) (.pair (.sl (.int .i64)) (.pair (.sl (.int .i64)) (.pair (.int .i64) (.sl (.sl (.int .i64))))))) x_1]], [] => .opt _ (spec_l17OwnModel (x_0, x_1)) (fun r => .ret (.agg [.own 901 false, .own 902 false]) [(900, .rc [.own 901 false, .own 902 false]), (901, .sl 3 y0_ r.1 .shallow), (902, .sl 72 y4_ r.2 (.deep true .no))])
  | _, _ => .fail

noncomputable def C_spec_l17OwnModel : Cfg := { y := tys, n := 13, h := 0, tab := [(101, c_spec_l17OwnListRule)] }

theorem k_spec_l17OwnModel : Entry Tryz.prog 67 c_spec_l17OwnModel := by
 refine wkEnt (C := C_spec_l17OwnModel) Tryz.f67 (wkTab k_spec_l17OwnListRule wkNil) fun _ a b k he => ?_
 unfold c_spec_l17OwnModel at he; split at he; rotate_left; exact he.elim
 rename_i x_0 x_1
 refine wkGo0 he fun he => ?_
 refine go_rq he fun he => ?_
 refine go_bind he fun r1_ he => ?_
 exact wkRet [(2, [900])] (ok_some he :) (leads_au [(900, 2), (901, 6), (902, 11900)])

noncomputable def c_spec_l6Vars : Con := fun
  | [.agg [.imm (.int .i64) m_0, .imm (.pair (.int .i64) (.pair (.sl (.int .i64)) (.pair (.sl (.int .i64)) (.pair (.int .i64) (.sl (.sl (.int .i64))))))) m_1], .c (.imm (.int .i64) list_)], [] => .opt _ (spec_l6Vars (m_0, m_1) list_) (fun r => .ret (.c (.bool r)) [])
  | _, _ => .fail

noncomputable def C_spec_l6Vars : Cfg := { y := tys, n := 45, h := 0, tab := [] }

theorem wkz_14 {P : Prop} (h : P := by
  refine go_if he (fun he => ?_) fun he => ?_
  ·exact wkz_7
  ·exact wkz_3) : P := h

theorem wkz_15 {P : Prop} (h : P := by
  refine go_rq he fun he => ?_
  refine go_rq he fun he => ?_
  exact wkz_14) : P := h

theorem k_spec_l6Vars : Entry Tryz.prog 104 c_spec_l6Vars := by
 refine wkEnt (C := C_spec_l6Vars) Tryz.f104 wkNil fun _ a b k he => ?_
 unfold c_spec_l6Vars at he; split at he; rotate_left; exact he.elim
 rename_i m_0 m_1 list_
 refine wkGo0 he fun he => ?_
 refine wkLoop (spec_l6Vars_l1 (m_0, m_1) list_) (fun i => (envOf [(1, .c (.imm y0_ list_)), (2, .c (.ptr 10000000 0)), (5, .c (.int .i64 i))], [(10000000, .rc [.imm y0_ (m_0, m_1).1, .imm y4_ (m_0, m_1).2])])) he (leads_au [(10000000, 2)]) ?_
 rintro i _ he
 refine go_if he (fun he => ?_) fun he => ?_
 ·refine And.intro (by kernel_rfl) ?_
  refine go_rq he fun he => ?_
  refine go_if2 he (fun he => ?_) fun he => ?_
  ·refine go_rq he fun he => ?_
   refine go_if he (fun he => ?_) fun he => ?_
   ·exact wkz_7
   ·refine wkLoop (spec_l6Vars_l2 list_ i) (fun k_ => (envOf [(1, .c (.imm y0_ list_)), (2, .c (.ptr 10001000 0)), (5, .c (.int .i64 i)), (6, .c (.int .i64 k_))], [(10001000, .rc [.imm y0_ (m_0, m_1).1, .imm y4_ (m_0, m_1).2])])) he (leads_au [(10001000, 10000000)]) ?_
    rintro k_ _ he
    refine go_if he (fun he => ?_) fun he => ?_
    ·refine And.intro (by kernel_rfl) ?_
     exact wkz_15
    ·refine go_rq he fun he => ?_
     exact ⟨_, (ok_some he :), (leads_au [(10000000, 10001000)])⟩
  ·exact wkz_7
 ·exact wkz_7

noncomputable def c_spec_l6Linear : Con := fun
  | [.agg [.int .i64 r__0, .imm (.int .i64) r__1, .imm (.int .i64) r__2, .int .i64 r__3, .imm (.sl (.int .i64)) r__4]], [] => .opt _ (spec_l6Linear (r__0, (r__1, (r__2, (r__3, r__4))))) (fun r => .ret (.c (.bool r)) [])
  | _, _ => .fail

noncomputable def C_spec_l6Linear : Cfg := { y := tys, n := 50, h := 0, tab := [] }

theorem wkz_16 {P : Prop} (h : P := by
  exact wkRet [(2, [])] (ok_some he :) (leads_au [])) : P := h

theorem wkz_17 {P : Prop} (h : P := by
  refine go_if he (fun he => ?_) fun he => ?_
  ·exact wkz_16
  ·exact wkz_3) : P := h

theorem wkz_18 {P : Prop} (h : P := by
  refine go_if he (fun he => ?_) fun he => ?_
  ·exact wkz_16
  ·exact wkz_16) : P := h

theorem k_spec_l6Linear : Entry Tryz.prog 122 c_spec_l6Linear := by
 refine wkEnt (C := C_spec_l6Linear) Tryz.f122 wkNil fun _ a b k he => ?_
 unfold c_spec_l6Linear at he; split at he; rotate_left; exact he.elim
 rename_i r__0 r__1 r__2 r__3 r__4
 refine wkGo0 he fun he => ?_
 refine wkLoop (spec_l6Linear_l1 (r__0, (r__1, (r__2, (r__3, r__4))))) (fun i => (envOf [(1, .c (.ptr 10000000 0)), (3, .c (.int .i64 i))], [(10000000, .rc [.int .i64 (r__0, (r__1, (r__2, (r__3, r__4)))).1, .imm y0_ (r__0, (r__1, (r__2, (r__3, r__4)))).2.1, .imm y0_ (r__0, (r__1, (r__2, (r__3, r__4)))).2.2.1, .int .i64 (r__0, (r__1, (r__2, (r__3, r__4)))).2.2.2.1, .imm (.sl y0_) (r__0, (r__1, (r__2, (r__3, r__4)))).2.2.2.2])])) he (leads_au [(10000000, 1)]) ?_
 rintro i _ he
 refine go_if he (fun he => ?_) fun he => ?_
 ·refine go_rq he fun he => ?_
  refine go_if2 he (fun he => ?_) fun he => ?_
  ·refine go_rq he fun he => ?_
   refine go_if2 he (fun he => ?_) fun he => ?_
   ·refine go_rq he fun he => ?_
    exact wkz_17
   ·exact wkz_16
  ·exact wkz_16
 ·refine go_if he (fun he => ?_) fun he => ?_
  ·exact wkz_18
  ·exact wkz_16

noncomputable def c_spec_l6Table : Con := fun
  | [.agg [.int .i64 r__0, .imm (.int .i64) r__1, .imm (.int .i64) r__2, .int .i64 r__3, .imm (.sl (.int .i64)) r__4]], [] => .opt _ (spec_l6Table (r__0, (r__1, (r__2, (r__3, r__4))))) (fun r => .ret (.c (.bool r)) [])
  | _, _ => .fail

noncomputable def C_spec_l6Table : Cfg := { y := tys, n := 56, h := 0, tab := [] }

theorem k_spec_l6Table : Entry Tryz.prog 123 c_spec_l6Table := by
 refine wkEnt (C := C_spec_l6Table) Tryz.f123 wkNil fun _ a b k he => ?_
 unfold c_spec_l6Table at he; split at he; rotate_left; exact he.elim
 rename_i r__0 r__1 r__2 r__3 r__4
 refine wkGo0 he fun he => ?_
 refine wkLoop (spec_l6Table_l1 (r__0, (r__1, (r__2, (r__3, r__4))))) (fun i => (envOf [(1, .c (.ptr 10000000 0)), (3, .c (.int .i64 i))], [(10000000, .rc [.int .i64 (r__0, (r__1, (r__2, (r__3, r__4)))).1, .imm y0_ (r__0, (r__1, (r__2, (r__3, r__4)))).2.1, .imm y0_ (r__0, (r__1, (r__2, (r__3, r__4)))).2.2.1, .int .i64 (r__0, (r__1, (r__2, (r__3, r__4)))).2.2.2.1, .imm (.sl y0_) (r__0, (r__1, (r__2, (r__3, r__4)))).2.2.2.2])])) he (leads_au [(10000000, 1)]) ?_
 rintro i _ he
 refine go_if he (fun he => ?_) fun he => ?_
 ·refine And.intro (by kernel_rfl) ?_
  refine go_rq he fun he => ?_
  refine go_if he (fun he => ?_) fun he => ?_
  ·exact wkz_16
  ·refine wkLoop (spec_l6Table_l2 (r__0, (r__1, (r__2, (r__3, r__4)))) i) (fun k_ => (envOf [(1, .c (.ptr 10001000 0)), (3, .c (.int .i64 i)), (4, .c (.int .i64 k_))], [(10001000, .rc [.int .i64 (r__0, (r__1, (r__2, (r__3, r__4)))).1, .imm y0_ (r__0, (r__1, (r__2, (r__3, r__4)))).2.1, .imm y0_ (r__0, (r__1, (r__2, (r__3, r__4)))).2.2.1, .int .i64 (r__0, (r__1, (r__2, (r__3, r__4)))).2.2.2.1, .imm (.sl y0_) (r__0, (r__1, (r__2, (r__3, r__4)))).2.2.2.2])])) he (leads_au [(10001000, 10000000)]) ?_
   rintro k_ _ he
   refine go_rq he fun he => ?_
   refine go_if he (fun he => ?_) fun he => ?_
   ·refine go_rq he fun he => ?_
    refine go_rq he fun he => ?_
    refine go_if2 he (fun he => ?_) fun he => ?_
    ·refine go_rq he fun he => ?_
     refine go_rq he fun he => ?_
     exact wkz_17
    ·exact wkz_16
   ·refine go_rq he fun he => ?_
    exact ⟨_, (ok_some he :), (leads_au [(10000000, 10001000)])⟩
 ·exact wkz_16

noncomputable def c_spec_l6Rule : Con := fun
  | [.agg [.imm (.int .i64) m_0, .imm (.pair (.int .i64) (.pair (.sl (.int .i64)) (.pair (.sl (.int .i64)) (.pair (.int .i64) (.sl (.sl (.int .i64))))))) m_1], .agg [.int .i64 r__0, .imm (.int .i64) r__1, .imm (.int .i64) r__2, .int .i64 r__3, .imm (.sl (.int .i64)) r__4]], [] => .opt _ (spec_l6Rule (m_0, m_1) (r__0, (r__1, (r__2, (r__3, r__4))))) (fun r => .ret (.c (.bool r)) [])
  | _, _ => .fail

noncomputable def C_spec_l6Rule : Cfg := { y := tys, n := 55, h := 0, tab := [(104, c_spec_l6Vars), (122, c_spec_l6Linear), (123, c_spec_l6Table)], cut := [3] }

theorem wkz_19 {P : Prop} (h : P := by
  refine go_if he (fun he => ?_) fun he => ?_
  ·refine go_if he (fun he => ?_) fun he => ?_
   ·exact wkz_7
   ·exact ⟨_, he, (leads_au [(10000000, 3)])⟩
  ·exact ⟨_, he, (leads_au [(10000000, 3)])⟩) : P := h

theorem k_spec_l6Rule : Entry Tryz.prog 91 c_spec_l6Rule := by
 refine wkEnt (C := C_spec_l6Rule) Tryz.f91 (wkTab k_spec_l6Vars (wkTab k_spec_l6Linear (wkTab k_spec_l6Table wkNil))) fun _ a b k he => ?_
 unfold c_spec_l6Rule at he; split at he; rotate_left; exact he.elim
 rename_i m_0 m_1 r__0 r__1 r__2 r__3 r__4
 refine wkGo0 he fun he => ?_
 refine wkSeq (spec_l6Rule_j1 (r__0, (r__1, (r__2, (r__3, r__4))))) (fun _ => (envOf [(3, .c (.ptr 10000000 0))], [(10000000, .rc [.int .i64 (r__0, (r__1, (r__2, (r__3, r__4)))).1, .imm y0_ (r__0, (r__1, (r__2, (r__3, r__4)))).2.1, .imm y0_ (r__0, (r__1, (r__2, (r__3, r__4)))).2.2.1, .int .i64 (r__0, (r__1, (r__2, (r__3, r__4)))).2.2.2.1, .imm (.sl y0_) (r__0, (r__1, (r__2, (r__3, r__4)))).2.2.2.2])])) he ?_ ?_
 ·rintro ⟨⟩ he
  refine go_if he (fun he => ?_) fun he => ?_
  ·refine go_bind he fun r2_ he => ?_
   exact wkz_7
  ·refine go_if he (fun he => ?_) fun he => ?_
   ·exact wkz_7
   ·refine go_if he (fun he => ?_) fun he => ?_
    ·refine go_bind he fun r3_ he => ?_
     exact wkz_7
    ·exact wkz_8
 ·skip
  refine go_bind he fun r1_ he => ?_
  refine go_if2 he (fun he => ?_) fun he => ?_
  ·refine go_if he (fun he => ?_) fun he => ?_
   ·refine go_if2 he (fun he => ?_) fun he => ?_
    ·refine go_if2 he (fun he => ?_) fun he => ?_
     ·exact wkz_19
     ·exact wkz_7
    ·exact wkz_7
   ·exact wkz_19
  ·exact wkz_7

noncomputable def c_spec_ModelValid : Con := fun
  | [.agg [.imm (.int .i64) a0_0, .imm (.pair (.int .i64) (.pair (.sl (.int .i64)) (.pair (.sl (.int .i64)) (.pair (.int .i64) (.sl (.sl (.int .i64))))))) a0_1]], [] => .opt _ (spec_ModelValid (a0_0, a0_1)) (fun r => .ret (.c (.bool r)) [])
  | _, _ => .fail

noncomputable def C_spec_ModelValid_s1 : Sched := .alt 6 (.first 7 .done) .stop
noncomputable def C_spec_ModelValid : Cfg := { y := tys, n := 74, h := 0, tab := [(91, c_spec_l6Rule)], cut := [8], sched := [(13, (wkFs [1, 3] (.alt 0 (.alt 2 (wkFs [4, 5] C_spec_ModelValid_s1) .stop) (.alt 2 (wkFs [4, 5] (.alt 0 C_spec_ModelValid_s1 .stop)) .stop))))] }

theorem k_spec_ModelValid : Entry Tryz.prog 52 c_spec_ModelValid := by
 refine wkEnt (C := C_spec_ModelValid) Tryz.f52 (wkTab k_spec_l6Rule wkNil) fun _ a b k he => ?_
 unfold c_spec_ModelValid at he; split at he; rotate_left; exact he.elim
 rename_i a0_0 a0_1
 refine wkGo0 he fun he => ?_
 refine wkSeq (spec_ModelValid_j1 (a0_0, a0_1)) (fun i2 => (envOf [(1, .c (.ptr 10001000 0)), (3, .c (.int .i64 i2))], [(10001000, .rc [.imm y0_ (a0_0, a0_1).1, .imm y4_ (a0_0, a0_1).2])])) he ?_ ?_
 ·rintro i2 he
  refine go_if2 he (fun he => ?_) fun he => ?_
  ·refine go_if2 he (fun he => ?_) fun he => ?_
   ·refine go_if2 he (fun he => ?_) fun he => ?_
    ·refine go_if he (fun he => ?_) fun he => ?_
     ·exact wkz_16
     ·refine wkLoop (spec_ModelValid_l1 (a0_0, a0_1)) (fun i3 => (envOf [(1, .c (.ptr 10002000 0)), (5, .c (.int .i64 i3))], [(10002000, .rc [.imm y0_ (a0_0, a0_1).1, .imm y4_ (a0_0, a0_1).2])])) he (leads_au [(10002000, 10001000)]) ?_
      rintro i3 _ he
      refine go_if he (fun he => ?_) fun he => ?_
      ·refine And.intro (by kernel_rfl) ?_
       obtain ⟨hq1, he⟩ := ok_rq he
       obtain ⟨r2_, hq2, he⟩ := ok_bind he
       refine And.intro ?_ (And.intro ?_ (trivial))
       ·skip
        refine And.intro ?_ trivial
        refine And.intro hq1 ?_
        refine And.intro ?_ trivial
        refine ⟨r2_, hq2, ?_⟩
        exact wkz_17
       ·skip
        refine And.intro hq1 ?_
        refine And.intro ?_ trivial
        refine And.intro ?_ trivial
        refine ⟨r2_, hq2, ?_⟩
        exact wkz_17
      ·exact wkz_16
    ·exact wkz_16
   ·exact wkz_16
  ·exact wkz_16
 ·skip
  refine wkLoop (spec_ModelValid_l2 (a0_0, a0_1)) (fun (i, i1) => (envOf [(1, .c (.ptr 10000000 0)), (3, .c (.int .i64 i)), (4, .c (.int .i64 i1))], [(10000000, .rc [.imm y0_ (a0_0, a0_1).1, .imm y4_ (a0_0, a0_1).2])])) he (leads_au [(10000000, 1)]) ?_
  rintro ⟨i, i1⟩ _ he
  refine go_if he (fun he => ?_) fun he => ?_
  ·refine go_if he (fun he => ?_) fun he => ?_
   ·refine go_rq he fun he => ?_
    refine go_if2 he (fun he => ?_) fun he => ?_
    ·refine go_rq he fun he => ?_
     refine go_if he (fun he => ?_) fun he => ?_
     ·exact wkz_16
     ·refine go_rq he fun he => ?_
      exact wkz_11
    ·exact wkz_16
   ·exact ⟨_, (ok_up he :), (leads_au [(10001000, 10000000)])⟩
  ·exact ⟨_, (ok_up he :), (leads_au [(10001000, 10000000)])⟩

noncomputable def c_spec_l6Copy : Con := fun
  | [.agg [.imm (.int .i64) m_0, .imm (.pair (.int .i64) (.pair (.sl (.int .i64)) (.pair (.sl (.int .i64)) (.pair (.int .i64) (.sl (.sl (.int .i64))))))) m_1]], [] => .opt _ (spec_l6Copy (m_0, m_1)) (fun r => .ret (.agg [.own 901 false, .own 902 false]) [(900, .rc [.own 901 false, .own 902 false]), (901, .sl 3 y0_ r.1 .shallow), (902, .sl 72 y4_ r.2 (.deep true .no))])
  | _, _ => .fail

noncomputable def C_spec_l6Copy_s1 : Sched := .alt 14 .done .stop
noncomputable def C_spec_l6Copy_s2 : Sched := .alt 12 C_spec_l6Copy_s1 .stop
noncomputable def C_spec_l6Copy_s3 : Sched := .alt 9 C_spec_l6Copy_s2 .stop
noncomputable def C_spec_l6Copy_s4 : Sched := .alt 9 (.alt 12 (.alt 13 C_spec_l6Copy_s1 .stop) (.alt 13 C_spec_l6Copy_s2 .stop)) (.alt 13 C_spec_l6Copy_s3 .stop)
noncomputable def C_spec_l6Copy_s5 : Sched := .alt 6 C_spec_l6Copy_s3 .stop
noncomputable def C_spec_l6Copy_s6 : Sched := .alt 5 C_spec_l6Copy_s3 .stop
noncomputable def C_spec_l6Copy_s7 : Sched := .alt 5 C_spec_l6Copy_s4 (.alt 13 C_spec_l6Copy_s6 .stop)
noncomputable def C_spec_l6Copy_s8 : Sched := .alt 5 C_spec_l6Copy_s5 (.alt 6 C_spec_l6Copy_s6 .stop)
noncomputable def C_spec_l6Copy_s9 : Sched := .alt 2 C_spec_l6Copy_s6 .stop
noncomputable def C_spec_l6Copy_s10 : Sched := .alt 10 (.first 11 (.alt 12 .done .stop)) .stop
noncomputable def C_spec_l6Copy_s11 : Sched := .alt 9 C_spec_l6Copy_s10 .stop
noncomputable def C_spec_l6Copy_s12 : Sched := .alt 8 C_spec_l6Copy_s11 .stop
noncomputable def C_spec_l6Copy : Cfg := { y := tys, n := 64, h := 0, tab := [], cut := [1, 6, 7, 11], deep := [54, 60], sched := [(6, (wkFs [0, 1, 3, 4, 7, 8, 10, 11] (.alt 2 (.alt 5 (.alt 6 C_spec_l6Copy_s4 (.alt 13 C_spec_l6Copy_s5 .stop)) (.alt 6 C_spec_l6Copy_s7 (.alt 13 C_spec_l6Copy_s8 .stop))) (.alt 6 (.alt 2 C_spec_l6Copy_s7 (.alt 13 C_spec_l6Copy_s9 .stop)) (.alt 13 (.alt 2 C_spec_l6Copy_s8 (.alt 6 C_spec_l6Copy_s9 .stop)) .stop))))), (10, (wkFs [0, 3, 4, 5, 6, 7] (.alt 1 (.alt 2 C_spec_l6Copy_s12 .stop) (.alt 2 (.alt 1 C_spec_l6Copy_s12 (.alt 8 (.alt 1 C_spec_l6Copy_s11 (.alt 9 (.alt 1 C_spec_l6Copy_s10 .stop) .stop)) .stop)) .stop))))] }

theorem wkz_20 {P : Prop} (h : P := by
  refine And.intro ?_ trivial
  refine And.intro ?_ trivial
  refine And.intro hq2 ?_
  refine And.intro ?_ trivial
  refine go_rq he fun he => ?_
  exact ⟨_, (ok_some he :), (leads_au [(10008007, 55)])⟩) : P := h

theorem wkz_21 {P : Prop} (h : P := by
  refine And.intro ?_ trivial
  refine And.intro ?_ trivial
  exact ⟨_, he, (leads_au [(10007000, 10006000), (10007001, 10006001), (10007002, 6), (10007003, 10006002), (10007004, 10006003), (10007005, 30), (10007006, 34)])⟩) : P := h

theorem wkz_22 {P : Prop} (h : P := by
  refine And.intro ?_ trivial
  refine And.intro hq2 ?_
  exact wkz_21) : P := h

theorem wkz_23 {P : Prop} (h : P := by
  refine And.intro ?_ (And.intro ?_ (trivial))
  ·skip
   refine And.intro hq2 ?_
   refine And.intro ?_ (And.intro ?_ (trivial))
   ·skip
    exact wkz_21
   ·skip
    exact wkz_21
  ·skip
   exact wkz_22) : P := h

theorem wkz_24 {P : Prop} (h : P := by
  skip
  refine And.intro ?_ (And.intro ?_ (trivial))
  ·skip
   refine And.intro hq1 ?_
   exact wkz_23
  ·skip
   refine And.intro ?_ trivial
   refine And.intro hq1 ?_
   exact wkz_22) : P := h

theorem wkz_25 {P : Prop} (h : P := by
  skip
  refine And.intro ?_ (And.intro ?_ (trivial))
  ·skip
   refine And.intro hq1 ?_
   refine And.intro ?_ trivial
   exact wkz_22
  ·skip
   refine And.intro ?_ trivial
   refine And.intro hq1 ?_
   exact wkz_22) : P := h

theorem k_spec_l6Copy : Entry Tryz.prog 68 c_spec_l6Copy := by
 refine wkEnt (C := C_spec_l6Copy) Tryz.f68 wkNil fun _ a b k he => ?_
 unfold c_spec_l6Copy at he; split at he; rotate_left; exact he.elim
 rename_i m_0 m_1
 refine wkGo0 he fun he => ?_
 refine wkSeq (spec_l6Copy_j1 (m_0, m_1)) (fun _ => (envOf [(1, .c (.iptr y5_ (m_0, m_1) 0)), (2, .c (.ptr 10000000 0))], [(10000000, .rc [.nil, .nil])])) he ?_ ?_
 ·rintro ⟨⟩ he
  refine go_rq he fun he => ?_
  refine wkLoop (spec_l6Copy_l1 (m_0, m_1)) (fun (i, out_1) => (envOf [(1, .c (.iptr y5_ (m_0, m_1) 0)), (2, .c (.ptr 10001000 0)), (3, .c (.ptr 10001001 0)), (4, .c (.int .i64 i))], [(10001000, .rc [.nil, .nil]), (10001001, .rc [.own 10001002 false, .own 10001003 false]), (10001002, .sl 3 y0_ (([] : List Int) ++ (m_0, m_1).1) .shallow), (10001003, .sl 72 y4_ out_1 (.deep true .no))])) he (leads_au [(10001000, 10000000), (10001001, 3), (10001002, 11)]) ?_
  rintro ⟨i, out_1⟩ _ he
  refine go_if he (fun he => ?_) fun he => ?_
  ·refine wkSeq (spec_l6Copy_j2 (m_0, m_1) i out_1) (fun _ => (envOf [(1, .c (.iptr y5_ (m_0, m_1) 0)), (2, .c (.ptr 10006000 0)), (3, .c (.ptr 10006001 0)), (4, .c (.int .i64 i)), (5, .c (.iptr y4_ ((m_0, m_1).2.getD i.toNat (0, ([], ([], (0, []))))) 0))], [(10006000, .rc [.nil, .nil]), (10006001, .rc [.own 10006002 false, .own 10006003 false]), (10006002, .sl 3 y0_ (([] : List Int) ++ (m_0, m_1).1) .shallow), (10006003, .sl 72 y4_ out_1 (.deep true .no))])) he ?_ ?_
   ·rintro ⟨⟩ he
    refine wkSeq (spec_l6Copy_j3 (m_0, m_1) i out_1) (fun _ => (envOf [(1, .c (.iptr y5_ (m_0, m_1) 0)), (2, .c (.ptr 10007000 0)), (3, .c (.ptr 10007001 0)), (4, .c (.int .i64 i)), (5, .c (.iptr y4_ ((m_0, m_1).2.getD i.toNat (0, ([], ([], (0, []))))) 0)), (6, .c (.ptr 10007002 0))], [(10007000, .rc [.nil, .nil]), (10007001, .rc [.own 10007003 false, .own 10007004 false]), (10007002, .rc [.int .i64 ((m_0, m_1).2.getD i.toNat (0, ([], ([], (0, []))))).1, .own 10007005 false, .own 10007006 false, .int .i64 ((m_0, m_1).2.getD i.toNat (0, ([], ([], (0, []))))).2.2.2.1, .nil]), (10007003, .sl 3 y0_ (([] : List Int) ++ (m_0, m_1).1) .shallow), (10007004, .sl 72 y4_ out_1 (.deep true .no)), (10007005, .sl 3 y0_ (([] : List Int) ++ ((m_0, m_1).2.getD i.toNat (0, ([], ([], (0, []))))).2.1) .shallow), (10007006, .sl 3 y0_ (([] : List Int) ++ ((m_0, m_1).2.getD i.toNat (0, ([], ([], (0, []))))).2.2.1) .shallow)])) he ?_ ?_
    ·rintro ⟨⟩ he
     refine wkSeq (spec_l6Copy_j4 (m_0, m_1) i out_1) (fun y_43 => (envOf [(1, .c (.iptr y5_ (m_0, m_1) 0)), (2, .c (.ptr 10009000 0)), (3, .c (.ptr 10009001 0)), (4, .c (.int .i64 i)), (6, .c (.ptr 10009002 0))], [(10009000, .rc [.nil, .nil]), (10009001, .rc [.own 10009003 false, .own 10009004 false]), (10009002, .rc [.int .i64 ((m_0, m_1).2.getD i.toNat (0, ([], ([], (0, []))))).1, .own 10009005 false, .own 10009006 false, .int .i64 ((m_0, m_1).2.getD i.toNat (0, ([], ([], (0, []))))).2.2.2.1, .own 10009007 false]), (10009003, .sl 3 y0_ (([] : List Int) ++ (m_0, m_1).1) .shallow), (10009004, .sl 72 y4_ out_1 (.deep true .no)), (10009005, .sl 3 y0_ (([] : List Int) ++ ((m_0, m_1).2.getD i.toNat (0, ([], ([], (0, []))))).2.1) .shallow), (10009006, .sl 3 y0_ (([] : List Int) ++ ((m_0, m_1).2.getD i.toNat (0, ([], ([], (0, []))))).2.2.1) .shallow), (10009007, .sl 22 (.sl y0_) y_43 (.deep true .no))])) he ?_ ?_
     ·rintro y_43 he
      refine go_rq he fun he => ?_
      refine go_rq he fun he => ?_
      exact ⟨_, (ok_some he :), (leads_au [(10001000, 10009000), (10001001, 10009001), (10001002, 10009003), (10001003, 61)])⟩
     ·skip
      refine wkLoop (spec_l6Copy_l2 (m_0, m_1) i out_1) (fun (k_1, y_42) => (envOf [(1, .c (.iptr y5_ (m_0, m_1) 0)), (2, .c (.ptr 10008000 0)), (3, .c (.ptr 10008001 0)), (4, .c (.int .i64 i)), (5, .c (.iptr y4_ ((m_0, m_1).2.getD i.toNat (0, ([], ([], (0, []))))) 0)), (6, .c (.ptr 10008002 0)), (7, .c (.int .i64 k_1))], [(10008000, .rc [.nil, .nil]), (10008001, .rc [.own 10008003 false, .own 10008004 false]), (10008002, .rc [.int .i64 ((m_0, m_1).2.getD i.toNat (0, ([], ([], (0, []))))).1, .own 10008005 false, .own 10008006 false, .int .i64 ((m_0, m_1).2.getD i.toNat (0, ([], ([], (0, []))))).2.2.2.1, .own 10008007 false]), (10008003, .sl 3 y0_ (([] : List Int) ++ (m_0, m_1).1) .shallow), (10008004, .sl 72 y4_ out_1 (.deep true .no)), (10008005, .sl 3 y0_ (([] : List Int) ++ ((m_0, m_1).2.getD i.toNat (0, ([], ([], (0, []))))).2.1) .shallow), (10008006, .sl 3 y0_ (([] : List Int) ++ ((m_0, m_1).2.getD i.toNat (0, ([], ([], (0, []))))).2.2.1) .shallow), (10008007, .sl 22 (.sl y0_) y_42 (.deep true .no))])) he (leads_au [(10008000, 10007000), (10008001, 10007001), (10008002, 10007002), (10008003, 10007003), (10008004, 10007004), (10008005, 10007005), (10008006, 10007006)]) ?_
      rintro ⟨k_1, y_42⟩ _ he
      refine go_if he (fun he => ?_) fun he => ?_
      ·refine And.intro (by kernel_rfl) ?_
       refine go_rq he fun he => ?_
       obtain ⟨hq1, he⟩ := ok_rq he
       obtain ⟨hq2, he⟩ := ok_rq he
       refine And.intro ?_ (And.intro ?_ (trivial))
       ·skip
        refine And.intro ?_ trivial
        refine And.intro ?_ trivial
        refine And.intro hq1 ?_
        exact wkz_20
       ·skip
        refine And.intro ?_ (And.intro ?_ (trivial))
        ·skip
         refine And.intro ?_ trivial
         refine And.intro hq1 ?_
         exact wkz_20
        ·skip
         refine And.intro hq1 ?_
         refine And.intro ?_ (And.intro ?_ (trivial))
         ·skip
          exact wkz_20
         ·skip
          exact wkz_20
      ·exact ⟨_, (ok_up he :), (leads_au [(10009000, 10008000), (10009001, 10008001), (10009002, 10008002), (10009003, 10008003), (10009004, 10008004), (10009005, 10008005), (10009006, 10008006), (10009007, 10008007)])⟩
    ·skip
     refine And.intro (by kernel_rfl) ?_
     obtain ⟨hq1, he⟩ := ok_rq he
     obtain ⟨hq2, he⟩ := ok_rq he
     refine And.intro ?_ (And.intro ?_ (And.intro ?_ (trivial)))
     ·skip
      refine And.intro ?_ (And.intro ?_ (And.intro ?_ (trivial)))
      ·skip
       refine And.intro hq1 ?_
       refine And.intro ?_ (And.intro ?_ (trivial))
       ·skip
        exact wkz_23
       ·skip
        refine And.intro ?_ trivial
        exact wkz_22
      ·exact wkz_24
      ·exact wkz_25
     ·skip
      refine And.intro ?_ (And.intro ?_ (trivial))
      ·exact wkz_24
      ·skip
       refine And.intro ?_ trivial
       refine And.intro ?_ trivial
       refine And.intro hq1 ?_
       exact wkz_22
     ·skip
      refine And.intro ?_ (And.intro ?_ (trivial))
      ·exact wkz_25
      ·skip
       refine And.intro ?_ trivial
       refine And.intro ?_ trivial
       refine And.intro hq1 ?_
       exact wkz_22
   ·skip
    refine go_rq he fun he => ?_
    exact ⟨_, he, (leads_ren [(10006000, 10001000), (10006001, 10001001), (10006002, 10001002), (10006003, 10001003)] rfl rfl ⟨⟨rfl, rfl, trivial⟩, ⟨⟨⟨rfl, rfl⟩, trivial⟩, ⟨⟨rfl, rfl⟩, trivial⟩, trivial⟩, ⟨rfl, rfl⟩, ⟨rfl, rfl⟩, trivial⟩ ⟨.inl rfl, ⟨⟨rfl, rfl⟩, rfl⟩, ⟨⟨rfl, rfl⟩, rfl⟩, rfl, .inr ⟨5, rfl, ⟨rfl, by repeat (first | exact trivial | refine And.intro trivial ?_)⟩, rfl⟩, trivial⟩)⟩
  ·exact wkRet [(2, [900])] (ok_some he :) (leads_au [(900, 10001000), (901, 10001002), (902, 10001003)])
 ·skip
  exact ⟨_, he, (leads_ren [(10000000, 2)] rfl rfl ⟨⟨rfl, rfl, trivial⟩, trivial⟩ ⟨.inr ⟨1, rfl, ⟨rfl, by repeat (first | exact trivial | refine And.intro trivial ?_)⟩, rfl⟩, ⟨⟨rfl, rfl⟩, rfl⟩, trivial⟩)⟩

end Go.AE.Y
