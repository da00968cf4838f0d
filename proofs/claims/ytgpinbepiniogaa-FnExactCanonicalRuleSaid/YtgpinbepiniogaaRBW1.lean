/-
  Walks: each function keeps the contract that its model gives. No conditions.
-/
import Derived.Test.YtgpinbepiniogaaRBTab
import Derived.Test.YtgpinbepiniogaaRBM
import Derived.Test.YtgpinbepiniogaaRBS
import Derived.Test.YtgpinbepiniogaaPx1
namespace Go.AE.Y
open Go Go.AE Go.Proofs
set_option linter.unusedVariables false
set_option maxHeartbeats 2000000
set_option maxRecDepth 100000

noncomputable def c_laws_szIntS : Con := fun
  | [.c (.imm (.int .i64) a), .c (.int .i64 left)], [] => .opt _ (laws_szIntS a left) (fun r => .ret (.c (.int .i64 r)) [])
  | _, _ => .fail

noncomputable def C_laws_szIntS : Cfg := { y := tys, n := 12, h := 0, tab := [] }

theorem wkz_1 {P : Prop} (h : P := by
  exact wkRet0 he) : P := h

theorem wkz_2 {P : Prop} (h : P := by
  refine go_if he (fun he => ?_) fun he => ?_
  ·exact wkz_1
  ·exact wkz_1) : P := h

theorem k_laws_szIntS : Entry Try.prog 32 c_laws_szIntS := by
 refine wkEnt (C := C_laws_szIntS) Try.f32 wkNil fun _ a b k he => ?_
 unfold c_laws_szIntS at he; split at he; rotate_left; exact he.elim
 rename_i a left
 refine wkGo0 he fun he => ?_
 refine go_rq he fun he => ?_
 exact wkz_2

noncomputable def c_laws_szIntSS : Con := fun
  | [.c (.imm (.sl (.int .i64)) a), .c (.int .i64 left)], [] => .opt _ (laws_szIntSS a left) (fun r => .ret (.c (.int .i64 r)) [])
  | _, _ => .fail

noncomputable def C_laws_szIntSS : Cfg := { y := tys, n := 27, h := 0, tab := [(32, c_laws_szIntS)] }

theorem wkz_3 {P : Prop} (h : P := by
  refine go_rq he fun he => ?_
  exact ⟨_, (ok_some he :), (leads_au [])⟩) : P := h

theorem wkz_4 {P : Prop} (h : P := by
  refine go_if he (fun he => ?_) fun he => ?_
  ·exact wkz_1
  ·exact wkz_3) : P := h

theorem wkz_5 {P : Prop} (h : P := by
  refine go_rq he fun he => ?_
  refine go_bind he fun r1_ he => ?_
  exact wkz_4) : P := h

theorem wkz_6 {P : Prop} (h : P := by
  refine go_if he (fun he => ?_) fun he => ?_
  ·exact wkz_5
  ·exact wkz_1) : P := h

theorem k_laws_szIntSS : Entry Try.prog 85 c_laws_szIntSS := by
 refine wkEnt (C := C_laws_szIntSS) Try.f85 (wkTab k_laws_szIntS wkNil) fun _ a b k he => ?_
 unfold c_laws_szIntSS at he; split at he; rotate_left; exact he.elim
 rename_i a left
 refine wkGo0 he fun he => ?_
 refine go_rq he fun he => ?_
 refine go_if he (fun he => ?_) fun he => ?_
 ·exact wkz_1
 ·refine wkLoop (laws_szIntSS_l1 a) (fun (left1, i) => (envOf [(0, .c (.imm (.sl y0_) a)), (1, .c (.int .i64 left1)), (5, .c (.int .i64 i))], [])) he (leads_au []) ?_
  rintro ⟨left1, i⟩ _ he
  exact wkz_6

noncomputable def c_laws_szRule : Con := fun
  | [.agg [.int .i64 a_0, .imm (.int .i64) a_1, .imm (.int .i64) a_2, .int .i64 a_3, .imm (.sl (.int .i64)) a_4], .c (.int .i64 left)], [] => .opt _ (laws_szRule (a_0, (a_1, (a_2, (a_3, a_4)))) left) (fun r => .ret (.c (.int .i64 r)) [])
  | _, _ => .fail

noncomputable def C_laws_szRule : Cfg := { y := tys, n := 24, h := 0, tab := [(32, c_laws_szIntS), (85, c_laws_szIntSS)] }

theorem wkz_7 {P : Prop} (h : P := by
  exact wkRet [(4, [])] (ok_some he :) (leads_au [])) : P := h

theorem wkz_8 {P : Prop} (h : P := by
  refine go_if he (fun he => ?_) fun he => ?_
  ·exact wkz_7
  ·exact wkz_7) : P := h

theorem wkz_9 {P : Prop} (h : P := by
  refine go_if he (fun he => ?_) fun he => ?_
  ·exact wkz_7
  ·refine go_bind he fun r3_ he => ?_
   exact wkz_8) : P := h

theorem k_laws_szRule : Entry Try.prog 63 c_laws_szRule := by
 refine wkEnt (C := C_laws_szRule) Try.f63 (wkTab k_laws_szIntS (wkTab k_laws_szIntSS wkNil)) fun _ a b k he => ?_
 unfold c_laws_szRule at he; split at he; rotate_left; exact he.elim
 rename_i a_0 a_1 a_2 a_3 a_4 left
 refine wkGo0 he fun he => ?_
 refine go_bind he fun r1_ he => ?_
 refine go_if he (fun he => ?_) fun he => ?_
 ·exact wkz_7
 ·refine go_bind he fun r2_ he => ?_
  exact wkz_9

noncomputable def c_laws_szRuleS : Con := fun
  | [.c (.imm (.pair (.int .i64) (.pair (.sl (.int .i64)) (.pair (.sl (.int .i64)) (.pair (.int .i64) (.sl (.sl (.int .i64))))))) a), .c (.int .i64 left)], [] => .opt _ (laws_szRuleS a left) (fun r => .ret (.c (.int .i64 r)) [])
  | _, _ => .fail

noncomputable def C_laws_szRuleS : Cfg := { y := tys, n := 27, h := 0, tab := [(63, c_laws_szRule)] }

theorem k_laws_szRuleS : Entry Try.prog 33 c_laws_szRuleS := by
 refine wkEnt (C := C_laws_szRuleS) Try.f33 (wkTab k_laws_szRule wkNil) fun _ a b k he => ?_
 unfold c_laws_szRuleS at he; split at he; rotate_left; exact he.elim
 rename_i a left
 refine wkGo0 he fun he => ?_
 refine go_rq he fun he => ?_
 refine go_if he (fun he => ?_) fun he => ?_
 ·exact wkz_1
 ·refine wkLoop (laws_szRuleS_l1 a) (fun (left1, i) => (envOf [(0, .c (.imm y4_ a)), (1, .c (.int .i64 left1)), (5, .c (.int .i64 i))], [])) he (leads_au []) ?_
  rintro ⟨left1, i⟩ _ he
  exact wkz_6

noncomputable def c_laws_szModel : Con := fun
  | [.agg [.imm (.int .i64) a_0, .imm (.pair (.int .i64) (.pair (.sl (.int .i64)) (.pair (.sl (.int .i64)) (.pair (.int .i64) (.sl (.sl (.int .i64))))))) a_1], .c (.int .i64 left)], [] => .opt _ (laws_szModel (a_0, a_1) left) (fun r => .ret (.c (.int .i64 r)) [])
  | _, _ => .fail

noncomputable def C_laws_szModel : Cfg := { y := tys, n := 18, h := 0, tab := [(32, c_laws_szIntS), (33, c_laws_szRuleS)] }

theorem k_laws_szModel : Entry Try.prog 10 c_laws_szModel := by
 refine wkEnt (C := C_laws_szModel) Try.f10 (wkTab k_laws_szIntS (wkTab k_laws_szRuleS wkNil)) fun _ a b k he => ?_
 unfold c_laws_szModel at he; split at he; rotate_left; exact he.elim
 rename_i a_0 a_1 left
 refine wkGo0 he fun he => ?_
 refine go_bind he fun r1_ he => ?_
 refine go_if he (fun he => ?_) fun he => ?_
 ·exact wkz_7
 ·refine go_bind he fun r2_ he => ?_
  exact wkz_8

noncomputable def c_laws_toIntS : Con := fun
  | [.c (.imm (.int .i64) a)], [] => .opt _ (laws_toIntS a) (fun r => .ret (.c (.own 900 false)) [(900, .sl 3 y0_ r .shallow)])
  | _, _ => .fail

noncomputable def C_laws_toIntS : Cfg := { y := tys, n := 22, h := 0, tab := [] }

theorem wkz_10 {P : Prop} (h : P := by
  refine go_rq he fun he => ?_
  exact wkz_3) : P := h

theorem wkz_11 {P : Prop} (h : P := by
  refine go_rq he fun he => ?_
  exact wkz_10) : P := h

theorem k_laws_toIntS : Entry Try.prog 34 c_laws_toIntS := by
 refine wkEnt (C := C_laws_toIntS) Try.f34 wkNil fun _ a b k he => ?_
 unfold c_laws_toIntS at he; split at he; rotate_left; exact he.elim
 rename_i a
 refine wkGo0 he fun he => ?_
 refine go_rq he fun he => ?_
 refine wkLoop (laws_toIntS_l1 a) (fun (i, out) => (envOf [(0, .c (.imm y0_ a)), (3, .c (.own 10000000 false)), (4, .c (.int .i64 i))], [(10000000, .sl 3 y0_ out .shallow)])) he (leads_au [(10000000, 7)]) ?_
 rintro ⟨i, out⟩ _ he
 refine go_if he (fun he => ?_) fun he => ?_
 ·exact wkz_11
 ·exact wkRet [(2, [])] (ok_some he :) (leads_au [(900, 10000000)])

noncomputable def c_laws_toIntSS : Con := fun
  | [.c (.imm (.sl (.int .i64)) a)], [] => .opt _ (laws_toIntSS a) (fun r => .ret (.c (.own 900 false)) [(900, .sl 23 (.sl y0_) r (.deep true .no))])
  | _, _ => .fail

noncomputable def C_laws_toIntSS : Cfg := { y := tys, n := 23, h := 0, tab := [(34, c_laws_toIntS)], deep := [7] }

theorem wkz_12 {P : Prop} (h : P := by
  rintro ⟨i, out⟩ _ he
  refine go_if he (fun he => ?_) fun he => ?_
  ·refine go_rq he fun he => ?_
   refine go_bind he fun r2_ he => ?_
   exact wkz_10
  ·exact wkRet [(2, [])] (ok_some he :) (leads_au [(900, 10000000)])) : P := h

theorem k_laws_toIntSS : Entry Try.prog 86 c_laws_toIntSS := by
 refine wkEnt (C := C_laws_toIntSS) Try.f86 (wkTab k_laws_toIntS wkNil) fun _ a b k he => ?_
 unfold c_laws_toIntSS at he; split at he; rotate_left; exact he.elim
 rename_i a
 refine wkGo0 he fun he => ?_
 refine go_rq he fun he => ?_
 refine wkLoop (laws_toIntSS_l1 a) (fun (i, out) => (envOf [(0, .c (.imm (.sl y0_) a)), (3, .c (.own 10000000 false)), (4, .c (.int .i64 i))], [(10000000, .sl 23 (.sl y0_) out (.deep true .no))])) he (leads_au [(10000000, 7)]) ?_
 exact wkz_12

noncomputable def c_laws_toRule : Con := fun
  | [.agg [.int .i64 a_0, .imm (.int .i64) a_1, .imm (.int .i64) a_2, .int .i64 a_3, .imm (.sl (.int .i64)) a_4]], [] => .opt _ (laws_toRule (a_0, (a_1, (a_2, (a_3, a_4))))) (fun r => .ret (.agg [.int .i64 r.1, .own 901 false, .own 902 false, .int .i64 r.2.1, .own 903 false]) [(900, .rc [.int .i64 r.1, .own 901 false, .own 902 false, .int .i64 r.2.1, .own 903 false]), (901, .sl 3 y0_ r.2.2.1 .shallow), (902, .sl 3 y0_ r.2.2.2.1 .shallow), (903, .sl 23 (.sl y0_) r.2.2.2.2 (.deep true .no))])
  | _, _ => .fail

noncomputable def C_laws_toRule : Cfg := { y := tys, n := 23, h := 0, tab := [(34, c_laws_toIntS), (86, c_laws_toIntSS)] }

theorem k_laws_toRule : Entry Try.prog 64 c_laws_toRule := by
 refine wkEnt (C := C_laws_toRule) Try.f64 (wkTab k_laws_toIntS (wkTab k_laws_toIntSS wkNil)) fun _ a b k he => ?_
 unfold c_laws_toRule at he; split at he; rotate_left; exact he.elim
 rename_i a_0 a_1 a_2 a_3 a_4
 refine wkGo0 he fun he => ?_
 refine go_bind he fun r1_ he => ?_
 refine go_bind he fun r2_ he => ?_
 refine go_bind he fun r3_ he => ?_
 exact wkRet [(2, [900])] (ok_some he :) (leads_au [(900, 2), (901, 10900), (902, 14900), (903, 21900)])

noncomputable def c_laws_toRuleS : Con := fun
  | [.c (.imm (.pair (.int .i64) (.pair (.sl (.int .i64)) (.pair (.sl (.int .i64)) (.pair (.int .i64) (.sl (.sl (.int .i64))))))) a)], [] => .opt _ (laws_toRuleS a) (fun r => .ret (.c (.own 900 false)) [(900, .sl 31 y4_ r (.deep true .no))])
  | _, _ => .fail

noncomputable def C_laws_toRuleS : Cfg := { y := tys, n := 23, h := 0, tab := [(64, c_laws_toRule)], deep := [7] }

theorem k_laws_toRuleS : Entry Try.prog 35 c_laws_toRuleS := by
 refine wkEnt (C := C_laws_toRuleS) Try.f35 (wkTab k_laws_toRule wkNil) fun _ a b k he => ?_
 unfold c_laws_toRuleS at he; split at he; rotate_left; exact he.elim
 rename_i a
 refine wkGo0 he fun he => ?_
 refine go_rq he fun he => ?_
 refine wkLoop (laws_toRuleS_l1 a) (fun (i, out) => (envOf [(0, .c (.imm y4_ a)), (3, .c (.own 10000000 false)), (4, .c (.int .i64 i))], [(10000000, .sl 31 y4_ out (.deep true .no))])) he (leads_au [(10000000, 7)]) ?_
 exact wkz_12

noncomputable def c_laws_toModel : Con := fun
  | [.agg [.imm (.int .i64) a_0, .imm (.pair (.int .i64) (.pair (.sl (.int .i64)) (.pair (.sl (.int .i64)) (.pair (.int .i64) (.sl (.sl (.int .i64))))))) a_1]], [] => .opt _ (laws_toModel (a_0, a_1)) (fun r => .ret (.agg [.own 901 false, .own 902 false]) [(900, .rc [.own 901 false, .own 902 false]), (901, .sl 3 y0_ r.1 .shallow), (902, .sl 31 y4_ r.2 (.deep true .no))])
  | _, _ => .fail

noncomputable def C_laws_toModel : Cfg := { y := tys, n := 13, h := 0, tab := [(34, c_laws_toIntS), (35, c_laws_toRuleS)] }

theorem k_laws_toModel : Entry Try.prog 11 c_laws_toModel := by
 refine wkEnt (C := C_laws_toModel) Try.f11 (wkTab k_laws_toIntS (wkTab k_laws_toRuleS wkNil)) fun _ a b k he => ?_
 unfold c_laws_toModel at he; split at he; rotate_left; exact he.elim
 rename_i a_0 a_1
 refine wkGo0 he fun he => ?_
 refine go_bind he fun r1_ he => ?_
 refine go_bind he fun r2_ he => ?_
 exact wkRet [(2, [900])] (ok_some he :) (leads_au [(900, 2), (901, 7900), (902, 11900)])

noncomputable def c_spec_l6Vars : Con := fun
  | [.agg [.imm (.int .i64) m_0, .imm (.pair (.int .i64) (.pair (.sl (.int .i64)) (.pair (.sl (.int .i64)) (.pair (.int .i64) (.sl (.sl (.int .i64))))))) m_1], .c (.imm (.int .i64) list_)], [] => .opt _ (spec_l6Vars (m_0, m_1) list_) (fun r => .ret (.c (.bool r)) [])
  | _, _ => .fail

noncomputable def C_spec_l6Vars : Cfg := { y := tys, n := 45, h := 0, tab := [] }

theorem wkz_13 {P : Prop} (h : P := by
  refine go_if he (fun he => ?_) fun he => ?_
  ·exact wkz_7
  ·exact wkz_3) : P := h

theorem k_spec_l6Vars : Entry Try.prog 79 c_spec_l6Vars := by
 refine wkEnt (C := C_spec_l6Vars) Try.f79 wkNil fun _ a b k he => ?_
 unfold c_spec_l6Vars at he; split at he; rotate_left; exact he.elim
 rename_i m_0 m_1 list_
 refine wkGo0 he fun he => ?_
 refine wkLoop (spec_l6Vars_l1 (m_0, m_1) list_) (fun i => (envOf [(1, .c (.imm y0_ list_)), (2, .c (.ptr 10000000 0)), (5, .c (.int .i64 i))], [(10000000, .rc [.imm y0_ (m_0, m_1).1, .imm y4_ (m_0, m_1).2])])) he (leads_au [(10000000, 2)]) ?_
 rintro i _ he
 refine go_if he (fun he => ?_) fun he => ?_
 ·refine And.intro (by kernel_rfl) ?_
  refine go_rq he fun he => ?_
  refine go_if2 he (fun he => ?_) fun he => ?_
  ·refine go_rq he fun he => ?_
   refine go_if he (fun he => ?_) fun he => ?_
   ·exact wkz_7
   ·refine wkLoop (spec_l6Vars_l2 list_ i) (fun k_ => (envOf [(1, .c (.imm y0_ list_)), (2, .c (.ptr 10001000 0)), (5, .c (.int .i64 i)), (6, .c (.int .i64 k_))], [(10001000, .rc [.imm y0_ (m_0, m_1).1, .imm y4_ (m_0, m_1).2])])) he (leads_au [(10001000, 10000000)]) ?_
    rintro k_ _ he
    refine go_if he (fun he => ?_) fun he => ?_
    ·refine And.intro (by kernel_rfl) ?_
     refine go_rq he fun he => ?_
     refine go_rq he fun he => ?_
     exact wkz_13
    ·refine go_rq he fun he => ?_
     exact ⟨_, (ok_some he :), (leads_au [(10000000, 10001000)])⟩
  ·exact wkz_7
 ·exact wkz_7

noncomputable def c_spec_l6Linear : Con := fun
  | [.agg [.int .i64 r__0, .imm (.int .i64) r__1, .imm (.int .i64) r__2, .int .i64 r__3, .imm (.sl (.int .i64)) r__4]], [] => .opt _ (spec_l6Linear (r__0, (r__1, (r__2, (r__3, r__4))))) (fun r => .ret (.c (.bool r)) [])
  | _, _ => .fail

noncomputable def C_spec_l6Linear : Cfg := { y := tys, n := 50, h := 0, tab := [] }

theorem wkz_14 {P : Prop} (h : P := by
  exact wkRet [(2, [])] (ok_some he :) (leads_au [])) : P := h

theorem wkz_15 {P : Prop} (h : P := by
  refine go_if he (fun he => ?_) fun he => ?_
  ·exact wkz_14
  ·exact wkz_3) : P := h

theorem k_spec_l6Linear : Entry Try.prog 80 c_spec_l6Linear := by
 refine wkEnt (C := C_spec_l6Linear) Try.f80 wkNil fun _ a b k he => ?_
 unfold c_spec_l6Linear at he; split at he; rotate_left; exact he.elim
 rename_i r__0 r__1 r__2 r__3 r__4
 refine wkGo0 he fun he => ?_
 refine wkLoop (spec_l6Linear_l1 (r__0, (r__1, (r__2, (r__3, r__4))))) (fun i => (envOf [(1, .c (.ptr 10000000 0)), (3, .c (.int .i64 i))], [(10000000, .rc [.int .i64 (r__0, (r__1, (r__2, (r__3, r__4)))).1, .imm y0_ (r__0, (r__1, (r__2, (r__3, r__4)))).2.1, .imm y0_ (r__0, (r__1, (r__2, (r__3, r__4)))).2.2.1, .int .i64 (r__0, (r__1, (r__2, (r__3, r__4)))).2.2.2.1, .imm (.sl y0_) (r__0, (r__1, (r__2, (r__3, r__4)))).2.2.2.2])])) he (leads_au [(10000000, 1)]) ?_
 rintro i _ he
 refine go_if he (fun he => ?_) fun he => ?_
 ·refine go_rq he fun he => ?_
  refine go_if2 he (fun he => ?_) fun he => ?_
  ·refine go_rq he fun he => ?_
   refine go_if2 he (fun he => ?_) fun he => ?_
   ·refine go_rq he fun he => ?_
    exact wkz_15
   ·exact wkz_14
  ·exact wkz_14
 ·refine go_if he (fun he => ?_) fun he => ?_
  ·refine go_if he (fun he => ?_) fun he => ?_
   ·exact wkz_14
   ·exact wkz_14
  ·exact wkz_14

noncomputable def c_spec_l6Table : Con := fun
  | [.agg [.int .i64 r__0, .imm (.int .i64) r__1, .imm (.int .i64) r__2, .int .i64 r__3, .imm (.sl (.int .i64)) r__4]], [] => .opt _ (spec_l6Table (r__0, (r__1, (r__2, (r__3, r__4))))) (fun r => .ret (.c (.bool r)) [])
  | _, _ => .fail

noncomputable def C_spec_l6Table : Cfg := { y := tys, n := 56, h := 0, tab := [] }

theorem k_spec_l6Table : Entry Try.prog 81 c_spec_l6Table := by
 refine wkEnt (C := C_spec_l6Table) Try.f81 wkNil fun _ a b k he => ?_
 unfold c_spec_l6Table at he; split at he; rotate_left; exact he.elim
 rename_i r__0 r__1 r__2 r__3 r__4
 refine wkGo0 he fun he => ?_
 refine wkLoop (spec_l6Table_l1 (r__0, (r__1, (r__2, (r__3, r__4))))) (fun i => (envOf [(1, .c (.ptr 10000000 0)), (3, .c (.int .i64 i))], [(10000000, .rc [.int .i64 (r__0, (r__1, (r__2, (r__3, r__4)))).1, .imm y0_ (r__0, (r__1, (r__2, (r__3, r__4)))).2.1, .imm y0_ (r__0, (r__1, (r__2, (r__3, r__4)))).2.2.1, .int .i64 (r__0, (r__1, (r__2, (r__3, r__4)))).2.2.2.1, .imm (.sl y0_) (r__0, (r__1, (r__2, (r__3, r__4)))).2.2.2.2])])) he (leads_au [(10000000, 1)]) ?_
 rintro i _ he
 refine go_if he (fun he => ?_) fun he => ?_
 ·refine And.intro (by kernel_rfl) ?_
  refine go_rq he fun he => ?_
  refine go_if he (fun he => ?_) fun he => ?_
  ·exact wkz_14
  ·refine wkLoop (spec_l6Table_l2 (r__0, (r__1, (r__2, (r__3, r__4)))) i) (fun k_ => (envOf [(1, .c (.ptr 10001000 0)), (3, .c (.int .i64 i)), (4, .c (.int .i64 k_))], [(10001000, .rc [.int .i64 (r__0, (r__1, (r__2, (r__3, r__4)))).1, .imm y0_ (r__0, (r__1, (r__2, (r__3, r__4)))).2.1, .imm y0_ (r__0, (r__1, (r__2, (r__3, r__4)))).2.2.1, .int .i64 (r__0, (r__1, (r__2, (r__3, r__4)))).2.2.2.1, .imm (.sl y0_) (r__0, (r__1, (r__2, (r__3, r__4)))).2.2.2.2])])) he (leads_au [(10001000, 10000000)]) ?_
   rintro k_ _ he
   refine go_rq he fun he => ?_
   refine go_if he (fun he => ?_) fun he => ?_
   ·refine go_rq he fun he => ?_
    refine go_rq he fun he => ?_
    refine go_if2 he (fun he => ?_) fun he => ?_
    ·refine go_rq he fun he => ?_
     refine go_rq he fun he => ?_
     exact wkz_15
    ·exact wkz_14
   ·refine go_rq he fun he => ?_
    exact ⟨_, (ok_some he :), (leads_au [(10000000, 10001000)])⟩
 ·exact wkz_14

noncomputable def c_spec_l6Rule : Con := fun
  | [.agg [.imm (.int .i64) m_0, .imm (.pair (.int .i64) (.pair (.sl (.int .i64)) (.pair (.sl (.int .i64)) (.pair (.int .i64) (.sl (.sl (.int .i64))))))) m_1], .agg [.int .i64 r__0, .imm (.int .i64) r__1, .imm (.int .i64) r__2, .int .i64 r__3, .imm (.sl (.int .i64)) r__4]], [] => .opt _ (spec_l6Rule (m_0, m_1) (r__0, (r__1, (r__2, (r__3, r__4))))) (fun r => .ret (.c (.bool r)) [])
  | _, _ => .fail

noncomputable def C_spec_l6Rule : Cfg := { y := tys, n := 55, h := 0, tab := [(79, c_spec_l6Vars), (80, c_spec_l6Linear), (81, c_spec_l6Table)], cut := [3] }

theorem wkz_16 {P : Prop} (h : P := by
  refine go_if he (fun he => ?_) fun he => ?_
  ·refine go_if he (fun he => ?_) fun he => ?_
   ·exact wkz_7
   ·exact ⟨_, he, (leads_au [(10000000, 3)])⟩
  ·exact ⟨_, he, (leads_au [(10000000, 3)])⟩) : P := h

theorem k_spec_l6Rule : Entry Try.prog 58 c_spec_l6Rule := by
 refine wkEnt (C := C_spec_l6Rule) Try.f58 (wkTab k_spec_l6Vars (wkTab k_spec_l6Linear (wkTab k_spec_l6Table wkNil))) fun _ a b k he => ?_
 unfold c_spec_l6Rule at he; split at he; rotate_left; exact he.elim
 rename_i m_0 m_1 r__0 r__1 r__2 r__3 r__4
 refine wkGo0 he fun he => ?_
 refine wkSeq (spec_l6Rule_j1 (r__0, (r__1, (r__2, (r__3, r__4))))) (fun _ => (envOf [(3, .c (.ptr 10000000 0))], [(10000000, .rc [.int .i64 (r__0, (r__1, (r__2, (r__3, r__4)))).1, .imm y0_ (r__0, (r__1, (r__2, (r__3, r__4)))).2.1, .imm y0_ (r__0, (r__1, (r__2, (r__3, r__4)))).2.2.1, .int .i64 (r__0, (r__1, (r__2, (r__3, r__4)))).2.2.2.1, .imm (.sl y0_) (r__0, (r__1, (r__2, (r__3, r__4)))).2.2.2.2])])) he ?_ ?_
 ·rintro ⟨⟩ he
  refine go_if he (fun he => ?_) fun he => ?_
  ·refine go_bind he fun r2_ he => ?_
   exact wkz_7
  ·refine go_if he (fun he => ?_) fun he => ?_
   ·exact wkz_7
   ·refine go_if he (fun he => ?_) fun he => ?_
    ·refine go_bind he fun r3_ he => ?_
     exact wkz_7
    ·exact wkz_8
 ·skip
  refine go_bind he fun r1_ he => ?_
  refine go_if2 he (fun he => ?_) fun he => ?_
  ·refine go_if he (fun he => ?_) fun he => ?_
   ·refine go_if2 he (fun he => ?_) fun he => ?_
    ·refine go_if2 he (fun he => ?_) fun he => ?_
     ·exact wkz_16
     ·exact wkz_7
    ·exact wkz_7
   ·exact wkz_16
  ·exact wkz_7

noncomputable def c_spec_ModelValid : Con := fun
  | [.agg [.imm (.int .i64) a0_0, .imm (.pair (.int .i64) (.pair (.sl (.int .i64)) (.pair (.sl (.int .i64)) (.pair (.int .i64) (.sl (.sl (.int .i64))))))) a0_1]], [] => .opt _ (spec_ModelValid (a0_0, a0_1)) (fun r => .ret (.c (.bool r)) [])
  | _, _ => .fail

noncomputable def C_spec_ModelValid_s1 : Sched := .alt 6 (.first 7 .done) .stop
noncomputable def C_spec_ModelValid : Cfg := { y := tys, n := 74, h := 0, tab := [(58, c_spec_l6Rule)], cut := [8], sched := [(13, (wkFs [1, 3] (.alt 0 (.alt 2 (wkFs [4, 5] C_spec_ModelValid_s1) .stop) (.alt 2 (wkFs [4, 5] (.alt 0 C_spec_ModelValid_s1 .stop)) .stop))))] }

theorem k_spec_ModelValid : Entry Try.prog 25 c_spec_ModelValid := by
 refine wkEnt (C := C_spec_ModelValid) Try.f25 (wkTab k_spec_l6Rule wkNil) fun _ a b k he => ?_
 unfold c_spec_ModelValid at he; split at he; rotate_left; exact he.elim
 rename_i a0_0 a0_1
 refine wkGo0 he fun he => ?_
 refine wkSeq (spec_ModelValid_j1 (a0_0, a0_1)) (fun i2 => (envOf [(1, .c (.ptr 10001000 0)), (3, .c (.int .i64 i2))], [(10001000, .rc [.imm y0_ (a0_0, a0_1).1, .imm y4_ (a0_0, a0_1).2])])) he ?_ ?_
 ·rintro i2 he
  refine go_if2 he (fun he => ?_) fun he => ?_
  ·refine go_if2 he (fun he => ?_) fun he => ?_
   ·refine go_if2 he (fun he => ?_) fun he => ?_
    ·refine go_if he (fun he => ?_) fun he => ?_
     ·exact wkz_14
     ·refine wkLoop (spec_ModelValid_l1 (a0_0, a0_1)) (fun i3 => (envOf [(1, .c (.ptr 10002000 0)), (5, .c (.int .i64 i3))], [(10002000, .rc [.imm y0_ (a0_0, a0_1).1, .imm y4_ (a0_0, a0_1).2])])) he (leads_au [(10002000, 10001000)]) ?_
      rintro i3 _ he
      refine go_if he (fun he => ?_) fun he => ?_
      ·refine And.intro (by kernel_rfl) ?_
       obtain ⟨hq1, he⟩ := ok_rq he
       obtain ⟨r2_, hq2, he⟩ := ok_bind he
       refine And.intro ?_ (And.intro ?_ (trivial))
       ·skip
        refine And.intro ?_ trivial
        refine And.intro hq1 ?_
        refine And.intro ?_ trivial
        refine ⟨r2_, hq2, ?_⟩
        exact wkz_15
       ·skip
        refine And.intro hq1 ?_
        refine And.intro ?_ trivial
        refine And.intro ?_ trivial
        refine ⟨r2_, hq2, ?_⟩
        exact wkz_15
      ·exact wkz_14
    ·exact wkz_14
   ·exact wkz_14
  ·exact wkz_14
 ·skip
  refine wkLoop (spec_ModelValid_l2 (a0_0, a0_1)) (fun (i, i1) => (envOf [(1, .c (.ptr 10000000 0)), (3, .c (.int .i64 i)), (4, .c (.int .i64 i1))], [(10000000, .rc [.imm y0_ (a0_0, a0_1).1, .imm y4_ (a0_0, a0_1).2])])) he (leads_au [(10000000, 1)]) ?_
  rintro ⟨i, i1⟩ _ he
  refine go_if he (fun he => ?_) fun he => ?_
  ·refine go_if he (fun he => ?_) fun he => ?_
   ·refine go_rq he fun he => ?_
    refine go_if2 he (fun he => ?_) fun he => ?_
    ·refine go_rq he fun he => ?_
     refine go_if he (fun he => ?_) fun he => ?_
     ·exact wkz_14
     ·refine go_rq he fun he => ?_
      exact wkz_11
    ·exact wkz_14
   ·exact ⟨_, (ok_up he :), (leads_au [(10001000, 10000000)])⟩
  ·exact ⟨_, (ok_up he :), (leads_au [(10001000, 10000000)])⟩

noncomputable def c_spec_l10Order : Con := fun
  | [.c (.imm (.int .i64) list_)], [] => .opt _ (spec_l10Order list_) (fun r => .ret (.c (.own 900 false)) [(900, .sl 3 y0_ r .shallow)])
  | _, _ => .fail

noncomputable def C_spec_l10Order : Cfg := { y := tys, n := 49, h := 0, tab := [], cut := [8] }

theorem k_spec_l10Order : Entry Try.prog 59 c_spec_l10Order := by
 refine wkEnt (C := C_spec_l10Order) Try.f59 wkNil fun _ a b k he => ?_
 unfold c_spec_l10Order at he; split at he; rotate_left; exact he.elim
 rename_i list_
 refine wkGo0 he fun he => ?_
 refine wkLoop (spec_l10Order_l1 list_) (fun (i, out) => (envOf [(0, .c (.imm y0_ list_)), (3, .c (.own 10000000 false)), (4, .c (.int .i64 i))], [(10000000, .sl 3 y0_ out .shallow)])) he (leads_au [(10000000, 7)]) ?_
 rintro ⟨i, out⟩ _ he
 refine go_if he (fun he => ?_) fun he => ?_
 ·refine wkSeq (spec_l10Order_j1 i out) (fun k_3 => (envOf [(0, .c (.imm y0_ list_)), (3, .c (.own 10004000 false)), (4, .c (.int .i64 i)), (5, .c (.int .i64 k_3))], [(10004000, .sl 3 y0_ out .shallow)])) he ?_ ?_
  ·rintro k_3 he
   refine go_rq he fun he => ?_
   refine go_rq he fun he => ?_
   refine go_rq he fun he => ?_
   refine go_rq he fun he => ?_
   refine go_rq he fun he => ?_
   refine go_rq he fun he => ?_
   exact ⟨_, (ok_some he :), (leads_au [(10000000, 47)])⟩
  ·skip
   refine wkLoop (spec_l10Order_l2 list_ i out) (fun k_2 => (envOf [(0, .c (.imm y0_ list_)), (3, .c (.own 10003000 false)), (4, .c (.int .i64 i)), (5, .c (.int .i64 k_2))], [(10003000, .sl 3 y0_ out .shallow)])) he (leads_au [(10003000, 10000000)]) ?_
   rintro k_2 _ he
   refine And.intro (by kernel_rfl) ?_
   refine go_if he (fun he => ?_) fun he => ?_
   ·refine go_rq he fun he => ?_
    refine go_rq he fun he => ?_
    refine go_rq he fun he => ?_
    refine go_rq he fun he => ?_
    refine go_if he (fun he => ?_) fun he => ?_
    ·exact wkz_3
    ·exact ⟨_, (ok_up he :), (leads_au [(10004000, 10003000)])⟩
   ·exact ⟨_, (ok_up he :), (leads_au [(10004000, 10003000)])⟩
 ·exact wkRet [(2, [])] (ok_some he :) (leads_au [(900, 10000000)])

noncomputable def c_spec_l6Ints : Con := fun
  | [.c (.imm (.int .i64) a), .c (.imm (.int .i64) b)], [] => .opt _ (spec_l6Ints a b) (fun r => .ret (.c (.bool r)) [])
  | _, _ => .fail

noncomputable def C_spec_l6Ints : Cfg := { y := tys, n := 26, h := 0, tab := [] }

theorem wkz_17 {P : Prop} (h : P := by
  rintro i _ he
  refine go_if he (fun he => ?_) fun he => ?_
  ·refine And.intro (by kernel_rfl) ?_
   refine go_rq he fun he => ?_
   refine go_rq he fun he => ?_
   exact wkz_4
  ·exact wkz_1) : P := h

theorem k_spec_l6Ints : Entry Try.prog 82 c_spec_l6Ints := by
 refine wkEnt (C := C_spec_l6Ints) Try.f82 wkNil fun _ a b k he => ?_
 unfold c_spec_l6Ints at he; split at he; rotate_left; exact he.elim
 rename_i a b
 refine wkGo0 he fun he => ?_
 refine go_if he (fun he => ?_) fun he => ?_
 ·exact wkz_1
 ·refine wkLoop (spec_l6Ints_l1 a b) (fun i => (envOf [(0, .c (.imm y0_ a)), (1, .c (.imm y0_ b)), (5, .c (.int .i64 i))], [])) he (leads_au []) ?_
  exact wkz_17

noncomputable def c_spec_l10Less : Con := fun
  | [.c (.imm (.int .i64) a), .c (.imm (.int .i64) b)], [] => .opt _ (spec_l10Less a b) (fun r => .ret (.c (.bool r)) [])
  | _, _ => .fail

noncomputable def C_spec_l10Less : Cfg := { y := tys, n := 36, h := 0, tab := [] }

theorem wkz_18 {P : Prop} (h : P := by
  refine go_rq he fun he => ?_
  refine go_rq he fun he => ?_
  exact wkz_1) : P := h

theorem k_spec_l10Less : Entry Try.prog 83 c_spec_l10Less := by
 refine wkEnt (C := C_spec_l10Less) Try.f83 wkNil fun _ a b k he => ?_
 unfold c_spec_l10Less at he; split at he; rotate_left; exact he.elim
 rename_i a b
 refine wkGo0 he fun he => ?_
 refine wkLoop (spec_l10Less_l1 a b) (fun i => (envOf [(0, .c (.imm y0_ a)), (1, .c (.imm y0_ b)), (5, .c (.int .i64 i))], [])) he (leads_au []) ?_
 rintro i _ he
 refine go_if he (fun he => ?_) fun he => ?_
 ·refine go_if he (fun he => ?_) fun he => ?_
  ·refine And.intro (by kernel_rfl) ?_
   refine go_rq he fun he => ?_
   refine go_rq he fun he => ?_
   refine go_if he (fun he => ?_) fun he => ?_
   ·refine And.intro (by kernel_rfl) ?_
    exact wkz_18
   ·exact wkz_3
  ·exact wkz_1
 ·exact wkz_1

noncomputable def c_spec_l10Insert : Con := fun
  | [.c (.imm (.sl (.int .i64)) rows), .c (.imm (.int .i64) row)], [] => .opt _ (spec_l10Insert rows row) (fun r => .ret (.c (.imm (.sl y0_) r)) [])
  | _, _ => .fail

noncomputable def C_spec_l10Insert : Cfg := { y := tys, n := 50, h := 0, tab := [(82, c_spec_l6Ints), (83, c_spec_l10Less)], cut := [11, 12] }

theorem k_spec_l10Insert : Entry Try.prog 60 c_spec_l10Insert := by
 refine wkEnt (C := C_spec_l10Insert) Try.f60 (wkTab k_spec_l6Ints (wkTab k_spec_l10Less wkNil)) fun _ a b k he => ?_
 unfold c_spec_l10Insert at he; split at he; rotate_left; exact he.elim
 rename_i rows row
 refine wkGo0 he fun he => ?_
 refine wkSeq (spec_l10Insert_j1 row) (fun (done3, out3) => (envOf [(1, .c (.imm y0_ row)), (5, .c (.own 10003000 false)), (6, .c (.bool done3))], [(10003000, .sl 23 (.sl y0_) out3 .shallow)])) he ?_ ?_
 ·rintro ⟨done3, out3⟩ he
  refine go_if he (fun he => ?_) fun he => ?_
  ·refine go_rq he fun he => ?_
   exact wkRet [(4, [])] (ok_some he :) ((leads_freeze [48]).trans (leads_au [] (l := [(4, .c (.imm (.sl y0_) (out3 ++ [row])))]) (st' := [])))
  ·exact wkRet [(4, [])] (ok_some he :) ((leads_freeze [10003000]).trans (leads_au [] (l := [(4, .c (.imm (.sl y0_) out3))]) (st' := [])))
 ·skip
  refine wkLoop (spec_l10Insert_l1 rows row) (fun (done, i, out1) => (envOf [(0, .c (.imm (.sl y0_) rows)), (1, .c (.imm y0_ row)), (5, .c (.own 10000000 false)), (6, .c (.bool done)), (7, .c (.int .i64 i))], [(10000000, .sl 23 (.sl y0_) out1 .shallow)])) he (leads_au [(10000000, 8)]) ?_
  rintro ⟨done, i, out1⟩ _ he
  refine go_if he (fun he => ?_) fun he => ?_
  ·refine go_rq he fun he => ?_
   refine go_bind he fun r3_ he => ?_
   refine go_if he (fun he => ?_) fun he => ?_
   ·exact wkz_7
   ·refine wkSeq (spec_l10Insert_j2 rows i) (fun (done2, out2) => (envOf [(0, .c (.imm (.sl y0_) rows)), (1, .c (.imm y0_ row)), (5, .c (.own 10002000 false)), (6, .c (.bool done2)), (7, .c (.int .i64 i))], [(10002000, .sl 23 (.sl y0_) out2 .shallow)])) he ?_ ?_
    ·rintro ⟨done2, out2⟩ he
     refine go_rq he fun he => ?_
     refine go_rq he fun he => ?_
     refine go_rq he fun he => ?_
     exact ⟨_, (ok_some he :), (leads_au [(10000000, 42)])⟩
    ·skip
     refine go_if he (fun he => ?_) fun he => ?_
     ·refine go_rq he fun he => ?_
      refine go_bind he fun r4_ he => ?_
      refine go_if he (fun he => ?_) fun he => ?_
      ·refine go_rq he fun he => ?_
       exact ⟨_, he, (leads_au [(10002000, 35)])⟩
      ·exact ⟨_, he, (leads_au [(10002000, 10000000)])⟩
     ·exact ⟨_, he, (leads_au [(10002000, 10000000)])⟩
  ·exact ⟨_, (ok_up he :), (leads_au [(10003000, 10000000)])⟩

noncomputable def c_spec_l10Canonical : Con := fun
  | [.agg [.int .i64 a0_0, .imm (.int .i64) a0_1, .imm (.int .i64) a0_2, .int .i64 a0_3, .imm (.sl (.int .i64)) a0_4]], [] => .opt _ (spec_l10Canonical (a0_0, (a0_1, (a0_2, (a0_3, a0_4))))) (fun r => .ret (.agg [.int .i64 r.1, .own 901 false, .own 902 false, .int .i64 r.2.1, .imm (.sl y0_) r.2.2.1]) [(900, .rc [.int .i64 r.1, .own 901 false, .own 902 false, .int .i64 r.2.1, .imm (.sl y0_) r.2.2.1]), (901, .sl 3 y0_ r.2.2.2.1 .shallow), (902, .sl 3 y0_ r.2.2.2.2 .shallow)])
  | _, _ => .fail

noncomputable def C_spec_l10Canonical_s1 : Sched := .alt 11 (.first 12 (.alt 13 .done .stop)) .stop
noncomputable def C_spec_l10Canonical_s2 : Sched := .alt 10 C_spec_l10Canonical_s1 .stop
noncomputable def C_spec_l10Canonical_s3 : Sched := wkFs [8, 9] C_spec_l10Canonical_s2
noncomputable def C_spec_l10Canonical_s4 : Sched := .alt 7 C_spec_l10Canonical_s3 .stop
noncomputable def C_spec_l10Canonical_s5 : Sched := .alt 3 C_spec_l10Canonical_s3 .stop
noncomputable def C_spec_l10Canonical_s6 : Sched := wkFs [8, 9] (.alt 1 C_spec_l10Canonical_s2 (.alt 10 (.alt 1 C_spec_l10Canonical_s1 .stop) .stop))
noncomputable def C_spec_l10Canonical_s7 : Sched := wkFs [0, 2, 4, 5, 6] (.alt 1 (.alt 3 C_spec_l10Canonical_s4 (.alt 7 C_spec_l10Canonical_s5 .stop)) (.alt 3 (.alt 1 C_spec_l10Canonical_s4 (.alt 7 C_spec_l10Canonical_s6 .stop)) (.alt 7 (.alt 1 C_spec_l10Canonical_s5 (.alt 3 C_spec_l10Canonical_s6 .stop)) .stop)))
noncomputable def C_spec_l10Canonical_s8 : Sched := wkFs [10, 11] (.alt 12 (.alt 13 (.first 14 .done) .stop) .stop)
noncomputable def C_spec_l10Canonical : Cfg := { y := tys, n := 90, h := 0, tab := [(59, c_spec_l10Order), (60, c_spec_l10Insert)], cut := [5, 9, 11, 19], good := [60], sched := [(8, C_spec_l10Canonical_s7), (10, C_spec_l10Canonical_s7), (18, (wkFs [0, 1, 3, 6, 7, 8] (.alt 2 (wkFs [4, 5] (.alt 9 C_spec_l10Canonical_s8 .stop)) (.alt 9 (.alt 2 (wkFs [4, 5] C_spec_l10Canonical_s8) .stop) .stop))))] }

theorem wkz_19 {P : Prop} (h : P := by
  refine And.intro hq2 ?_
  refine And.intro ?_ trivial
  refine And.intro ?_ trivial
  refine And.intro hq3 ?_
  refine go_rq he fun he => ?_
  exact ⟨_, (ok_some he :), (leads_au [(10008004, 83)])⟩) : P := h

theorem wkz_20 {P : Prop} (h : P := by
  refine And.intro ?_ trivial
  refine And.intro ?_ trivial
  refine And.intro hq2 ?_
  refine And.intro ?_ trivial
  refine go_rq he fun he => ?_
  exact ⟨_, (ok_some he :), (leads_au [(10001000, 10003000), (10001001, 10003001), (10001002, 10003002), (10001003, 10003003), (10001004, 10003004), (10001005, 54)])⟩) : P := h

theorem wkz_21 {P : Prop} (h : P := by
  skip
  refine And.intro ?_ trivial
  refine And.intro hq1 ?_
  exact wkz_20) : P := h

theorem wkz_22 {P : Prop} (h : P := by
  skip
  refine And.intro ?_ (And.intro ?_ (trivial))
  ·exact wkz_21
  ·skip
   refine And.intro hq1 ?_
   refine And.intro ?_ (And.intro ?_ (trivial))
   ·skip
    exact wkz_20
   ·skip
    exact wkz_20) : P := h

theorem wkz_23 {P : Prop} (h : P := by
  refine And.intro ?_ trivial
  refine And.intro ?_ trivial
  refine And.intro hq2 ?_
  refine And.intro ?_ trivial
  exact ⟨_, he, (leads_au [(10003000, 10001000), (10003001, 10001001), (10003002, 10001002), (10003003, 10001003), (10003004, 38), (10003005, 10001005)])⟩) : P := h

theorem wkz_24 {P : Prop} (h : P := by
  skip
  refine And.intro ?_ trivial
  refine And.intro hq1 ?_
  exact wkz_23) : P := h

theorem wkz_25 {P : Prop} (h : P := by
  skip
  refine And.intro ?_ (And.intro ?_ (trivial))
  ·exact wkz_24
  ·skip
   refine And.intro hq1 ?_
   refine And.intro ?_ (And.intro ?_ (trivial))
   ·skip
    exact wkz_23
   ·skip
    exact wkz_23) : P := h

theorem k_spec_l10Canonical : Entry Try.prog 26 c_spec_l10Canonical := by
 refine wkEnt (C := C_spec_l10Canonical) Try.f26 (wkTab k_spec_l10Order (wkTab k_spec_l10Insert wkNil)) fun _ a b k he => ?_
 unfold c_spec_l10Canonical at he; split at he; rotate_left; exact he.elim
 rename_i a0_0 a0_1 a0_2 a0_3 a0_4
 refine wkGo0 he fun he => ?_
 refine go_bind he fun r1_ he => ?_
 refine wkSeq (spec_l10Canonical_j1 (a0_0, (a0_1, (a0_2, (a0_3, a0_4))))) (fun i => (envOf [(1, .c (.ptr 10000000 0)), (2, .c (.ptr 10000001 0)), (3, .c (.ptr 10000002 0)), (4, .c (.own 10000003 false))], [(10000000, .rc [.int .i64 (a0_0, (a0_1, (a0_2, (a0_3, a0_4)))).1, .imm y0_ (a0_0, (a0_1, (a0_2, (a0_3, a0_4)))).2.1, .imm y0_ (a0_0, (a0_1, (a0_2, (a0_3, a0_4)))).2.2.1, .int .i64 (a0_0, (a0_1, (a0_2, (a0_3, a0_4)))).2.2.2.1, .imm (.sl y0_) (a0_0, (a0_1, (a0_2, (a0_3, a0_4)))).2.2.2.2]), (10000001, .rc [.int .i64 (0:Int), .nil, .nil, .int .i64 (0:Int), .nil]), (10000002, .rc [.int .i64 (a0_0, (a0_1, (a0_2, (a0_3, a0_4)))).1, .nil, .nil, .int .i64 (a0_0, (a0_1, (a0_2, (a0_3, a0_4)))).2.2.2.1, .nil]), (10000003, .sl 3 y0_ i .shallow)])) he ?_ ?_
 ·rintro i he
  refine wkSeq (spec_l10Canonical_j2 (a0_0, (a0_1, (a0_2, (a0_3, a0_4)))) i) (fun (i_11, i_21) => (envOf [(1, .c (.ptr 10004000 0)), (2, .c (.ptr 10004001 0)), (3, .c (.ptr 10004002 0)), (4, .c (.own 10004003 false))], [(10004000, .rc [.int .i64 (a0_0, (a0_1, (a0_2, (a0_3, a0_4)))).1, .imm y0_ (a0_0, (a0_1, (a0_2, (a0_3, a0_4)))).2.1, .imm y0_ (a0_0, (a0_1, (a0_2, (a0_3, a0_4)))).2.2.1, .int .i64 (a0_0, (a0_1, (a0_2, (a0_3, a0_4)))).2.2.2.1, .imm (.sl y0_) (a0_0, (a0_1, (a0_2, (a0_3, a0_4)))).2.2.2.2]), (10004001, .rc [.int .i64 (0:Int), .nil, .nil, .int .i64 (0:Int), .nil]), (10004002, .rc [.int .i64 (a0_0, (a0_1, (a0_2, (a0_3, a0_4)))).1, .own 10004004 false, .own 10004005 false, .int .i64 (a0_0, (a0_1, (a0_2, (a0_3, a0_4)))).2.2.2.1, .nil]), (10004003, .sl 3 y0_ i .shallow), (10004004, .sl 3 y0_ i_11 .shallow), (10004005, .sl 3 y0_ i_21 .shallow)])) he ?_ ?_
  ·rintro ⟨i_11, i_21⟩ he
   refine wkLoop (spec_l10Canonical_l1 (a0_0, (a0_1, (a0_2, (a0_3, a0_4)))) i i_11 i_21) (fun (i2, i_4) => (envOf [(1, .c (.ptr 10005000 0)), (2, .c (.ptr 10005001 0)), (3, .c (.ptr 10005002 0)), (4, .c (.own 10005003 false)), (6, .c (.int .i64 i2))], [(10005000, .rc [.int .i64 (a0_0, (a0_1, (a0_2, (a0_3, a0_4)))).1, .imm y0_ (a0_0, (a0_1, (a0_2, (a0_3, a0_4)))).2.1, .imm y0_ (a0_0, (a0_1, (a0_2, (a0_3, a0_4)))).2.2.1, .int .i64 (a0_0, (a0_1, (a0_2, (a0_3, a0_4)))).2.2.2.1, .imm (.sl y0_) (a0_0, (a0_1, (a0_2, (a0_3, a0_4)))).2.2.2.2]), (10005001, .rc [.int .i64 (0:Int), .nil, .nil, .int .i64 (0:Int), .nil]), (10005002, .rc [.int .i64 (a0_0, (a0_1, (a0_2, (a0_3, a0_4)))).1, .own 10005004 false, .own 10005005 false, .int .i64 (a0_0, (a0_1, (a0_2, (a0_3, a0_4)))).2.2.2.1, .imm (.sl y0_) i_4]), (10005003, .sl 3 y0_ i .shallow), (10005004, .sl 3 y0_ i_11 .shallow), (10005005, .sl 3 y0_ i_21 .shallow)])) he (leads_ren [(10005000, 10004000), (10005001, 10004001), (10005002, 10004002), (10005003, 10004003), (10005004, 10004004), (10005005, 10004005)] rfl rfl ⟨⟨rfl, .inl rfl, .inl rfl, rfl, .inl rfl, trivial⟩, ⟨rfl, rfl, rfl, rfl, rfl, trivial⟩, ⟨rfl, ⟨⟨rfl, rfl⟩, trivial⟩, ⟨⟨rfl, rfl⟩, trivial⟩, rfl, .inr (.inl ⟨rfl, rfl⟩), trivial⟩, ⟨rfl, rfl⟩, ⟨rfl, rfl⟩, ⟨rfl, rfl⟩, trivial⟩ ⟨⟨⟨rfl, rfl⟩, rfl⟩, ⟨⟨rfl, rfl⟩, rfl⟩, ⟨⟨rfl, rfl⟩, rfl⟩, ⟨⟨rfl, rfl⟩, trivial⟩, rfl, trivial⟩) ?_
   rintro ⟨i2, i_4⟩ _ he
   refine go_if he (fun he => ?_) fun he => ?_
   ·refine wkSeq (spec_l10Canonical_j3 i2 i_4) (fun i8 => (envOf [(1, .c (.ptr 10009000 0)), (2, .c (.ptr 10009001 0)), (3, .c (.ptr 10009002 0)), (4, .c (.own 10009003 false)), (6, .c (.int .i64 i2)), (7, .c (.own 10009004 false))], [(10009000, .rc [.int .i64 (a0_0, (a0_1, (a0_2, (a0_3, a0_4)))).1, .imm y0_ (a0_0, (a0_1, (a0_2, (a0_3, a0_4)))).2.1, .imm y0_ (a0_0, (a0_1, (a0_2, (a0_3, a0_4)))).2.2.1, .int .i64 (a0_0, (a0_1, (a0_2, (a0_3, a0_4)))).2.2.2.1, .imm (.sl y0_) (a0_0, (a0_1, (a0_2, (a0_3, a0_4)))).2.2.2.2]), (10009001, .rc [.int .i64 (0:Int), .nil, .nil, .int .i64 (0:Int), .nil]), (10009002, .rc [.int .i64 (a0_0, (a0_1, (a0_2, (a0_3, a0_4)))).1, .own 10009005 false, .own 10009006 false, .int .i64 (a0_0, (a0_1, (a0_2, (a0_3, a0_4)))).2.2.2.1, .imm (.sl y0_) i_4]), (10009003, .sl 3 y0_ i .shallow), (10009004, .sl 3 y0_ i8 .shallow), (10009005, .sl 3 y0_ i_11 .shallow), (10009006, .sl 3 y0_ i_21 .shallow)])) he ?_ ?_
    ·rintro i8 he
     refine go_bind he fun r3_ he => ?_
     refine go_rq he fun he => ?_
     exact ⟨_, (ok_some he :), (leads_au [(10005000, 10009000), (10005001, 10009001), (10005002, 10009002), (10005003, 10009003), (10005004, 10009005), (10005005, 10009006)])⟩
    ·skip
     refine wkLoop (spec_l10Canonical_l2 (a0_0, (a0_1, (a0_2, (a0_3, a0_4)))) i i2 i_4) (fun (i6, i7) => (envOf [(1, .c (.ptr 10008000 0)), (2, .c (.ptr 10008001 0)), (3, .c (.ptr 10008002 0)), (4, .c (.own 10008003 false)), (6, .c (.int .i64 i2)), (7, .c (.own 10008004 false)), (8, .c (.int .i64 i6))], [(10008000, .rc [.int .i64 (a0_0, (a0_1, (a0_2, (a0_3, a0_4)))).1, .imm y0_ (a0_0, (a0_1, (a0_2, (a0_3, a0_4)))).2.1, .imm y0_ (a0_0, (a0_1, (a0_2, (a0_3, a0_4)))).2.2.1, .int .i64 (a0_0, (a0_1, (a0_2, (a0_3, a0_4)))).2.2.2.1, .imm (.sl y0_) (a0_0, (a0_1, (a0_2, (a0_3, a0_4)))).2.2.2.2]), (10008001, .rc [.int .i64 (0:Int), .nil, .nil, .int .i64 (0:Int), .nil]), (10008002, .rc [.int .i64 (a0_0, (a0_1, (a0_2, (a0_3, a0_4)))).1, .own 10008005 false, .own 10008006 false, .int .i64 (a0_0, (a0_1, (a0_2, (a0_3, a0_4)))).2.2.2.1, .imm (.sl y0_) i_4]), (10008003, .sl 3 y0_ i .shallow), (10008004, .sl 3 y0_ i7 .shallow), (10008005, .sl 3 y0_ i_11 .shallow), (10008006, .sl 3 y0_ i_21 .shallow)])) he (leads_au [(10008000, 10005000), (10008001, 10005001), (10008002, 10005002), (10008003, 10005003), (10008004, 63), (10008005, 10005004), (10008006, 10005005)]) ?_
     rintro ⟨i6, i7⟩ _ he
     refine go_if he (fun he => ?_) fun he => ?_
     ·refine And.intro (by kernel_rfl) ?_
      refine go_rq he fun he => ?_
      obtain ⟨hq1, he⟩ := ok_rq he
      obtain ⟨hq2, he⟩ := ok_rq he
      obtain ⟨hq3, he⟩ := ok_rq he
      refine And.intro ?_ (And.intro ?_ (trivial))
      ·skip
       refine And.intro hq1 ?_
       refine And.intro ?_ trivial
       exact wkz_19
      ·skip
       refine And.intro ?_ trivial
       refine And.intro hq1 ?_
       exact wkz_19
     ·exact ⟨_, (ok_up he :), (leads_au [(10009000, 10008000), (10009001, 10008001), (10009002, 10008002), (10009003, 10008003), (10009004, 10008004), (10009005, 10008005), (10009006, 10008006)])⟩
   ·exact wkRet [(2, [900])] (ok_some he :) (leads_au [(900, 10005001), (901, 10005004), (902, 10005005)])
  ·skip
   refine wkLoop (spec_l10Canonical_l3 (a0_0, (a0_1, (a0_2, (a0_3, a0_4)))) i) (fun (i1, i_1, i_2) => (envOf [(1, .c (.ptr 10001000 0)), (2, .c (.ptr 10001001 0)), (3, .c (.ptr 10001002 0)), (4, .c (.own 10001003 false)), (5, .c (.int .i64 i1))], [(10001000, .rc [.int .i64 (a0_0, (a0_1, (a0_2, (a0_3, a0_4)))).1, .imm y0_ (a0_0, (a0_1, (a0_2, (a0_3, a0_4)))).2.1, .imm y0_ (a0_0, (a0_1, (a0_2, (a0_3, a0_4)))).2.2.1, .int .i64 (a0_0, (a0_1, (a0_2, (a0_3, a0_4)))).2.2.2.1, .imm (.sl y0_) (a0_0, (a0_1, (a0_2, (a0_3, a0_4)))).2.2.2.2]), (10001001, .rc [.int .i64 (0:Int), .nil, .nil, .int .i64 (0:Int), .nil]), (10001002, .rc [.int .i64 (a0_0, (a0_1, (a0_2, (a0_3, a0_4)))).1, .own 10001004 false, .own 10001005 false, .int .i64 (a0_0, (a0_1, (a0_2, (a0_3, a0_4)))).2.2.2.1, .nil]), (10001003, .sl 3 y0_ i .shallow), (10001004, .sl 3 y0_ i_1 .shallow), (10001005, .sl 3 y0_ i_2 .shallow)])) he (leads_au [(10001000, 10000000), (10001001, 10000001), (10001002, 10000002), (10001003, 10000003)]) ?_
   rintro ⟨i1, i_1, i_2⟩ _ he
   refine go_if he (fun he => ?_) fun he => ?_
   ·refine wkSeq (spec_l10Canonical_j4 (a0_0, (a0_1, (a0_2, (a0_3, a0_4)))) i i1 i_1 i_2) (fun _ => (envOf [(1, .c (.ptr 10003000 0)), (2, .c (.ptr 10003001 0)), (3, .c (.ptr 10003002 0)), (4, .c (.own 10003003 false)), (5, .c (.int .i64 i1))], [(10003000, .rc [.int .i64 (a0_0, (a0_1, (a0_2, (a0_3, a0_4)))).1, .imm y0_ (a0_0, (a0_1, (a0_2, (a0_3, a0_4)))).2.1, .imm y0_ (a0_0, (a0_1, (a0_2, (a0_3, a0_4)))).2.2.1, .int .i64 (a0_0, (a0_1, (a0_2, (a0_3, a0_4)))).2.2.2.1, .imm (.sl y0_) (a0_0, (a0_1, (a0_2, (a0_3, a0_4)))).2.2.2.2]), (10003001, .rc [.int .i64 (0:Int), .nil, .nil, .int .i64 (0:Int), .nil]), (10003002, .rc [.int .i64 (a0_0, (a0_1, (a0_2, (a0_3, a0_4)))).1, .own 10003004 false, .own 10003005 false, .int .i64 (a0_0, (a0_1, (a0_2, (a0_3, a0_4)))).2.2.2.1, .nil]), (10003003, .sl 3 y0_ i .shallow), (10003004, .sl 3 y0_ (i_1 ++ [((a0_0, (a0_1, (a0_2, (a0_3, a0_4)))).2.1.getD (i.getD i1.toNat 0).toNat 0)]) .shallow), (10003005, .sl 3 y0_ i_2 .shallow)])) he ?_ ?_
    ·rintro ⟨⟩ he
     refine go_if he (fun he => ?_) fun he => ?_
     ·refine And.intro (by kernel_rfl) ?_
      refine go_rq he fun he => ?_
      obtain ⟨hq1, he⟩ := ok_rq he
      obtain ⟨hq2, he⟩ := ok_rq he
      refine And.intro ?_ (And.intro ?_ (And.intro ?_ (trivial)))
      ·skip
       refine And.intro ?_ (And.intro ?_ (trivial))
       ·exact wkz_21
       ·exact wkz_21
      ·exact wkz_22
      ·exact wkz_22
     ·refine go_rq he fun he => ?_
      exact ⟨_, (ok_some he :), (leads_au [(10001000, 10003000), (10001001, 10003001), (10001002, 10003002), (10001003, 10003003), (10001004, 10003004), (10001005, 10003005)])⟩
    ·skip
     refine And.intro (by kernel_rfl) ?_
     refine go_rq he fun he => ?_
     obtain ⟨hq1, he⟩ := ok_rq he
     obtain ⟨hq2, he⟩ := ok_rq he
     refine And.intro ?_ (And.intro ?_ (And.intro ?_ (trivial)))
     ·skip
      refine And.intro ?_ (And.intro ?_ (trivial))
      ·exact wkz_24
      ·exact wkz_24
     ·exact wkz_25
     ·exact wkz_25
   ·exact ⟨_, (ok_up he :), (leads_au [(10004000, 10001000), (10004001, 10001001), (10004002, 10001002), (10004003, 10001003), (10004004, 10001004), (10004005, 10001005)])⟩
 ·skip
  refine go_if he (fun he => ?_) fun he => ?_
  ·exact ⟨_, he, (leads_au [(10000000, 1), (10000001, 2), (10000002, 3), (10000003, 20)])⟩
  ·exact ⟨_, he, (leads_au [(10000000, 1), (10000001, 2), (10000002, 3), (10000003, 17900)])⟩

end Go.AE.Y
