/-
  Walks: each function keeps the contract that its model gives. No conditions.
-/
import Derived.Test.YtgpinbepiniogaaR9Tab
import Derived.Test.YtgpinbepiniogaaR9W3
import Derived.Test.YtgpinbepiniogaaR9S
namespace Go.AE.Y
open Go Go.AE Go.Proofs
set_option linter.unusedVariables false
set_option maxHeartbeats 2000000
set_option maxRecDepth 100000

noncomputable def c_slices_ContainsFunc_s_int__impl_Rule_holds_1 : Con := fun
  | [.c (.imm (.sl (.int .i64)) s_), .c (.fn 84 [0])], [(0, .rc [.imm (.int .i64) o0])] => .opt _ (slices_ContainsFunc_s_int__impl_Rule_holds_1 s_ o0) (fun r => .ret (.c (.bool r)) [(0, .rc [.imm y0_ o0])])
  | _, _ => .fail

noncomputable def C_slices_ContainsFunc_s_int__impl_Rule_holds_1 : Cfg := { y := tys, n := 9, h := 1, tab := [(89, c_slices_IndexFunc_s_int__impl_Rule_holds_1)] }

theorem k_slices_ContainsFunc_s_int__impl_Rule_holds_1 : Entry Try.prog 70 c_slices_ContainsFunc_s_int__impl_Rule_holds_1 := by
 refine wkEnt (C := C_slices_ContainsFunc_s_int__impl_Rule_holds_1) Try.f70 (wkTab k_slices_IndexFunc_s_int__impl_Rule_holds_1 wkNil) fun _ a b k he => ?_
 unfold c_slices_ContainsFunc_s_int__impl_Rule_holds_1 at he; split at he; rotate_left; exact he.elim
 rename_i s_ o0
 refine wkGo0 he fun he => ?_
 refine go_bind he fun r1_ he => ?_
 exact wkz_1

noncomputable def c_impl_Rule_holds : Con := fun
  | [.agg [.int .i64 r__0, .imm (.int .i64) r__1, .imm (.int .i64) r__2, .int .i64 r__3, .imm (.sl (.int .i64)) r__4], .c (.imm (.int .i64) vals)], [] => .opt _ (impl_Rule_holds (r__0, (r__1, (r__2, (r__3, r__4)))) vals) (fun r => .ret (.c (.bool r)) [])
  | _, _ => .fail

noncomputable def C_impl_Rule_holds : Cfg := { y := tys, n := 63, h := 0, tab := [(67, c_slices_Contains_int), (70, c_slices_ContainsFunc_s_int__impl_Rule_holds_1)] }

theorem k_impl_Rule_holds : Entry Try.prog 62 c_impl_Rule_holds := by
 refine wkEnt (C := C_impl_Rule_holds) Try.f62 (wkTab k_slices_Contains_int (wkTab k_slices_ContainsFunc_s_int__impl_Rule_holds_1 wkNil)) fun _ a b k he => ?_
 unfold c_impl_Rule_holds at he; split at he; rotate_left; exact he.elim
 rename_i r__0 r__1 r__2 r__3 r__4 vals
 refine wkGo0 he fun he => ?_
 refine go_if he (fun he => ?_) fun he => ?_
 ·refine wkLoop (impl_Rule_holds_l1 (r__0, (r__1, (r__2, (r__3, r__4)))) vals) (fun (sum, i) => (envOf [(2, .c (.ptr 10000000 0)), (5, .c (.int .i64 sum)), (14, .c (.imm y0_ vals)), (15, .c (.int .i64 (vals.length:Int))), (16, .c (.int .i64 i))], [(10000000, .rc [.int .i64 (r__0, (r__1, (r__2, (r__3, r__4)))).1, .imm y0_ (r__0, (r__1, (r__2, (r__3, r__4)))).2.1, .imm y0_ (r__0, (r__1, (r__2, (r__3, r__4)))).2.2.1, .int .i64 (r__0, (r__1, (r__2, (r__3, r__4)))).2.2.2.1, .imm (.sl y0_) (r__0, (r__1, (r__2, (r__3, r__4)))).2.2.2.2])])) he (leads_au [(10000000, 2)]) ?_
  rintro ⟨sum, i⟩ _ he
  refine go_if he (fun he => ?_) fun he => ?_
  ·refine go_rq he fun he => ?_
   exact wkz_8
  ·exact wkz_1
 ·refine go_if he (fun he => ?_) fun he => ?_
  ·refine wkLoop (impl_Rule_holds_l2 vals) (fun i1 => (envOf [(3, .c (.ptr 10001000 0)), (37, .c (.imm y0_ vals)), (38, .c (.int .i64 (vals.length:Int))), (39, .c (.int .i64 i1))], [(10001000, .rc [.imm y0_ vals])])) he (leads_au [(10001000, 3)]) ?_
   rintro i1 _ he
   refine go_if he (fun he => ?_) fun he => ?_
   ·refine go_rq he fun he => ?_
    exact wkz_35
   ·exact wkz_1
  ·refine go_if he (fun he => ?_) fun he => ?_
   ·exact wkz_71
   ·refine And.intro (by kernel_rfl) ?_
    exact wkz_2

noncomputable def c_impl_Rule_at : Con := fun
  | [.agg [.int .i64 r__0, .imm (.int .i64) r__1, .imm (.int .i64) r__2, .int .i64 r__3, .imm (.sl (.int .i64)) r__4], .c (.imm (.int .i64) cells)], [] => .opt _ (impl_Rule_at (r__0, (r__1, (r__2, (r__3, r__4)))) cells) (fun r => .ret (.c (.bool r)) [])
  | _, _ => .fail

noncomputable def C_impl_Rule_at : Cfg := { y := tys, n := 26, h := 0, tab := [(62, c_impl_Rule_holds)], cut := [7] }

theorem k_impl_Rule_at : Entry Try.prog 31 c_impl_Rule_at := by
 refine wkEnt (C := C_impl_Rule_at) Try.f31 (wkTab k_impl_Rule_holds wkNil) fun _ a b k he => ?_
 unfold c_impl_Rule_at at he; split at he; rotate_left; exact he.elim
 rename_i r__0 r__1 r__2 r__3 r__4 cells
 refine wkGo0 he fun he => ?_
 refine wkSeq (impl_Rule_at_j1 (r__0, (r__1, (r__2, (r__3, r__4))))) (fun vals1 => (envOf [(2, .c (.ptr 10001000 0)), (5, .c (.own 10001001 false))], [(10001000, .rc [.int .i64 (r__0, (r__1, (r__2, (r__3, r__4)))).1, .imm y0_ (r__0, (r__1, (r__2, (r__3, r__4)))).2.1, .imm y0_ (r__0, (r__1, (r__2, (r__3, r__4)))).2.2.1, .int .i64 (r__0, (r__1, (r__2, (r__3, r__4)))).2.2.2.1, .imm (.sl y0_) (r__0, (r__1, (r__2, (r__3, r__4)))).2.2.2.2]), (10001001, .sl 3 y0_ vals1 .shallow)])) he ?_ ?_
 ·rintro vals1 he
  exact wkz_40
 ·skip
  refine wkLoop (impl_Rule_at_l1 (r__0, (r__1, (r__2, (r__3, r__4)))) cells) (fun (i, vals) => (envOf [(1, .c (.imm y0_ cells)), (2, .c (.ptr 10000000 0)), (5, .c (.own 10000001 false)), (9, .c (.imm y0_ (r__0, (r__1, (r__2, (r__3, r__4)))).2.1)), (10, .c (.int .i64 ((r__0, (r__1, (r__2, (r__3, r__4)))).2.1.length:Int))), (11, .c (.int .i64 i))], [(10000000, .rc [.int .i64 (r__0, (r__1, (r__2, (r__3, r__4)))).1, .imm y0_ (r__0, (r__1, (r__2, (r__3, r__4)))).2.1, .imm y0_ (r__0, (r__1, (r__2, (r__3, r__4)))).2.2.1, .int .i64 (r__0, (r__1, (r__2, (r__3, r__4)))).2.2.2.1, .imm (.sl y0_) (r__0, (r__1, (r__2, (r__3, r__4)))).2.2.2.2]), (10000001, .sl 3 y0_ vals .shallow)])) he (leads_au [(10000000, 2)]) ?_
  rintro ⟨i, vals⟩ _ he
  refine go_if he (fun he => ?_) fun he => ?_
  ·refine go_rq he fun he => ?_
   refine go_rq he fun he => ?_
   refine go_rq he fun he => ?_
   refine go_rq he fun he => ?_
   exact ⟨_, (ok_some he :), (leads_au [(10000001, 21)])⟩
  ·exact ⟨_, (ok_up he :), (leads_au [(10001000, 10000000), (10001001, 10000001)])⟩

noncomputable def c_impl_RuleHolds : Con := fun
  | [.agg [.imm (.int .i64) m_0, .imm (.pair (.int .i64) (.pair (.sl (.int .i64)) (.pair (.sl (.int .i64)) (.pair (.int .i64) (.sl (.sl (.int .i64))))))) m_1], .c (.int .i64 rule), .c (.imm (.int .i64) cells)], [] => .opt _ (impl_RuleHolds (m_0, m_1) rule cells) (fun r => .ret (.c (.bool r)) [])
  | _, _ => .fail

noncomputable def C_impl_RuleHolds : Cfg := { y := tys, n := 24, h := 0, tab := [(23, c_impl_isRule), (30, c_impl_CellsValid), (31, c_impl_Rule_at)] }

theorem k_impl_RuleHolds : Entry Try.prog 9 c_impl_RuleHolds := by
 refine wkEnt (C := C_impl_RuleHolds) Try.f9 (wkTab k_impl_isRule (wkTab k_impl_CellsValid (wkTab k_impl_Rule_at wkNil))) fun _ a b k he => ?_
 unfold c_impl_RuleHolds at he; split at he; rotate_left; exact he.elim
 rename_i m_0 m_1 rule cells
 refine wkGo0 he fun he => ?_
 refine go_bind he fun r1_ he => ?_
 refine go_if he (fun he => ?_) fun he => ?_
 ·refine go_bind he fun r2_ he => ?_
  refine go_if he (fun he => ?_) fun he => ?_
  ·refine go_rq he fun he => ?_
   refine go_bind he fun r3_ he => ?_
   exact wkz_81
  ·exact wkz_81
 ·exact wkz_81

noncomputable def c_laws_FnCanonicalRule : Con := fun
  | [.c (.imm (.int .u8) a0)], [] => .opt _ (laws_FnCanonicalRule a0) (fun r => .ret (.c (.bool r)) [])
  | _, _ => .fail

noncomputable def C_laws_FnCanonicalRule_s1 : Sched := .alt 17 (wkFs [18, 19, 20] .done) .stop
noncomputable def C_laws_FnCanonicalRule_s2 : Sched := .alt 13 C_laws_FnCanonicalRule_s1 .stop
noncomputable def C_laws_FnCanonicalRule_s3 : Sched := .alt 8 (wkFs [9, 10, 12, 15, 16] (.alt 11 (.alt 13 (.alt 14 C_laws_FnCanonicalRule_s1 .stop) (.alt 14 C_laws_FnCanonicalRule_s2 .stop)) (.alt 14 (.alt 11 C_laws_FnCanonicalRule_s2 .stop) .stop))) .stop
noncomputable def C_laws_FnCanonicalRule_s4 : Sched := .alt 7 C_laws_FnCanonicalRule_s3 .stop
noncomputable def C_laws_FnCanonicalRule_s5 : Sched := .alt 6 C_laws_FnCanonicalRule_s4 .stop
noncomputable def C_laws_FnCanonicalRule_s6 : Sched := .alt 5 C_laws_FnCanonicalRule_s5 .stop
noncomputable def C_laws_FnCanonicalRule_s7 : Sched := .alt 4 C_laws_FnCanonicalRule_s4 .stop
noncomputable def C_laws_FnCanonicalRule_s8 : Sched := .alt 4 C_laws_FnCanonicalRule_s5 (.alt 6 C_laws_FnCanonicalRule_s7 .stop)
noncomputable def C_laws_FnCanonicalRule_s9 : Sched := .alt 2 C_laws_FnCanonicalRule_s4 (.alt 7 (.alt 2 C_laws_FnCanonicalRule_s3 .stop) .stop)
noncomputable def C_laws_FnCanonicalRule_s10 : Sched := .alt 2 C_laws_FnCanonicalRule_s5 (.alt 6 C_laws_FnCanonicalRule_s9 .stop)
noncomputable def C_laws_FnCanonicalRule : Cfg := { y := tys, n := 91, h := 0, tab := [(5, c_spec_DrawRuleHolds), (6, c_impl_CanonicalRule), (7, c_spec_CanonicalRule), (8, c_impl_ModelSame), (9, c_impl_RuleHolds)], good := [6], sched := [(11, (wkFs [0, 1, 3] (.alt 2 (.alt 4 C_laws_FnCanonicalRule_s6 (.alt 5 C_laws_FnCanonicalRule_s8 .stop)) (.alt 4 (.alt 2 C_laws_FnCanonicalRule_s6 (.alt 5 C_laws_FnCanonicalRule_s10 .stop)) (.alt 5 (.alt 2 C_laws_FnCanonicalRule_s8 (.alt 4 C_laws_FnCanonicalRule_s10 (.alt 6 (.alt 2 C_laws_FnCanonicalRule_s7 (.alt 4 C_laws_FnCanonicalRule_s9 .stop)) .stop))) .stop)))))] }

theorem wkz_82 {P : Prop} (h : P := by
  refine And.intro ?_ trivial
  refine ⟨r13_, hq1, ?_⟩
  refine And.intro ?_ trivial
  refine ⟨r14_, hq2, ?_⟩
  exact wkz_39) : P := h

theorem wkz_83 {P : Prop} (h : P := by
  refine And.intro ?_ trivial
  refine And.intro ?_ trivial
  exact wkz_39) : P := h

theorem wkz_84 {P : Prop} (h : P := by
  refine And.intro ?_ (And.intro ?_ (trivial))
  ·skip
   refine And.intro ?_ (And.intro ?_ (trivial))
   ·skip
    exact wkz_83
   ·skip
    exact wkz_83
  ·skip
   refine And.intro ?_ trivial
   exact wkz_83) : P := h

theorem wkz_85 {P : Prop} (h : P := by
  refine And.intro ?_ trivial
  refine And.intro ?_ trivial
  refine ⟨r12_, hq1, ?_⟩
  refine go_if he (fun he => ?_) fun he => ?_
  ·obtain ⟨r13_, hq1, he⟩ := ok_bind he
   obtain ⟨r14_, hq2, he⟩ := ok_bind he
   refine And.intro ?_ (And.intro ?_ (trivial))
   ·skip
    refine And.intro ?_ (And.intro ?_ (trivial))
    ·skip
     refine ⟨r13_, hq1, ?_⟩
     refine And.intro ?_ trivial
     refine And.intro ?_ trivial
     refine ⟨r14_, hq2, ?_⟩
     exact wkz_39
    ·skip
     exact wkz_82
   ·skip
    refine And.intro ?_ trivial
    exact wkz_82
  ·exact wkz_84) : P := h

theorem wkz_86 {P : Prop} (h : P := by
  skip
  refine And.intro ?_ trivial
  refine And.intro ?_ trivial
  exact wkz_85) : P := h

theorem wkz_87 {P : Prop} (h : P := by
  skip
  refine And.intro ?_ trivial
  exact wkz_85) : P := h

theorem wkz_88 {P : Prop} (h : P := by
  skip
  refine And.intro ?_ (And.intro ?_ (trivial))
  ·exact wkz_87
  ·exact wkz_87) : P := h

theorem wkz_89 {P : Prop} (h : P := by
  skip
  refine And.intro ?_ (And.intro ?_ (trivial))
  ·exact wkz_87
  ·skip
   refine And.intro ?_ (And.intro ?_ (trivial))
   ·skip
    exact wkz_85
   ·skip
    exact wkz_85) : P := h

theorem wkz_90 {P : Prop} (h : P := by
  refine And.intro ?_ trivial
  refine And.intro ?_ trivial
  exact wkz_84) : P := h

theorem wkz_91 {P : Prop} (h : P := by
  skip
  refine And.intro ?_ trivial
  refine And.intro ?_ trivial
  exact wkz_90) : P := h

theorem wkz_92 {P : Prop} (h : P := by
  skip
  refine And.intro ?_ trivial
  exact wkz_90) : P := h

theorem wkz_93 {P : Prop} (h : P := by
  skip
  refine And.intro ?_ (And.intro ?_ (trivial))
  ·exact wkz_92
  ·exact wkz_92) : P := h

theorem wkz_94 {P : Prop} (h : P := by
  skip
  refine And.intro ?_ (And.intro ?_ (trivial))
  ·exact wkz_92
  ·skip
   refine And.intro ?_ (And.intro ?_ (trivial))
   ·skip
    exact wkz_90
   ·skip
    exact wkz_90) : P := h

theorem k_laws_FnCanonicalRule : Entry Try.prog 3 c_laws_FnCanonicalRule := by
 refine wkEnt (C := C_laws_FnCanonicalRule) Try.f3 (wkTab k_spec_DrawRuleHolds (wkTab k_impl_CanonicalRule (wkTab k_spec_CanonicalRule (wkTab k_impl_ModelSame (wkTab k_impl_RuleHolds wkNil))))) fun _ a b k he => ?_
 unfold c_laws_FnCanonicalRule at he; split at he; rotate_left; exact he.elim
 rename_i a0
 refine wkGo0 he fun he => ?_
 refine go_if he (fun he => ?_) fun he => ?_
 ·exact wkz_28
 ·refine go_bind he fun r1_ he => ?_
  refine go_bind he fun r2_ he => ?_
  refine go_bind he fun r3_ he => ?_
  refine go_if2 he (fun he => ?_) fun he => ?_
  ·refine go_bind he fun r4_ he => ?_
   refine go_if2 he (fun he => ?_) fun he => ?_
   ·refine go_if he (fun he => ?_) fun he => ?_
    ·refine go_if he (fun he => ?_) fun he => ?_
     ·refine go_bind he fun r5_ he => ?_
      exact wkz_39
     ·exact wkz_39
    ·refine go_bind he fun r8_ he => ?_
     refine And.intro (by kernel_rfl) ?_
     refine go_if he (fun he => ?_) fun he => ?_
     ·obtain ⟨r12_, hq1, he⟩ := ok_bind he
      refine And.intro ?_ (And.intro ?_ (And.intro ?_ (trivial)))
      ·skip
       refine And.intro ?_ (And.intro ?_ (trivial))
       ·exact wkz_86
       ·exact wkz_88
      ·skip
       refine And.intro ?_ (And.intro ?_ (trivial))
       ·exact wkz_86
       ·exact wkz_89
      ·skip
       refine And.intro ?_ (And.intro ?_ (And.intro ?_ (trivial)))
       ·exact wkz_88
       ·exact wkz_89
       ·exact wkz_89
     ·refine And.intro ?_ (And.intro ?_ (And.intro ?_ (trivial)))
      ·skip
       refine And.intro ?_ (And.intro ?_ (trivial))
       ·exact wkz_91
       ·exact wkz_93
      ·skip
       refine And.intro ?_ (And.intro ?_ (trivial))
       ·exact wkz_91
       ·exact wkz_94
      ·skip
       refine And.intro ?_ (And.intro ?_ (And.intro ?_ (trivial)))
       ·exact wkz_93
       ·exact wkz_94
       ·exact wkz_94
   ·refine go_if he (fun he => ?_) fun he => ?_
    ·refine go_bind he fun r6_ he => ?_
     exact wkz_39
    ·exact wkz_39
  ·refine go_if he (fun he => ?_) fun he => ?_
   ·refine go_bind he fun r7_ he => ?_
    exact wkz_39
   ·exact wkz_39

end Go.AE.Y
