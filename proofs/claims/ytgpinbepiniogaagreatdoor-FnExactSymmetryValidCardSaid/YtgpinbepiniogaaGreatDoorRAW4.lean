/-
  Walks: each function keeps the contract that its model gives. No conditions.
-/
import Derived.Test.YtgpinbepiniogaaGreatDoorRATab
import Derived.Test.YtgpinbepiniogaaGreatDoorRAW3
import Derived.Test.YtgpinbepiniogaaGreatDoorRAS
namespace Go.AE.Y
open Go Go.AE Go.Proofs
set_option linter.unusedVariables false
set_option maxHeartbeats 2000000
set_option maxRecDepth 100000

noncomputable def c_strconv_Itoa : Con := itoaC

theorem k_strconv_Itoa : Entry Tryz.prog 117 c_strconv_Itoa := itoa_entry lays117 (Option.isSome_iff_exists.1 (by kernel_rfl))

noncomputable def c_impl_digits : Con := fun
  | [.c (.imm (.int .i64) list_)], [] => .opt _ (impl_digits list_) (fun r => .ret (.c (.str r)) [])
  | _, _ => .fail

noncomputable def C_impl_digits : Cfg := { y := tys, n := 18, h := 0, tab := [(117, c_strconv_Itoa)] }

theorem k_impl_digits : Entry Tryz.prog 118 c_impl_digits := by
 refine wkEnt (C := C_impl_digits) Tryz.f118 (wkTab k_strconv_Itoa wkNil) fun _ a b k he => ?_
 unfold c_impl_digits at he; split at he; rotate_left; exact he.elim
 rename_i list_
 refine wkGo0 he fun he => ?_
 refine wkLoop (impl_digits_l1 list_) (fun (out, i) => (envOf [(3, .c (.str out)), (6, .c (.imm y0_ list_)), (7, .c (.int .i64 (list_.length:Int))), (8, .c (.int .i64 i))], [])) he (leads_au []) ?_
 rintro ⟨out, i⟩ _ he
 refine go_if he (fun he => ?_) fun he => ?_
 ·refine go_rq he fun he => ?_
  refine go_bind he fun r1_ he => ?_
  exact wkz_10
 ·exact wkz_1

noncomputable def c_impl_Rule_text : Con := fun
  | [.agg [.int .i64 r__0, .imm (.int .i64) r__1, .imm (.int .i64) r__2, .int .i64 r__3, .imm (.sl (.int .i64)) r__4]], [] => .opt _ (impl_Rule_text (r__0, (r__1, (r__2, (r__3, r__4))))) (fun r => .ret (.c (.str r)) [])
  | _, _ => .fail

noncomputable def C_impl_Rule_text_s1 : Sched := .first 3 (.alt 4 (.first 5 .done) .stop)
noncomputable def C_impl_Rule_text : Cfg := { y := tys, n := 64, h := 0, tab := [(116, c_impl_ruleWords), (117, c_strconv_Itoa), (118, c_impl_digits)], cut := [2], sched := [(1, (.first 1 (.alt 0 (.alt 2 C_impl_Rule_text_s1 .stop) (.alt 2 (.alt 0 C_impl_Rule_text_s1 .stop) .stop))))] }

theorem wkz_66 {P : Prop} (h : P := by
  refine And.intro hq2 ?_
  refine And.intro ?_ trivial
  exact ⟨_, he, (leads_au [(10000000, 1)])⟩) : P := h

theorem k_impl_Rule_text : Entry Tryz.prog 82 c_impl_Rule_text := by
 refine wkEnt (C := C_impl_Rule_text) Tryz.f82 (wkTab k_impl_ruleWords (wkTab k_strconv_Itoa (wkTab k_impl_digits wkNil))) fun _ a b k he => ?_
 unfold c_impl_Rule_text at he; split at he; rotate_left; exact he.elim
 rename_i r__0 r__1 r__2 r__3 r__4
 refine wkGo0 he fun he => ?_
 refine wkSeq (impl_Rule_text_j1 (r__0, (r__1, (r__2, (r__3, r__4))))) (fun out => (envOf [(1, .c (.ptr 10000000 0)), (3, .c (.str out))], [(10000000, .rc [.int .i64 (r__0, (r__1, (r__2, (r__3, r__4)))).1, .imm y0_ (r__0, (r__1, (r__2, (r__3, r__4)))).2.1, .imm y0_ (r__0, (r__1, (r__2, (r__3, r__4)))).2.2.1, .int .i64 (r__0, (r__1, (r__2, (r__3, r__4)))).2.2.2.1, .imm (.sl y0_) (r__0, (r__1, (r__2, (r__3, r__4)))).2.2.2.2])])) he ?_ ?_
 ·rintro out he
  refine go_if he (fun he => ?_) fun he => ?_
  ·refine wkLoop (impl_Rule_text_l1 (r__0, (r__1, (r__2, (r__3, r__4))))) (fun (out1, i) => (envOf [(1, .c (.ptr 10001000 0)), (3, .c (.str out1)), (17, .c (.imm y0_ (r__0, (r__1, (r__2, (r__3, r__4)))).2.1)), (18, .c (.int .i64 ((r__0, (r__1, (r__2, (r__3, r__4)))).2.1.length:Int))), (19, .c (.int .i64 i))], [(10001000, .rc [.int .i64 (r__0, (r__1, (r__2, (r__3, r__4)))).1, .imm y0_ (r__0, (r__1, (r__2, (r__3, r__4)))).2.1, .imm y0_ (r__0, (r__1, (r__2, (r__3, r__4)))).2.2.1, .int .i64 (r__0, (r__1, (r__2, (r__3, r__4)))).2.2.2.1, .imm (.sl y0_) (r__0, (r__1, (r__2, (r__3, r__4)))).2.2.2.2])])) he (leads_au [(10001000, 10000000)]) ?_
   rintro ⟨out1, i⟩ _ he
   refine go_if he (fun he => ?_) fun he => ?_
   ·refine go_rq he fun he => ?_
    refine go_rq he fun he => ?_
    refine go_bind he fun r3_ he => ?_
    refine go_rq he fun he => ?_
    refine go_rq he fun he => ?_
    refine go_bind he fun r4_ he => ?_
    exact wkz_11
   ·refine go_rq he fun he => ?_
    refine go_bind he fun r5_ he => ?_
    refine go_rq he fun he => ?_
    exact wkz_15
  ·refine go_bind he fun r6_ he => ?_
   refine go_rq he fun he => ?_
   refine go_rq he fun he => ?_
   refine wkLoop (impl_Rule_text_l2 (r__0, (r__1, (r__2, (r__3, r__4))))) (fun (out2, i1) => (envOf [(3, .c (.str out2)), (51, .c (.imm (.sl y0_) (r__0, (r__1, (r__2, (r__3, r__4)))).2.2.2.2)), (52, .c (.int .i64 ((r__0, (r__1, (r__2, (r__3, r__4)))).2.2.2.2.length:Int))), (53, .c (.int .i64 i1))], [])) he (leads_au []) ?_
   rintro ⟨out2, i1⟩ _ he
   refine go_if he (fun he => ?_) fun he => ?_
   ·refine go_rq he fun he => ?_
    refine go_bind he fun r7_ he => ?_
    exact wkz_11
   ·exact wkz_1
 ·skip
  refine And.intro (by kernel_rfl) ?_
  obtain ⟨r2_, hq1, he⟩ := ok_bind he
  obtain ⟨hq2, he⟩ := ok_rq he
  refine And.intro ?_ (And.intro ?_ (trivial))
  ·skip
   refine ⟨r2_, hq1, ?_⟩
   refine And.intro ?_ trivial
   exact wkz_66
  ·skip
   refine And.intro ?_ trivial
   refine ⟨r2_, hq1, ?_⟩
   exact wkz_66

noncomputable def c_slices_Sort_string : Con := sortSC

theorem k_slices_Sort_string : Entry Tryz.prog 83 c_slices_Sort_string := sort_entryS lays83

noncomputable def c_slices_Compact_string : Con := fun
  | [.c (.own 0 false)], [(0, .sl 9 .str s_ .shallow)] => .opt _ (slices_Compact_string s_) (fun r => .ret (.c (.own 900 false)) [(0, .dead), (900, .sl 9 .str r .shallow)])
  | _, _ => .fail

noncomputable def C_slices_Compact_string : Cfg := { y := tys, n := 61, h := 1, tab := [], cut := [14] }

theorem k_slices_Compact_string : Entry Tryz.prog 84 c_slices_Compact_string := by
 refine wkEnt (C := C_slices_Compact_string) Tryz.f84 wkNil fun _ a b k he => ?_
 unfold c_slices_Compact_string at he; split at he; rotate_left; exact he.elim
 rename_i s_
 refine wkGo0 he fun he => ?_
 refine go_if he (fun he => ?_) fun he => ?_
 ·exact wkRet [(2, [])] (ok_some he :) (leads_au [(900, 0)])
 ·refine wkLoop (slices_Compact_string_l1 s_) (fun k_ => (envOf [(0, .c (.own 0 false)), (3, .c (.int .i64 k_))], [(0, .sl 9 .str s_ .shallow)])) he (leads_au []) ?_
  rintro k_ _ he
  refine go_if he (fun he => ?_) fun he => ?_
  ·refine And.intro (by kernel_rfl) ?_
   refine go_rq he fun he => ?_
   refine go_rq he fun he => ?_
   refine go_rq he fun he => ?_
   refine go_if he (fun he => ?_) fun he => ?_
   ·refine go_rq he fun he => ?_
    refine wkSeq (slices_Compact_string_j1) (fun (k_2, s_2) => (envOf [(0, .c (.own 0 false)), (3, .c (.int .i64 k_2))], [(0, .sl 9 .str s_2 .shallow)])) he ?_ ?_
    ·rintro ⟨k_2, s_2⟩ he
     refine go_rq he fun he => ?_
     refine go_rq he fun he => ?_
     exact wkRet [(2, [])] (ok_some he :) (leads_au [(900, 59)])
    ·skip
     refine wkLoop (slices_Compact_string_l2 k_) (fun (k_1, k2_, s_1) => (envOf [(0, .c (.own 0 false)), (3, .c (.int .i64 k_1)), (4, .c (.view 0 k_)), (5, .c (.int .i64 k2_))], [(0, .sl 9 .str s_1 .shallow)])) he (leads_au []) ?_
     rintro ⟨k_1, k2_, s_1⟩ _ he
     refine go_if he (fun he => ?_) fun he => ?_
     ·refine And.intro (by kernel_rfl) ?_
      refine go_rq he fun he => ?_
      refine go_rq he fun he => ?_
      refine go_rq he fun he => ?_
      exact wkz_48
     ·exact ⟨_, (ok_up he :), (leads_au [])⟩
   ·exact wkz_3
  ·exact wkRet [(2, [])] (ok_some he :) (leads_au [(900, 0)])

noncomputable def c_impl_Model_standard : Con := fun
  | [.agg [.imm (.int .i64) m_0, .imm (.pair (.int .i64) (.pair (.sl (.int .i64)) (.pair (.sl (.int .i64)) (.pair (.int .i64) (.sl (.sl (.int .i64))))))) m_1]], [] => .opt _ (impl_Model_standard (m_0, m_1)) (fun r => .ret (.c (.own 900 false)) [(900, .sl 9 .str r .shallow)])
  | _, _ => .fail

noncomputable def C_impl_Model_standard : Cfg := { y := tys, n := 24, h := 0, tab := [(81, c_impl_Rule_canonical), (82, c_impl_Rule_text), (83, c_slices_Sort_string), (84, c_slices_Compact_string)], cut := [7], hand := [(83, [0]), (84, [0])] }

theorem k_impl_Model_standard : Entry Tryz.prog 46 c_impl_Model_standard := by
 refine wkEnt (C := C_impl_Model_standard) Tryz.f46 (wkTab k_impl_Rule_canonical (wkTab k_impl_Rule_text (wkTab k_slices_Sort_string (wkTab k_slices_Compact_string wkNil)))) fun _ a b k he => ?_
 unfold c_impl_Model_standard at he; split at he; rotate_left; exact he.elim
 rename_i m_0 m_1
 refine wkGo0 he fun he => ?_
 refine wkSeq (impl_Model_standard_j1) (fun out1 => (envOf [(3, .c (.own 10001000 false))], [(10001000, .sl 9 .str out1 .shallow)])) he ?_ ?_
 ·rintro out1 he
  refine go_bind he fun r5_ he => ?_
  refine go_bind he fun r6_ he => ?_
  exact wkRet [(2, [])] (ok_some he :) (leads_au [(900, 24900)])
 ·skip
  refine wkLoop (impl_Model_standard_l1 (m_0, m_1)) (fun (i, out) => (envOf [(3, .c (.own 10000000 false)), (7, .c (.imm y4_ (m_0, m_1).2)), (8, .c (.int .i64 ((m_0, m_1).2.length:Int))), (9, .c (.int .i64 i))], [(10000000, .sl 9 .str out .shallow)])) he (leads_au []) ?_
  rintro ⟨i, out⟩ _ he
  refine go_if he (fun he => ?_) fun he => ?_
  ·refine go_rq he fun he => ?_
   refine go_bind he fun r3_ he => ?_
   refine go_bind he fun r4_ he => ?_
   refine go_rq he fun he => ?_
   refine go_rq he fun he => ?_
   exact ⟨_, (ok_some he :), (leads_au [(10000000, 18)])⟩
  ·exact ⟨_, (ok_up he :), (leads_au [(10001000, 10000000)])⟩

noncomputable def c_slices_Equal_string : Con := fun
  | [.c (.imm .str s1_), .c (.imm .str s2_)], [] => .opt _ (slices_Equal_string s1_ s2_) (fun r => .ret (.c (.bool r)) [])
  | _, _ => .fail

noncomputable def C_slices_Equal_string : Cfg := { y := tys, n := 26, h := 0, tab := [] }

theorem k_slices_Equal_string : Entry Tryz.prog 44 c_slices_Equal_string := by
 refine wkEnt (C := C_slices_Equal_string) Tryz.f44 wkNil fun _ a b k he => ?_
 unfold c_slices_Equal_string at he; split at he; rotate_left; exact he.elim
 rename_i s1_ s2_
 refine wkGo0 he fun he => ?_
 refine go_if he (fun he => ?_) fun he => ?_
 ·exact wkz_1
 ·refine wkLoop (slices_Equal_string_l1 s1_ s2_) (fun i => (envOf [(0, .c (.imm .str s1_)), (1, .c (.imm .str s2_)), (12, .c (.int .i64 (s1_.length:Int))), (13, .c (.int .i64 i))], [])) he (leads_au []) ?_
  exact wkz_22

noncomputable def c_impl_SymmetryValid : Con := fun
  | [.agg [.imm (.int .i64) m_0, .imm (.pair (.int .i64) (.pair (.sl (.int .i64)) (.pair (.sl (.int .i64)) (.pair (.int .i64) (.sl (.sl (.int .i64))))))) m_1], .c (.imm (.int .i64) perm)], [] => .opt _ (impl_SymmetryValid (m_0, m_1) perm) (fun r => .ret (.c (.bool r)) [])
  | _, _ => .fail

noncomputable def C_impl_SymmetryValid_s1 : Sched := .alt 9 (.alt 10 (wkFs [11, 12] .done) .stop) .stop
noncomputable def C_impl_SymmetryValid_s2 : Sched := .alt 7 C_impl_SymmetryValid_s1 .stop
noncomputable def C_impl_SymmetryValid_s3 : Sched := .alt 6 C_impl_SymmetryValid_s2 .stop
noncomputable def C_impl_SymmetryValid : Cfg := { y := tys, n := 17, h := 0, tab := [(43, c_impl_PermValid), (44, c_slices_Equal_string), (45, c_impl_Model_permuted), (46, c_impl_Model_standard)], sched := [(1, (.first 1 (.alt 0 (.alt 2 (wkFs [3, 5] (.alt 4 (.alt 6 (.alt 7 (.alt 8 C_impl_SymmetryValid_s1 .stop) (.alt 8 C_impl_SymmetryValid_s2 .stop)) (.alt 8 C_impl_SymmetryValid_s3 .stop)) (.alt 8 (.alt 4 C_impl_SymmetryValid_s3 .stop) .stop))) .stop) .stop)))] }

theorem wkz_67 {P : Prop} (h : P := by
  refine And.intro ?_ trivial
  refine ⟨r9_, hq3, ?_⟩
  refine And.intro ?_ trivial
  refine ⟨r10_, hq4, ?_⟩
  exact wkz_7) : P := h

theorem wkz_68 {P : Prop} (h : P := by
  refine And.intro ?_ trivial
  refine ⟨r7_, hq1, ?_⟩
  refine And.intro ?_ trivial
  refine ⟨r8_, hq2, ?_⟩
  exact wkz_67) : P := h

theorem k_impl_SymmetryValid : Entry Tryz.prog 14 c_impl_SymmetryValid := by
 refine wkEnt (C := C_impl_SymmetryValid) Tryz.f14 (wkTab k_impl_PermValid (wkTab k_slices_Equal_string (wkTab k_impl_Model_permuted (wkTab k_impl_Model_standard wkNil)))) fun _ a b k he => ?_
 unfold c_impl_SymmetryValid at he; split at he; rotate_left; exact he.elim
 rename_i m_0 m_1 perm
 refine wkGo0 he fun he => ?_
 refine And.intro (by kernel_rfl) ?_
 refine And.intro ?_ trivial
 refine And.intro ?_ trivial
 refine go_bind he fun r6_ he => ?_
 refine go_if he (fun he => ?_) fun he => ?_
 ·obtain ⟨r7_, hq1, he⟩ := ok_bind he
  obtain ⟨r8_, hq2, he⟩ := ok_bind he
  obtain ⟨r9_, hq3, he⟩ := ok_bind he
  obtain ⟨r10_, hq4, he⟩ := ok_bind he
  refine And.intro ?_ (And.intro ?_ (trivial))
  ·skip
   refine And.intro ?_ (And.intro ?_ (trivial))
   ·skip
    refine ⟨r7_, hq1, ?_⟩
    refine And.intro ?_ (And.intro ?_ (trivial))
    ·skip
     refine ⟨r8_, hq2, ?_⟩
     refine And.intro ?_ trivial
     exact wkz_67
    ·skip
     refine And.intro ?_ trivial
     refine ⟨r8_, hq2, ?_⟩
     exact wkz_67
   ·skip
    exact wkz_68
  ·skip
   refine And.intro ?_ trivial
   exact wkz_68
 ·refine And.intro ?_ (And.intro ?_ (trivial))
  ·skip
   refine And.intro ?_ (And.intro ?_ (trivial))
   ·skip
    exact wkz_39
   ·skip
    refine And.intro ?_ trivial
    exact wkz_38
  ·skip
   refine And.intro ?_ trivial
   refine And.intro ?_ trivial
   exact wkz_38

noncomputable def c_laws_eqIntS : Con := fun
  | [.c (.imm (.int .i64) a), .c (.imm (.int .i64) b)], [] => .opt _ (laws_eqIntS a b) (fun r => .ret (.c (.bool r)) [])
  | _, _ => .fail

noncomputable def C_laws_eqIntS : Cfg := { y := tys, n := 26, h := 0, tab := [] }

theorem k_laws_eqIntS : Entry Tryz.prog 16 c_laws_eqIntS := by
 refine wkEnt (C := C_laws_eqIntS) Tryz.f16 wkNil fun _ a b k he => ?_
 unfold c_laws_eqIntS at he; split at he; rotate_left; exact he.elim
 rename_i a b
 refine wkGo0 he fun he => ?_
 refine go_if he (fun he => ?_) fun he => ?_
 ·exact wkz_1
 ·refine wkLoop (laws_eqIntS_l1 a b) (fun i => (envOf [(0, .c (.imm y0_ a)), (1, .c (.imm y0_ b)), (5, .c (.int .i64 i))], [])) he (leads_au []) ?_
  exact wkz_22

noncomputable def c_laws_eqIntSS : Con := fun
  | [.c (.imm (.sl (.int .i64)) a), .c (.imm (.sl (.int .i64)) b)], [] => .opt _ (laws_eqIntSS a b) (fun r => .ret (.c (.bool r)) [])
  | _, _ => .fail

noncomputable def C_laws_eqIntSS : Cfg := { y := tys, n := 27, h := 0, tab := [(16, c_laws_eqIntS)], sched := [(6, (wkFs [0, 1, 2, 3, 4, 5, 6, 7] (.alt 8 (.first 9 .done) .stop)))] }

theorem wkz_69 {P : Prop} (h : P := by
  rintro i _ he
  refine go_if he (fun he => ?_) fun he => ?_
  ·refine And.intro (by kernel_rfl) ?_
   refine go_rq he fun he => ?_
   refine go_rq he fun he => ?_
   refine And.intro ?_ trivial
   refine go_bind he fun r2_ he => ?_
   exact wkz_4
  ·exact wkz_1) : P := h

theorem k_laws_eqIntSS : Entry Tryz.prog 24 c_laws_eqIntSS := by
 refine wkEnt (C := C_laws_eqIntSS) Tryz.f24 (wkTab k_laws_eqIntS wkNil) fun _ a b k he => ?_
 unfold c_laws_eqIntSS at he; split at he; rotate_left; exact he.elim
 rename_i a b
 refine wkGo0 he fun he => ?_
 refine go_if he (fun he => ?_) fun he => ?_
 ·exact wkz_1
 ·refine wkLoop (laws_eqIntSS_l1 a b) (fun i => (envOf [(0, .c (.imm (.sl y0_) a)), (1, .c (.imm (.sl y0_) b)), (5, .c (.int .i64 i))], [])) he (leads_au []) ?_
  exact wkz_69

noncomputable def c_laws_eqRule : Con := fun
  | [.agg [.int .i64 a_0, .imm (.int .i64) a_1, .imm (.int .i64) a_2, .int .i64 a_3, .imm (.sl (.int .i64)) a_4], .agg [.int .i64 b_0, .imm (.int .i64) b_1, .imm (.int .i64) b_2, .int .i64 b_3, .imm (.sl (.int .i64)) b_4]], [] => .opt _ (laws_eqRule (a_0, (a_1, (a_2, (a_3, a_4)))) (b_0, (b_1, (b_2, (b_3, b_4))))) (fun r => .ret (.c (.bool r)) [])
  | _, _ => .fail

noncomputable def C_laws_eqRule : Cfg := { y := tys, n := 33, h := 0, tab := [(16, c_laws_eqIntS), (24, c_laws_eqIntSS)] }

theorem k_laws_eqRule : Entry Tryz.prog 85 c_laws_eqRule := by
 refine wkEnt (C := C_laws_eqRule) Tryz.f85 (wkTab k_laws_eqIntS (wkTab k_laws_eqIntSS wkNil)) fun _ a b k he => ?_
 unfold c_laws_eqRule at he; split at he; rotate_left; exact he.elim
 rename_i a_0 a_1 a_2 a_3 a_4 b_0 b_1 b_2 b_3 b_4
 refine wkGo0 he fun he => ?_
 refine go_if he (fun he => ?_) fun he => ?_
 ·exact wkz_7
 ·refine go_bind he fun r1_ he => ?_
  refine go_if he (fun he => ?_) fun he => ?_
  ·exact wkz_7
  ·refine go_bind he fun r2_ he => ?_
   refine go_if he (fun he => ?_) fun he => ?_
   ·exact wkz_7
   ·exact wkz_9

noncomputable def c_laws_eqRuleS : Con := fun
  | [.c (.imm (.pair (.int .i64) (.pair (.sl (.int .i64)) (.pair (.sl (.int .i64)) (.pair (.int .i64) (.sl (.sl (.int .i64))))))) a), .c (.imm (.pair (.int .i64) (.pair (.sl (.int .i64)) (.pair (.sl (.int .i64)) (.pair (.int .i64) (.sl (.sl (.int .i64))))))) b)], [] => .opt _ (laws_eqRuleS a b) (fun r => .ret (.c (.bool r)) [])
  | _, _ => .fail

noncomputable def C_laws_eqRuleS : Cfg := { y := tys, n := 27, h := 0, tab := [(85, c_laws_eqRule)], sched := [(6, (wkFs [0, 1, 2, 3, 4, 5, 6, 7] (.alt 8 (.first 9 .done) .stop)))] }

theorem k_laws_eqRuleS : Entry Tryz.prog 47 c_laws_eqRuleS := by
 refine wkEnt (C := C_laws_eqRuleS) Tryz.f47 (wkTab k_laws_eqRule wkNil) fun _ a b k he => ?_
 unfold c_laws_eqRuleS at he; split at he; rotate_left; exact he.elim
 rename_i a b
 refine wkGo0 he fun he => ?_
 refine go_if he (fun he => ?_) fun he => ?_
 ·exact wkz_1
 ·refine wkLoop (laws_eqRuleS_l1 a b) (fun i => (envOf [(0, .c (.imm y4_ a)), (1, .c (.imm y4_ b)), (5, .c (.int .i64 i))], [])) he (leads_au []) ?_
  exact wkz_69

noncomputable def c_laws_eqModel : Con := fun
  | [.agg [.imm (.int .i64) a_0, .imm (.pair (.int .i64) (.pair (.sl (.int .i64)) (.pair (.sl (.int .i64)) (.pair (.int .i64) (.sl (.sl (.int .i64))))))) a_1], .agg [.imm (.int .i64) b_0, .imm (.pair (.int .i64) (.pair (.sl (.int .i64)) (.pair (.sl (.int .i64)) (.pair (.int .i64) (.sl (.sl (.int .i64))))))) b_1]], [] => .opt _ (laws_eqModel (a_0, a_1) (b_0, b_1)) (fun r => .ret (.c (.bool r)) [])
  | _, _ => .fail

noncomputable def C_laws_eqModel : Cfg := { y := tys, n := 17, h := 0, tab := [(16, c_laws_eqIntS), (47, c_laws_eqRuleS)] }

theorem k_laws_eqModel : Entry Tryz.prog 15 c_laws_eqModel := by
 refine wkEnt (C := C_laws_eqModel) Tryz.f15 (wkTab k_laws_eqIntS (wkTab k_laws_eqRuleS wkNil)) fun _ a b k he => ?_
 unfold c_laws_eqModel at he; split at he; rotate_left; exact he.elim
 rename_i a_0 a_1 b_0 b_1
 refine wkGo0 he fun he => ?_
 refine go_bind he fun r1_ he => ?_
 refine go_if he (fun he => ?_) fun he => ?_
 ·exact wkz_7
 ·refine go_bind he fun r2_ he => ?_
  exact wkz_8

noncomputable def c_laws_FnExactSymmetryValid : Con := fun
  | [.agg [.imm (.int .i64) aM_0, .imm (.pair (.int .i64) (.pair (.sl (.int .i64)) (.pair (.sl (.int .i64)) (.pair (.int .i64) (.sl (.sl (.int .i64))))))) aM_1], .c (.imm (.int .i64) aPerm)], [] => .opt _ (laws_FnExactSymmetryValid (aM_0, aM_1) aPerm) (fun r => .ret (.c (.bool r)) [])
  | _, _ => .fail

noncomputable def C_laws_FnExactSymmetryValid_s1 : Sched := .alt 3 (.first 4 .done) .stop
noncomputable def C_laws_FnExactSymmetryValid_s2 : Sched := .alt 2 C_laws_FnExactSymmetryValid_s1 .stop
noncomputable def C_laws_FnExactSymmetryValid : Cfg := { y := tys, n := 43, h := 0, tab := [(10, c_laws_szModel), (11, c_spec_SymmetryValid), (12, c_laws_toModel), (13, c_laws_toIntS), (14, c_impl_SymmetryValid), (15, c_laws_eqModel), (16, c_laws_eqIntS)], cut := [15], sched := [(13, (.alt 0 (.alt 1 C_laws_FnExactSymmetryValid_s2 .stop) (.alt 1 (.alt 0 C_laws_FnExactSymmetryValid_s2 (.alt 2 (.alt 0 C_laws_FnExactSymmetryValid_s1 .stop) .stop)) .stop)))] }

theorem wkz_70 {P : Prop} (h : P := by
  refine And.intro ?_ trivial
  refine ⟨r11_, hq2, ?_⟩
  refine go_if he (fun he => ?_) fun he => ?_
  ·exact wkz_7
  ·exact ⟨_, he, (leads_au [(10000000, 27900)])⟩) : P := h

theorem k_laws_FnExactSymmetryValid : Entry Tryz.prog 3 c_laws_FnExactSymmetryValid := by
 refine wkEnt (C := C_laws_FnExactSymmetryValid) Tryz.f3 (wkTab k_laws_szModel (wkTab k_spec_SymmetryValid (wkTab k_laws_toModel (wkTab k_laws_toIntS (wkTab k_impl_SymmetryValid (wkTab k_laws_eqModel (wkTab k_laws_eqIntS wkNil))))))) fun _ a b k he => ?_
 unfold c_laws_FnExactSymmetryValid at he; split at he; rotate_left; exact he.elim
 rename_i aM_0 aM_1 aPerm
 refine wkGo0 he fun he => ?_
 refine go_if he (fun he => ?_) fun he => ?_
 ·exact wkz_7
 ·refine go_bind he fun r1_ he => ?_
  refine go_if he (fun he => ?_) fun he => ?_
  ·exact wkz_7
  ·refine go_bind he fun r2_ he => ?_
   refine go_bind he fun r3_ he => ?_
   refine go_bind he fun r4_ he => ?_
   refine go_bind he fun r5_ he => ?_
   refine go_bind he fun r6_ he => ?_
   refine go_bind he fun r7_ he => ?_
   refine go_if he (fun he => ?_) fun he => ?_
   ·exact wkz_7
   ·refine wkSeq (laws_FnExactSymmetryValid_j1 aPerm r6_) (fun _ => (envOf [(1, .c (.imm y0_ aPerm)), (8, .c (.own 10000000 false))], [(10000000, .sl 3 y0_ r6_ .shallow)])) he ?_ ?_
    ·rintro ⟨⟩ he
     refine go_bind he fun r12_ he => ?_
     refine go_bind he fun r13_ he => ?_
     exact wkz_8
    ·skip
     refine And.intro (by kernel_rfl) ?_
     obtain ⟨r10_, hq1, he⟩ := ok_bind he
     obtain ⟨r11_, hq2, he⟩ := ok_bind he
     refine And.intro ?_ (And.intro ?_ (trivial))
     ·skip
      refine And.intro ?_ trivial
      refine And.intro ?_ trivial
      refine ⟨r10_, hq1, ?_⟩
      exact wkz_70
     ·skip
      refine And.intro ?_ (And.intro ?_ (trivial))
      ·skip
       refine And.intro ?_ trivial
       refine ⟨r10_, hq1, ?_⟩
       exact wkz_70
      ·skip
       refine ⟨r10_, hq1, ?_⟩
       refine And.intro ?_ trivial
       exact wkz_70

end Go.AE.Y
