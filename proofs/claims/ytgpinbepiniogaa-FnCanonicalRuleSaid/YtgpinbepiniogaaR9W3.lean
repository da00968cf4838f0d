/-
  Walks: each function keeps the contract that its model gives. No conditions.
-/
import Derived.Test.YtgpinbepiniogaaR9Tab
import Derived.Test.YtgpinbepiniogaaR9W2
import Derived.Test.YtgpinbepiniogaaR9S
namespace Go.AE.Y
open Go Go.AE Go.Proofs
set_option linter.unusedVariables false
set_option maxHeartbeats 2000000
set_option maxRecDepth 100000

noncomputable def c_impl_Rule_canonical : Con := fun
  | [.agg [.int .i64 a0_0, .imm (.int .i64) a0_1, .imm (.int .i64) a0_2, .int .i64 a0_3, .imm (.sl (.int .i64)) a0_4]], [] => .opt _ (impl_Rule_canonical (a0_0, (a0_1, (a0_2, (a0_3, a0_4))))) (fun r => .ret (.agg [.int .i64 r.1, .own 901 false, .own 902 false, .int .i64 r.2.1, .own 903 false]) [(900, .rc [.int .i64 r.1, .own 901 false, .own 902 false, .int .i64 r.2.1, .own 903 false]), (901, .sl 3 y0_ r.2.2.1 .shallow), (902, .sl 3 y0_ r.2.2.2.1 .shallow), (903, .sl 23 (.sl y0_) r.2.2.2.2 .shallow)])
  | _, _ => .fail

noncomputable def C_impl_Rule_canonical_s1 : Sched := .alt 10 .done .stop
noncomputable def C_impl_Rule_canonical_s2 : Sched := .alt 8 C_impl_Rule_canonical_s1 .stop
noncomputable def C_impl_Rule_canonical_s3 : Sched := .alt 8 (.alt 9 C_impl_Rule_canonical_s1 .stop) (.alt 9 C_impl_Rule_canonical_s2 .stop)
noncomputable def C_impl_Rule_canonical_s4 : Sched := .alt 7 C_impl_Rule_canonical_s2 .stop
noncomputable def C_impl_Rule_canonical_s5 : Sched := .alt 7 C_impl_Rule_canonical_s3 (.alt 9 C_impl_Rule_canonical_s4 .stop)
noncomputable def C_impl_Rule_canonical_s6 : Sched := .alt 5 C_impl_Rule_canonical_s2 .stop
noncomputable def C_impl_Rule_canonical_s7 : Sched := .alt 5 C_impl_Rule_canonical_s3 (.alt 9 C_impl_Rule_canonical_s6 .stop)
noncomputable def C_impl_Rule_canonical_s8 : Sched := .alt 5 C_impl_Rule_canonical_s4 (.alt 7 C_impl_Rule_canonical_s6 .stop)
noncomputable def C_impl_Rule_canonical_s9 : Sched := .alt 5 C_impl_Rule_canonical_s5 (.alt 7 C_impl_Rule_canonical_s7 (.alt 9 C_impl_Rule_canonical_s8 .stop))
noncomputable def C_impl_Rule_canonical_s10 : Sched := .alt 4 C_impl_Rule_canonical_s6 .stop
noncomputable def C_impl_Rule_canonical_s11 : Sched := .alt 4 C_impl_Rule_canonical_s7 (.alt 9 C_impl_Rule_canonical_s10 .stop)
noncomputable def C_impl_Rule_canonical_s12 : Sched := .alt 4 C_impl_Rule_canonical_s8 (.alt 7 C_impl_Rule_canonical_s10 .stop)
noncomputable def C_impl_Rule_canonical_s13 : Sched := .alt 1 C_impl_Rule_canonical_s2 .stop
noncomputable def C_impl_Rule_canonical_s14 : Sched := .alt 1 C_impl_Rule_canonical_s3 (.alt 9 C_impl_Rule_canonical_s13 .stop)
noncomputable def C_impl_Rule_canonical_s15 : Sched := .alt 1 C_impl_Rule_canonical_s4 (.alt 7 C_impl_Rule_canonical_s13 .stop)
noncomputable def C_impl_Rule_canonical_s16 : Sched := .alt 1 C_impl_Rule_canonical_s6 (.alt 5 C_impl_Rule_canonical_s13 .stop)
noncomputable def C_impl_Rule_canonical_s17 : Sched := .alt 1 C_impl_Rule_canonical_s7 (.alt 5 C_impl_Rule_canonical_s14 (.alt 9 C_impl_Rule_canonical_s16 .stop))
noncomputable def C_impl_Rule_canonical_s18 : Sched := .alt 1 C_impl_Rule_canonical_s8 (.alt 5 C_impl_Rule_canonical_s15 (.alt 7 C_impl_Rule_canonical_s16 .stop))
noncomputable def C_impl_Rule_canonical_s19 : Sched := .alt 1 C_impl_Rule_canonical_s10 (.alt 4 C_impl_Rule_canonical_s16 .stop)
noncomputable def C_impl_Rule_canonical_s20 : Sched := .alt 6 (.first 7 (.alt 8 .done .stop)) .stop
noncomputable def C_impl_Rule_canonical_s21 : Sched := .alt 5 C_impl_Rule_canonical_s20 .stop
noncomputable def C_impl_Rule_canonical : Cfg := { y := tys, n := 70, h := 0, tab := [(51, c_impl_Rule_own), (52, c_slices_SortFunc_int__impl_Rule_canonical_1), (54, c_impl_Rule_canonical_2__Rs), (55, c_slices_SortFunc_s_int__slices_Compare_int__s), (57, c_slices_CompactFunc_s_int__slices_Equal_int__s)], cut := [9, 12, 14, 19], hand := [(51, [0]), (52, [0]), (55, [0]), (57, [0])], sched := [(11, (wkFs [0, 2, 3, 6] (.alt 1 (.alt 4 C_impl_Rule_canonical_s9 (.alt 7 C_impl_Rule_canonical_s11 (.alt 9 C_impl_Rule_canonical_s12 .stop))) (.alt 4 (.alt 1 C_impl_Rule_canonical_s9 (.alt 5 (.alt 1 C_impl_Rule_canonical_s5 (.alt 7 C_impl_Rule_canonical_s14 (.alt 9 C_impl_Rule_canonical_s15 .stop))) (.alt 7 C_impl_Rule_canonical_s17 (.alt 9 C_impl_Rule_canonical_s18 .stop)))) (.alt 7 (.alt 1 C_impl_Rule_canonical_s11 (.alt 4 C_impl_Rule_canonical_s17 (.alt 9 C_impl_Rule_canonical_s19 .stop))) (.alt 9 (.alt 1 C_impl_Rule_canonical_s12 (.alt 4 C_impl_Rule_canonical_s18 (.alt 7 C_impl_Rule_canonical_s19 .stop))) .stop)))))), (17, (wkFs [0, 2, 3] (.alt 1 (.alt 4 C_impl_Rule_canonical_s21 .stop) (.alt 4 (.alt 1 C_impl_Rule_canonical_s21 (.alt 5 (.alt 1 C_impl_Rule_canonical_s20 .stop) .stop)) .stop))))] }

theorem wkz_54 {P : Prop} (h : P := by
  refine And.intro ?_ trivial
  refine And.intro ?_ trivial
  refine And.intro hq2 ?_
  refine And.intro ?_ trivial
  refine go_rq he fun he => ?_
  exact ⟨_, (ok_some he :), (leads_au [(10004006, 59)])⟩) : P := h

theorem wkz_55 {P : Prop} (h : P := by
  refine And.intro ?_ trivial
  refine And.intro ?_ trivial
  exact ⟨_, he, (leads_au [(10002000, 10001000), (10002001, 10001001), (10002002, 10001002), (10002003, 6), (10002004, 10001003), (10002005, 35900)])⟩) : P := h

theorem wkz_56 {P : Prop} (h : P := by
  refine And.intro ?_ (And.intro ?_ (trivial))
  ·skip
   exact wkz_55
  ·skip
   exact wkz_55) : P := h

theorem wkz_57 {P : Prop} (h : P := by
  refine And.intro ?_ (And.intro ?_ (trivial))
  ·skip
   exact wkz_56
  ·skip
   refine And.intro ?_ trivial
   exact wkz_55) : P := h

theorem wkz_58 {P : Prop} (h : P := by
  skip
  refine And.intro ?_ trivial
  refine ⟨r4_, hq1, ?_⟩
  exact wkz_55) : P := h

theorem wkz_59 {P : Prop} (h : P := by
  skip
  refine And.intro ?_ (And.intro ?_ (trivial))
  ·skip
   refine ⟨r4_, hq1, ?_⟩
   exact wkz_56
  ·exact wkz_58) : P := h

theorem wkz_60 {P : Prop} (h : P := by
  skip
  refine ⟨r4_, hq1, ?_⟩
  refine And.intro ?_ trivial
  exact wkz_55) : P := h

theorem wkz_61 {P : Prop} (h : P := by
  skip
  refine And.intro ?_ (And.intro ?_ (trivial))
  ·exact wkz_60
  ·exact wkz_58) : P := h

theorem wkz_62 {P : Prop} (h : P := by
  skip
  refine And.intro ?_ (And.intro ?_ (And.intro ?_ (trivial)))
  ·skip
   refine ⟨r4_, hq1, ?_⟩
   exact wkz_57
  ·exact wkz_59
  ·exact wkz_61) : P := h

theorem wkz_63 {P : Prop} (h : P := by
  skip
  refine And.intro ?_ trivial
  refine And.intro ?_ trivial
  refine ⟨r4_, hq1, ?_⟩
  exact wkz_55) : P := h

theorem wkz_64 {P : Prop} (h : P := by
  skip
  refine And.intro ?_ (And.intro ?_ (trivial))
  ·exact wkz_59
  ·exact wkz_63) : P := h

theorem wkz_65 {P : Prop} (h : P := by
  skip
  refine And.intro ?_ (And.intro ?_ (trivial))
  ·exact wkz_61
  ·exact wkz_63) : P := h

theorem wkz_66 {P : Prop} (h : P := by
  refine And.intro ?_ (And.intro ?_ (trivial))
  ·skip
   refine And.intro ?_ trivial
   exact wkz_55
  ·skip
   refine And.intro ?_ trivial
   exact wkz_55) : P := h

theorem wkz_67 {P : Prop} (h : P := by
  skip
  refine And.intro ?_ (And.intro ?_ (And.intro ?_ (trivial)))
  ·exact wkz_59
  ·skip
   refine ⟨r4_, hq1, ?_⟩
   exact wkz_57
  ·skip
   refine And.intro ?_ (And.intro ?_ (trivial))
   ·exact wkz_58
   ·exact wkz_60) : P := h

theorem wkz_68 {P : Prop} (h : P := by
  skip
  refine And.intro ?_ (And.intro ?_ (And.intro ?_ (trivial)))
  ·exact wkz_61
  ·skip
   refine ⟨r4_, hq1, ?_⟩
   exact wkz_66
  ·skip
   refine And.intro ?_ (And.intro ?_ (trivial))
   ·exact wkz_58
   ·exact wkz_60) : P := h

theorem k_impl_Rule_canonical : Entry Try.prog 24 c_impl_Rule_canonical := by
 refine wkEnt (C := C_impl_Rule_canonical) Try.f24 (wkTab k_impl_Rule_own (wkTab k_slices_SortFunc_int__impl_Rule_canonical_1 (wkTab k_impl_Rule_canonical_2__Rs (wkTab k_slices_SortFunc_s_int__slices_Compare_int__s (wkTab k_slices_CompactFunc_s_int__slices_Equal_int__s wkNil))))) fun _ a b k he => ?_
 unfold c_impl_Rule_canonical at he; split at he; rotate_left; exact he.elim
 rename_i a0_0 a0_1 a0_2 a0_3 a0_4
 refine wkGo0 he fun he => ?_
 refine go_if he (fun he => ?_) fun he => ?_
 ·refine go_bind he fun r1_ he => ?_
  exact wkRet [(2, [900])] (ok_some he :) ((leads_shallow 14903).trans (leads_au [(900, 2), (901, 14901), (902, 14902), (903, 14903)] (l := [(2, .c (.ptr 900 0))]) (st' := [(900, .rc [.int .i64 r1_.1, .own 901 false, .own 902 false, .int .i64 r1_.2.1, .own 903 false]), (901, .sl 3 y0_ r1_.2.2.1 .shallow), (902, .sl 3 y0_ r1_.2.2.2.1 .shallow), (903, .sl 23 (.sl y0_) r1_.2.2.2.2 .shallow)])))
 ·refine wkSeq (impl_Rule_canonical_j1 (a0_0, (a0_1, (a0_2, (a0_3, a0_4))))) (fun i2 => (envOf [(1, .c (.ptr 10001000 0)), (2, .c (.ptr 10001001 0)), (3, .c (.ptr 10001002 0))], [(10001000, .rc [.int .i64 (a0_0, (a0_1, (a0_2, (a0_3, a0_4)))).1, .imm y0_ (a0_0, (a0_1, (a0_2, (a0_3, a0_4)))).2.1, .imm y0_ (a0_0, (a0_1, (a0_2, (a0_3, a0_4)))).2.2.1, .int .i64 (a0_0, (a0_1, (a0_2, (a0_3, a0_4)))).2.2.2.1, .imm (.sl y0_) (a0_0, (a0_1, (a0_2, (a0_3, a0_4)))).2.2.2.2]), (10001001, .rc [.int .i64 (0:Int), .nil, .nil, .int .i64 (0:Int), .nil]), (10001002, .rc [.own 10001003 false]), (10001003, .sl 3 y0_ i2 .shallow)])) he ?_ ?_
  ·rintro i2 he
   refine go_bind he fun r2_ he => ?_
   refine wkSeq (impl_Rule_canonical_j2 (a0_0, (a0_1, (a0_2, (a0_3, a0_4)))) r2_) (fun i_1 => (envOf [(1, .c (.ptr 10002000 0)), (2, .c (.ptr 10002001 0)), (5, .c (.fn 54 [10002002])), (6, .c (.ptr 10002003 0))], [(10002000, .rc [.int .i64 (a0_0, (a0_1, (a0_2, (a0_3, a0_4)))).1, .imm y0_ (a0_0, (a0_1, (a0_2, (a0_3, a0_4)))).2.1, .imm y0_ (a0_0, (a0_1, (a0_2, (a0_3, a0_4)))).2.2.1, .int .i64 (a0_0, (a0_1, (a0_2, (a0_3, a0_4)))).2.2.2.1, .imm (.sl y0_) (a0_0, (a0_1, (a0_2, (a0_3, a0_4)))).2.2.2.2]), (10002001, .rc [.int .i64 (0:Int), .nil, .nil, .int .i64 (0:Int), .nil]), (10002002, .rc [.own 10002004 false]), (10002003, .rc [.int .i64 (a0_0, (a0_1, (a0_2, (a0_3, a0_4)))).1, .own 10002005 false, .nil, .int .i64 (a0_0, (a0_1, (a0_2, (a0_3, a0_4)))).2.2.2.1, .nil]), (10002004, .sl 3 y0_ r2_ .shallow), (10002005, .sl 3 y0_ i_1 .shallow)])) he ?_ ?_
   ·rintro i_1 he
    refine wkSeq (impl_Rule_canonical_j3 (a0_0, (a0_1, (a0_2, (a0_3, a0_4)))) r2_ i_1) (fun i_2 => (envOf [(1, .c (.iptr y5_ (a0_0, (a0_1, (a0_2, (a0_3, a0_4)))) 0)), (2, .c (.ptr 10003000 0)), (5, .c (.fn 54 [10003001])), (6, .c (.ptr 10003002 0))], [(10003000, .rc [.int .i64 (0:Int), .nil, .nil, .int .i64 (0:Int), .nil]), (10003001, .rc [.own 10003003 false]), (10003002, .rc [.int .i64 (a0_0, (a0_1, (a0_2, (a0_3, a0_4)))).1, .own 10003004 false, .own 10003005 false, .int .i64 (a0_0, (a0_1, (a0_2, (a0_3, a0_4)))).2.2.2.1, .nil]), (10003003, .sl 3 y0_ r2_ .shallow), (10003004, .sl 3 y0_ i_1 .shallow), (10003005, .sl 3 y0_ i_2 .shallow)])) he ?_ ?_
    ·rintro i_2 he
     refine wkSeq (impl_Rule_canonical_j4 (a0_0, (a0_1, (a0_2, (a0_3, a0_4)))) i_1 i_2) (fun i_41 => (envOf [(2, .c (.ptr 10005000 0)), (6, .c (.ptr 10005001 0))], [(10005000, .rc [.int .i64 (0:Int), .nil, .nil, .int .i64 (0:Int), .nil]), (10005001, .rc [.int .i64 (a0_0, (a0_1, (a0_2, (a0_3, a0_4)))).1, .own 10005002 false, .own 10005003 false, .int .i64 (a0_0, (a0_1, (a0_2, (a0_3, a0_4)))).2.2.2.1, .own 10005004 false]), (10005002, .sl 3 y0_ i_1 .shallow), (10005003, .sl 3 y0_ i_2 .shallow), (10005004, .sl 23 (.sl y0_) i_41 .shallow)])) he ?_ ?_
     ·rintro i_41 he
      refine go_bind he fun r9_ he => ?_
      refine go_bind he fun r10_ he => ?_
      exact wkRet [(2, [900])] (ok_some he :) (leads_au [(900, 10005000), (901, 10005002), (902, 10005003), (903, 68900)])
     ·skip
      refine wkLoop (impl_Rule_canonical_l1 (a0_0, (a0_1, (a0_2, (a0_3, a0_4)))) r2_ i_1 i_2) (fun (i3, i_4) => (envOf [(2, .c (.ptr 10004000 0)), (5, .c (.fn 54 [10004001])), (6, .c (.ptr 10004002 0)), (47, .c (.imm (.sl y0_) (a0_0, (a0_1, (a0_2, (a0_3, a0_4)))).2.2.2.2)), (48, .c (.int .i64 ((a0_0, (a0_1, (a0_2, (a0_3, a0_4)))).2.2.2.2.length:Int))), (49, .c (.int .i64 i3))], [(10004000, .rc [.int .i64 (0:Int), .nil, .nil, .int .i64 (0:Int), .nil]), (10004001, .rc [.own 10004003 false]), (10004002, .rc [.int .i64 (a0_0, (a0_1, (a0_2, (a0_3, a0_4)))).1, .own 10004004 false, .own 10004005 false, .int .i64 (a0_0, (a0_1, (a0_2, (a0_3, a0_4)))).2.2.2.1, .own 10004006 false]), (10004003, .sl 3 y0_ r2_ .shallow), (10004004, .sl 3 y0_ i_1 .shallow), (10004005, .sl 3 y0_ i_2 .shallow), (10004006, .sl 23 (.sl y0_) i_4 .shallow)])) he (leads_au [(10004000, 10003000), (10004001, 10003001), (10004002, 10003002), (10004003, 10003003), (10004004, 10003004), (10004005, 10003005)]) ?_
      rintro ⟨i3, i_4⟩ _ he
      refine go_if he (fun he => ?_) fun he => ?_
      ·refine go_rq he fun he => ?_
       refine And.intro (by kernel_rfl) ?_
       obtain ⟨r8_, hq1, he⟩ := ok_bind he
       obtain ⟨hq2, he⟩ := ok_rq he
       refine And.intro ?_ (And.intro ?_ (trivial))
       ·skip
        refine And.intro ?_ trivial
        refine ⟨r8_, hq1, ?_⟩
        exact wkz_54
       ·skip
        refine ⟨r8_, hq1, ?_⟩
        refine And.intro ?_ (And.intro ?_ (trivial))
        ·skip
         exact wkz_54
        ·skip
         exact wkz_54
      ·exact ⟨_, (ok_up he :), (leads_au [(10005000, 10004000), (10005001, 10004002), (10005002, 10004004), (10005003, 10004005), (10005004, 10004006)])⟩
    ·skip
     refine go_if he (fun he => ?_) fun he => ?_
     ·refine go_bind he fun r5_ he => ?_
      exact ⟨_, he, (leads_ren [(10003000, 10002001), (10003001, 10002002), (10003002, 10002003), (10003003, 10002004), (10003004, 10002005), (10003005, 45900)] rfl rfl ⟨⟨rfl, rfl, rfl, rfl, rfl, trivial⟩, ⟨⟨⟨rfl, rfl⟩, trivial⟩, trivial⟩, ⟨rfl, ⟨⟨rfl, rfl⟩, trivial⟩, ⟨⟨rfl, rfl⟩, trivial⟩, rfl, rfl, trivial⟩, ⟨rfl, rfl⟩, ⟨rfl, rfl⟩, ⟨rfl, rfl⟩, trivial⟩ ⟨.inr ⟨10002000, rfl, ⟨rfl, by repeat (first | exact trivial | refine And.intro trivial ?_)⟩, rfl⟩, ⟨⟨rfl, rfl⟩, rfl⟩, ⟨rfl, ⟨⟨rfl, rfl⟩, trivial⟩⟩, ⟨⟨rfl, rfl⟩, rfl⟩, trivial⟩)⟩
     ·exact ⟨_, he, (leads_ren [(10003000, 10002001), (10003001, 10002002), (10003002, 10002003), (10003003, 10002004), (10003004, 10002005)] rfl rfl ⟨⟨rfl, rfl, rfl, rfl, rfl, trivial⟩, ⟨⟨⟨rfl, rfl⟩, trivial⟩, trivial⟩, ⟨rfl, ⟨⟨rfl, rfl⟩, trivial⟩, ⟨rfl, trivial⟩, rfl, rfl, trivial⟩, ⟨rfl, rfl⟩, ⟨rfl, rfl⟩, trivial, trivial⟩ ⟨.inr ⟨10002000, rfl, ⟨rfl, by repeat (first | exact trivial | refine And.intro trivial ?_)⟩, rfl⟩, ⟨⟨rfl, rfl⟩, rfl⟩, ⟨rfl, ⟨⟨rfl, rfl⟩, trivial⟩⟩, ⟨⟨rfl, rfl⟩, rfl⟩, trivial⟩)⟩
   ·skip
    refine And.intro (by kernel_rfl) ?_
    obtain ⟨r4_, hq1, he⟩ := ok_bind he
    refine And.intro ?_ (And.intro ?_ (And.intro ?_ (And.intro ?_ (trivial))))
    ·skip
     refine And.intro ?_ (And.intro ?_ (And.intro ?_ (trivial)))
     ·exact wkz_62
     ·exact wkz_64
     ·exact wkz_65
    ·skip
     refine And.intro ?_ (And.intro ?_ (And.intro ?_ (And.intro ?_ (trivial))))
     ·exact wkz_62
     ·skip
      refine ⟨r4_, hq1, ?_⟩
      refine And.intro ?_ (And.intro ?_ (And.intro ?_ (trivial)))
      ·skip
       exact wkz_57
      ·skip
       exact wkz_57
      ·skip
       exact wkz_66
     ·exact wkz_67
     ·exact wkz_68
    ·skip
     refine And.intro ?_ (And.intro ?_ (And.intro ?_ (trivial)))
     ·exact wkz_64
     ·exact wkz_67
     ·skip
      refine And.intro ?_ (And.intro ?_ (trivial))
      ·exact wkz_63
      ·skip
       refine And.intro ?_ (And.intro ?_ (trivial))
       ·exact wkz_58
       ·exact wkz_60
    ·skip
     refine And.intro ?_ (And.intro ?_ (And.intro ?_ (trivial)))
     ·exact wkz_65
     ·exact wkz_68
     ·skip
      refine And.intro ?_ (And.intro ?_ (trivial))
      ·exact wkz_63
      ·skip
       refine And.intro ?_ (And.intro ?_ (trivial))
       ·exact wkz_58
       ·exact wkz_60
  ·skip
   refine wkLoop (impl_Rule_canonical_l2 (a0_0, (a0_1, (a0_2, (a0_3, a0_4))))) (fun (i, i1) => (envOf [(1, .c (.ptr 10000000 0)), (2, .c (.ptr 10000001 0)), (3, .c (.ptr 10000002 0)), (16, .c (.int .i64 ((a0_0, (a0_1, (a0_2, (a0_3, a0_4)))).2.1.length:Int))), (17, .c (.int .i64 i))], [(10000000, .rc [.int .i64 (a0_0, (a0_1, (a0_2, (a0_3, a0_4)))).1, .imm y0_ (a0_0, (a0_1, (a0_2, (a0_3, a0_4)))).2.1, .imm y0_ (a0_0, (a0_1, (a0_2, (a0_3, a0_4)))).2.2.1, .int .i64 (a0_0, (a0_1, (a0_2, (a0_3, a0_4)))).2.2.2.1, .imm (.sl y0_) (a0_0, (a0_1, (a0_2, (a0_3, a0_4)))).2.2.2.2]), (10000001, .rc [.int .i64 (0:Int), .nil, .nil, .int .i64 (0:Int), .nil]), (10000002, .rc [.own 10000003 false]), (10000003, .sl 3 y0_ i1 .shallow)])) he (leads_au [(10000000, 1), (10000001, 2), (10000002, 3)]) ?_
   rintro ⟨i, i1⟩ _ he
   refine go_if he (fun he => ?_) fun he => ?_
   ·refine go_rq he fun he => ?_
    refine go_rq he fun he => ?_
    exact ⟨_, (ok_some he :), (leads_au [(10000003, 23)])⟩
   ·exact ⟨_, (ok_up he :), (leads_au [(10001000, 10000000), (10001001, 10000001), (10001002, 10000002), (10001003, 10000003)])⟩

noncomputable def c_impl_CanonicalRule : Con := fun
  | [.agg [.imm (.int .i64) m_0, .imm (.pair (.int .i64) (.pair (.sl (.int .i64)) (.pair (.sl (.int .i64)) (.pair (.int .i64) (.sl (.sl (.int .i64))))))) m_1], .c (.int .i64 rule)], [] => .opt _ (impl_CanonicalRule (m_0, m_1) rule) (fun r => .ret (.tup [.agg [.int .i64 r.2.1, .own 901 false, .own 902 false, .int .i64 r.2.2.1, .own 903 false], .c (.bool r.1)]) [(900, .rc [.int .i64 r.2.1, .own 901 false, .own 902 false, .int .i64 r.2.2.1, .own 903 false]), (901, .sl 3 y0_ r.2.2.2.1 .shallow), (902, .sl 3 y0_ r.2.2.2.2.1 .shallow), (903, .sl 23 (.sl y0_) r.2.2.2.2.2 .shallow)])
  | _, _ => .fail

noncomputable def C_impl_CanonicalRule : Cfg := { y := tys, n := 22, h := 0, tab := [(22, c_impl_ModelValid), (23, c_impl_isRule), (24, c_impl_Rule_canonical)] }

theorem wkz_69 {P : Prop} (h : P := by
  exact wkRet [(4, [900]), (5, [])] (ok_some he :) (leads_au [(900, 4)])) : P := h

theorem k_impl_CanonicalRule : Entry Try.prog 6 c_impl_CanonicalRule := by
 refine wkEnt (C := C_impl_CanonicalRule) Try.f6 (wkTab k_impl_ModelValid (wkTab k_impl_isRule (wkTab k_impl_Rule_canonical wkNil))) fun _ a b k he => ?_
 unfold c_impl_CanonicalRule at he; split at he; rotate_left; exact he.elim
 rename_i m_0 m_1 rule
 refine wkGo0 he fun he => ?_
 refine go_bind he fun r1_ he => ?_
 refine go_if2 he (fun he => ?_) fun he => ?_
 ·refine go_bind he fun r2_ he => ?_
  refine go_if he (fun he => ?_) fun he => ?_
  ·exact wkz_69
  ·refine go_rq he fun he => ?_
   refine go_bind he fun r3_ he => ?_
   exact wkRet [(4, [900]), (5, [])] (ok_some he :) (leads_au [(900, 4), (901, 22901), (902, 22902), (903, 22903)])
 ·exact wkz_69

noncomputable def c_spec_l6Vars : Con := fun
  | [.agg [.imm (.int .i64) m_0, .imm (.pair (.int .i64) (.pair (.sl (.int .i64)) (.pair (.sl (.int .i64)) (.pair (.int .i64) (.sl (.sl (.int .i64))))))) m_1], .c (.imm (.int .i64) list_)], [] => .opt _ (spec_l6Vars (m_0, m_1) list_) (fun r => .ret (.c (.bool r)) [])
  | _, _ => .fail

noncomputable def C_spec_l6Vars : Cfg := { y := tys, n := 45, h := 0, tab := [] }

theorem k_spec_l6Vars : Entry Try.prog 79 c_spec_l6Vars := by
 refine wkEnt (C := C_spec_l6Vars) Try.f79 wkNil fun _ a b k he => ?_
 unfold c_spec_l6Vars at he; split at he; rotate_left; exact he.elim
 rename_i m_0 m_1 list_
 refine wkGo0 he fun he => ?_
 refine wkLoop (spec_l6Vars_l1 (m_0, m_1) list_) (fun i => (envOf [(1, .c (.imm y0_ list_)), (2, .c (.ptr 10000000 0)), (5, .c (.int .i64 i))], [(10000000, .rc [.imm y0_ (m_0, m_1).1, .imm y5_ (m_0, m_1).2])])) he (leads_au [(10000000, 2)]) ?_
 rintro i _ he
 refine go_if he (fun he => ?_) fun he => ?_
 ·refine And.intro (by kernel_rfl) ?_
  refine go_rq he fun he => ?_
  refine go_if2 he (fun he => ?_) fun he => ?_
  ·refine go_rq he fun he => ?_
   refine go_if he (fun he => ?_) fun he => ?_
   ·exact wkz_1
   ·refine wkLoop (spec_l6Vars_l2 list_ i) (fun k_ => (envOf [(1, .c (.imm y0_ list_)), (2, .c (.ptr 10001000 0)), (5, .c (.int .i64 i)), (6, .c (.int .i64 k_))], [(10001000, .rc [.imm y0_ (m_0, m_1).1, .imm y5_ (m_0, m_1).2])])) he (leads_au [(10001000, 10000000)]) ?_
    rintro k_ _ he
    refine go_if he (fun he => ?_) fun he => ?_
    ·refine And.intro (by kernel_rfl) ?_
     refine go_rq he fun he => ?_
     refine go_rq he fun he => ?_
     exact wkz_34
    ·refine go_rq he fun he => ?_
     exact ⟨_, (ok_some he :), (leads_au [(10000000, 10001000)])⟩
  ·exact wkz_1
 ·exact wkz_1

noncomputable def c_spec_l6Linear : Con := fun
  | [.agg [.int .i64 r__0, .imm (.int .i64) r__1, .imm (.int .i64) r__2, .int .i64 r__3, .imm (.sl (.int .i64)) r__4]], [] => .opt _ (spec_l6Linear (r__0, (r__1, (r__2, (r__3, r__4))))) (fun r => .ret (.c (.bool r)) [])
  | _, _ => .fail

noncomputable def C_spec_l6Linear : Cfg := { y := tys, n := 50, h := 0, tab := [] }

theorem wkz_70 {P : Prop} (h : P := by
  refine go_if he (fun he => ?_) fun he => ?_
  ·exact wkz_39
  ·exact wkz_4) : P := h

theorem k_spec_l6Linear : Entry Try.prog 80 c_spec_l6Linear := by
 refine wkEnt (C := C_spec_l6Linear) Try.f80 wkNil fun _ a b k he => ?_
 unfold c_spec_l6Linear at he; split at he; rotate_left; exact he.elim
 rename_i r__0 r__1 r__2 r__3 r__4
 refine wkGo0 he fun he => ?_
 refine wkLoop (spec_l6Linear_l1 (r__0, (r__1, (r__2, (r__3, r__4))))) (fun i => (envOf [(1, .c (.ptr 10000000 0)), (3, .c (.int .i64 i))], [(10000000, .rc [.int .i64 (r__0, (r__1, (r__2, (r__3, r__4)))).1, .imm y0_ (r__0, (r__1, (r__2, (r__3, r__4)))).2.1, .imm y0_ (r__0, (r__1, (r__2, (r__3, r__4)))).2.2.1, .int .i64 (r__0, (r__1, (r__2, (r__3, r__4)))).2.2.2.1, .imm (.sl y0_) (r__0, (r__1, (r__2, (r__3, r__4)))).2.2.2.2])])) he (leads_au [(10000000, 1)]) ?_
 rintro i _ he
 refine go_if he (fun he => ?_) fun he => ?_
 ·refine go_rq he fun he => ?_
  refine go_if2 he (fun he => ?_) fun he => ?_
  ·refine go_rq he fun he => ?_
   refine go_if2 he (fun he => ?_) fun he => ?_
   ·refine go_rq he fun he => ?_
    exact wkz_70
   ·exact wkz_39
  ·exact wkz_39
 ·refine go_if he (fun he => ?_) fun he => ?_
  ·refine go_if he (fun he => ?_) fun he => ?_
   ·exact wkz_39
   ·exact wkz_39
  ·exact wkz_39

noncomputable def c_spec_l6Table : Con := fun
  | [.agg [.int .i64 r__0, .imm (.int .i64) r__1, .imm (.int .i64) r__2, .int .i64 r__3, .imm (.sl (.int .i64)) r__4]], [] => .opt _ (spec_l6Table (r__0, (r__1, (r__2, (r__3, r__4))))) (fun r => .ret (.c (.bool r)) [])
  | _, _ => .fail

noncomputable def C_spec_l6Table : Cfg := { y := tys, n := 56, h := 0, tab := [] }

theorem k_spec_l6Table : Entry Try.prog 81 c_spec_l6Table := by
 refine wkEnt (C := C_spec_l6Table) Try.f81 wkNil fun _ a b k he => ?_
 unfold c_spec_l6Table at he; split at he; rotate_left; exact he.elim
 rename_i r__0 r__1 r__2 r__3 r__4
 refine wkGo0 he fun he => ?_
 refine wkLoop (spec_l6Table_l1 (r__0, (r__1, (r__2, (r__3, r__4))))) (fun i => (envOf [(1, .c (.ptr 10000000 0)), (3, .c (.int .i64 i))], [(10000000, .rc [.int .i64 (r__0, (r__1, (r__2, (r__3, r__4)))).1, .imm y0_ (r__0, (r__1, (r__2, (r__3, r__4)))).2.1, .imm y0_ (r__0, (r__1, (r__2, (r__3, r__4)))).2.2.1, .int .i64 (r__0, (r__1, (r__2, (r__3, r__4)))).2.2.2.1, .imm (.sl y0_) (r__0, (r__1, (r__2, (r__3, r__4)))).2.2.2.2])])) he (leads_au [(10000000, 1)]) ?_
 rintro i _ he
 refine go_if he (fun he => ?_) fun he => ?_
 ·refine And.intro (by kernel_rfl) ?_
  refine go_rq he fun he => ?_
  refine go_if he (fun he => ?_) fun he => ?_
  ·exact wkz_39
  ·refine wkLoop (spec_l6Table_l2 (r__0, (r__1, (r__2, (r__3, r__4)))) i) (fun k_ => (envOf [(1, .c (.ptr 10001000 0)), (3, .c (.int .i64 i)), (4, .c (.int .i64 k_))], [(10001000, .rc [.int .i64 (r__0, (r__1, (r__2, (r__3, r__4)))).1, .imm y0_ (r__0, (r__1, (r__2, (r__3, r__4)))).2.1, .imm y0_ (r__0, (r__1, (r__2, (r__3, r__4)))).2.2.1, .int .i64 (r__0, (r__1, (r__2, (r__3, r__4)))).2.2.2.1, .imm (.sl y0_) (r__0, (r__1, (r__2, (r__3, r__4)))).2.2.2.2])])) he (leads_au [(10001000, 10000000)]) ?_
   rintro k_ _ he
   refine go_rq he fun he => ?_
   refine go_if he (fun he => ?_) fun he => ?_
   ·refine go_rq he fun he => ?_
    refine go_rq he fun he => ?_
    refine go_if2 he (fun he => ?_) fun he => ?_
    ·refine go_rq he fun he => ?_
     refine go_rq he fun he => ?_
     exact wkz_70
    ·exact wkz_39
   ·refine go_rq he fun he => ?_
    exact ⟨_, (ok_some he :), (leads_au [(10000000, 10001000)])⟩
 ·exact wkz_39

noncomputable def c_spec_l6Rule : Con := fun
  | [.agg [.imm (.int .i64) m_0, .imm (.pair (.int .i64) (.pair (.sl (.int .i64)) (.pair (.sl (.int .i64)) (.pair (.int .i64) (.sl (.sl (.int .i64))))))) m_1], .agg [.int .i64 r__0, .imm (.int .i64) r__1, .imm (.int .i64) r__2, .int .i64 r__3, .imm (.sl (.int .i64)) r__4]], [] => .opt _ (spec_l6Rule (m_0, m_1) (r__0, (r__1, (r__2, (r__3, r__4))))) (fun r => .ret (.c (.bool r)) [])
  | _, _ => .fail

noncomputable def C_spec_l6Rule : Cfg := { y := tys, n := 55, h := 0, tab := [(79, c_spec_l6Vars), (80, c_spec_l6Linear), (81, c_spec_l6Table)], cut := [3] }

theorem wkz_71 {P : Prop} (h : P := by
  refine go_bind he fun r2_ he => ?_
  exact wkz_1) : P := h

theorem wkz_72 {P : Prop} (h : P := by
  refine go_if he (fun he => ?_) fun he => ?_
  ·refine go_if he (fun he => ?_) fun he => ?_
   ·exact wkz_1
   ·exact ⟨_, he, (leads_au [(10000000, 3)])⟩
  ·exact ⟨_, he, (leads_au [(10000000, 3)])⟩) : P := h

theorem k_spec_l6Rule : Entry Try.prog 58 c_spec_l6Rule := by
 refine wkEnt (C := C_spec_l6Rule) Try.f58 (wkTab k_spec_l6Vars (wkTab k_spec_l6Linear (wkTab k_spec_l6Table wkNil))) fun _ a b k he => ?_
 unfold c_spec_l6Rule at he; split at he; rotate_left; exact he.elim
 rename_i m_0 m_1 r__0 r__1 r__2 r__3 r__4
 refine wkGo0 he fun he => ?_
 refine wkSeq (spec_l6Rule_j1 (r__0, (r__1, (r__2, (r__3, r__4))))) (fun _ => (envOf [(3, .c (.ptr 10000000 0))], [(10000000, .rc [.int .i64 (r__0, (r__1, (r__2, (r__3, r__4)))).1, .imm y0_ (r__0, (r__1, (r__2, (r__3, r__4)))).2.1, .imm y0_ (r__0, (r__1, (r__2, (r__3, r__4)))).2.2.1, .int .i64 (r__0, (r__1, (r__2, (r__3, r__4)))).2.2.2.1, .imm (.sl y0_) (r__0, (r__1, (r__2, (r__3, r__4)))).2.2.2.2])])) he ?_ ?_
 ·rintro ⟨⟩ he
  refine go_if he (fun he => ?_) fun he => ?_
  ·exact wkz_71
  ·refine go_if he (fun he => ?_) fun he => ?_
   ·exact wkz_1
   ·refine go_if he (fun he => ?_) fun he => ?_
    ·refine go_bind he fun r3_ he => ?_
     exact wkz_1
    ·refine go_if he (fun he => ?_) fun he => ?_
     ·exact wkz_1
     ·exact wkz_1
 ·skip
  refine go_bind he fun r1_ he => ?_
  refine go_if2 he (fun he => ?_) fun he => ?_
  ·refine go_if he (fun he => ?_) fun he => ?_
   ·refine go_if2 he (fun he => ?_) fun he => ?_
    ·refine go_if2 he (fun he => ?_) fun he => ?_
     ·exact wkz_72
     ·exact wkz_1
    ·exact wkz_1
   ·exact wkz_72
  ·exact wkz_1

noncomputable def c_spec_ModelValid : Con := fun
  | [.agg [.imm (.int .i64) a0_0, .imm (.pair (.int .i64) (.pair (.sl (.int .i64)) (.pair (.sl (.int .i64)) (.pair (.int .i64) (.sl (.sl (.int .i64))))))) a0_1]], [] => .opt _ (spec_ModelValid (a0_0, a0_1)) (fun r => .ret (.c (.bool r)) [])
  | _, _ => .fail

noncomputable def C_spec_ModelValid_s1 : Sched := .alt 6 (.first 7 .done) .stop
noncomputable def C_spec_ModelValid : Cfg := { y := tys, n := 74, h := 0, tab := [(58, c_spec_l6Rule)], cut := [8], sched := [(13, (wkFs [1, 3] (.alt 0 (.alt 2 (wkFs [4, 5] C_spec_ModelValid_s1) .stop) (.alt 2 (wkFs [4, 5] (.alt 0 C_spec_ModelValid_s1 .stop)) .stop))))] }

theorem k_spec_ModelValid : Entry Try.prog 25 c_spec_ModelValid := by
 refine wkEnt (C := C_spec_ModelValid) Try.f25 (wkTab k_spec_l6Rule wkNil) fun _ a b k he => ?_
 unfold c_spec_ModelValid at he; split at he; rotate_left; exact he.elim
 rename_i a0_0 a0_1
 refine wkGo0 he fun he => ?_
 refine wkSeq (spec_ModelValid_j1 (a0_0, a0_1)) (fun i2 => (envOf [(1, .c (.ptr 10001000 0)), (3, .c (.int .i64 i2))], [(10001000, .rc [.imm y0_ (a0_0, a0_1).1, .imm y5_ (a0_0, a0_1).2])])) he ?_ ?_
 ·rintro i2 he
  refine go_if2 he (fun he => ?_) fun he => ?_
  ·refine go_if2 he (fun he => ?_) fun he => ?_
   ·refine go_if2 he (fun he => ?_) fun he => ?_
    ·refine go_if he (fun he => ?_) fun he => ?_
     ·exact wkz_39
     ·refine wkLoop (spec_ModelValid_l1 (a0_0, a0_1)) (fun i3 => (envOf [(1, .c (.ptr 10002000 0)), (5, .c (.int .i64 i3))], [(10002000, .rc [.imm y0_ (a0_0, a0_1).1, .imm y5_ (a0_0, a0_1).2])])) he (leads_au [(10002000, 10001000)]) ?_
      rintro i3 _ he
      refine go_if he (fun he => ?_) fun he => ?_
      ·refine And.intro (by kernel_rfl) ?_
       obtain ⟨hq1, he⟩ := ok_rq he
       obtain ⟨r2_, hq2, he⟩ := ok_bind he
       refine And.intro ?_ (And.intro ?_ (trivial))
       ·skip
        refine And.intro ?_ trivial
        refine And.intro hq1 ?_
        refine And.intro ?_ trivial
        refine ⟨r2_, hq2, ?_⟩
        exact wkz_70
       ·skip
        refine And.intro hq1 ?_
        refine And.intro ?_ trivial
        refine And.intro ?_ trivial
        refine ⟨r2_, hq2, ?_⟩
        exact wkz_70
      ·exact wkz_39
    ·exact wkz_39
   ·exact wkz_39
  ·exact wkz_39
 ·skip
  refine wkLoop (spec_ModelValid_l2 (a0_0, a0_1)) (fun (i, i1) => (envOf [(1, .c (.ptr 10000000 0)), (3, .c (.int .i64 i)), (4, .c (.int .i64 i1))], [(10000000, .rc [.imm y0_ (a0_0, a0_1).1, .imm y5_ (a0_0, a0_1).2])])) he (leads_au [(10000000, 1)]) ?_
  rintro ⟨i, i1⟩ _ he
  refine go_if he (fun he => ?_) fun he => ?_
  ·refine go_if he (fun he => ?_) fun he => ?_
   ·refine go_rq he fun he => ?_
    refine go_if2 he (fun he => ?_) fun he => ?_
    ·refine go_rq he fun he => ?_
     refine go_if he (fun he => ?_) fun he => ?_
     ·exact wkz_39
     ·exact wkz_8
    ·exact wkz_39
   ·exact ⟨_, (ok_up he :), (leads_au [(10001000, 10000000)])⟩
  ·exact ⟨_, (ok_up he :), (leads_au [(10001000, 10000000)])⟩

noncomputable def c_spec_l10Order : Con := fun
  | [.c (.imm (.int .i64) list_)], [] => .opt _ (spec_l10Order list_) (fun r => .ret (.c (.own 900 false)) [(900, .sl 3 y0_ r .shallow)])
  | _, _ => .fail

noncomputable def C_spec_l10Order : Cfg := { y := tys, n := 49, h := 0, tab := [], cut := [8] }

theorem k_spec_l10Order : Entry Try.prog 59 c_spec_l10Order := by
 refine wkEnt (C := C_spec_l10Order) Try.f59 wkNil fun _ a b k he => ?_
 unfold c_spec_l10Order at he; split at he; rotate_left; exact he.elim
 rename_i list_
 refine wkGo0 he fun he => ?_
 refine wkLoop (spec_l10Order_l1 list_) (fun (i, out) => (envOf [(0, .c (.imm y0_ list_)), (3, .c (.own 10000000 false)), (4, .c (.int .i64 i))], [(10000000, .sl 3 y0_ out .shallow)])) he (leads_au [(10000000, 7)]) ?_
 rintro ⟨i, out⟩ _ he
 refine go_if he (fun he => ?_) fun he => ?_
 ·refine wkSeq (spec_l10Order_j1 i out) (fun k_3 => (envOf [(0, .c (.imm y0_ list_)), (3, .c (.own 10004000 false)), (4, .c (.int .i64 i)), (5, .c (.int .i64 k_3))], [(10004000, .sl 3 y0_ out .shallow)])) he ?_ ?_
  ·rintro k_3 he
   refine go_rq he fun he => ?_
   refine go_rq he fun he => ?_
   refine go_rq he fun he => ?_
   refine go_rq he fun he => ?_
   refine go_rq he fun he => ?_
   refine go_rq he fun he => ?_
   exact ⟨_, (ok_some he :), (leads_au [(10000000, 47)])⟩
  ·skip
   refine wkLoop (spec_l10Order_l2 list_ i out) (fun k_2 => (envOf [(0, .c (.imm y0_ list_)), (3, .c (.own 10003000 false)), (4, .c (.int .i64 i)), (5, .c (.int .i64 k_2))], [(10003000, .sl 3 y0_ out .shallow)])) he (leads_au [(10003000, 10000000)]) ?_
   rintro k_2 _ he
   refine And.intro (by kernel_rfl) ?_
   refine go_if he (fun he => ?_) fun he => ?_
   ·refine go_rq he fun he => ?_
    refine go_rq he fun he => ?_
    refine go_rq he fun he => ?_
    refine go_rq he fun he => ?_
    refine go_if he (fun he => ?_) fun he => ?_
    ·exact wkz_4
    ·exact ⟨_, (ok_up he :), (leads_au [(10004000, 10003000)])⟩
   ·exact ⟨_, (ok_up he :), (leads_au [(10004000, 10003000)])⟩
 ·exact wkRet [(2, [])] (ok_some he :) (leads_au [(900, 10000000)])

noncomputable def c_spec_l6Ints : Con := fun
  | [.c (.imm (.int .i64) a), .c (.imm (.int .i64) b)], [] => .opt _ (spec_l6Ints a b) (fun r => .ret (.c (.bool r)) [])
  | _, _ => .fail

noncomputable def C_spec_l6Ints : Cfg := { y := tys, n := 26, h := 0, tab := [] }

theorem k_spec_l6Ints : Entry Try.prog 82 c_spec_l6Ints := by
 refine wkEnt (C := C_spec_l6Ints) Try.f82 wkNil fun _ a b k he => ?_
 unfold c_spec_l6Ints at he; split at he; rotate_left; exact he.elim
 rename_i a b
 refine wkGo0 he fun he => ?_
 refine go_if he (fun he => ?_) fun he => ?_
 ·exact wkz_28
 ·refine wkLoop (spec_l6Ints_l1 a b) (fun i => (envOf [(0, .c (.imm y0_ a)), (1, .c (.imm y0_ b)), (5, .c (.int .i64 i))], [])) he (leads_au []) ?_
  exact wkz_49

noncomputable def c_spec_l10Less : Con := fun
  | [.c (.imm (.int .i64) a), .c (.imm (.int .i64) b)], [] => .opt _ (spec_l10Less a b) (fun r => .ret (.c (.bool r)) [])
  | _, _ => .fail

noncomputable def C_spec_l10Less : Cfg := { y := tys, n := 36, h := 0, tab := [] }

theorem k_spec_l10Less : Entry Try.prog 83 c_spec_l10Less := by
 refine wkEnt (C := C_spec_l10Less) Try.f83 wkNil fun _ a b k he => ?_
 unfold c_spec_l10Less at he; split at he; rotate_left; exact he.elim
 rename_i a b
 refine wkGo0 he fun he => ?_
 refine wkLoop (spec_l10Less_l1 a b) (fun i => (envOf [(0, .c (.imm y0_ a)), (1, .c (.imm y0_ b)), (5, .c (.int .i64 i))], [])) he (leads_au []) ?_
 rintro i _ he
 refine go_if he (fun he => ?_) fun he => ?_
 ·refine go_if he (fun he => ?_) fun he => ?_
  ·refine And.intro (by kernel_rfl) ?_
   refine go_rq he fun he => ?_
   refine go_rq he fun he => ?_
   refine go_if he (fun he => ?_) fun he => ?_
   ·refine And.intro (by kernel_rfl) ?_
    exact wkz_47
   ·exact wkz_4
  ·exact wkz_28
 ·exact wkz_28

noncomputable def c_spec_l10Insert : Con := fun
  | [.c (.imm (.sl (.int .i64)) rows), .c (.imm (.int .i64) row)], [] => .opt _ (spec_l10Insert rows row) (fun r => .ret (.c (.imm (.sl y0_) r)) [])
  | _, _ => .fail

noncomputable def C_spec_l10Insert : Cfg := { y := tys, n := 50, h := 0, tab := [(82, c_spec_l6Ints), (83, c_spec_l10Less)], cut := [11, 12] }

theorem k_spec_l10Insert : Entry Try.prog 60 c_spec_l10Insert := by
 refine wkEnt (C := C_spec_l10Insert) Try.f60 (wkTab k_spec_l6Ints (wkTab k_spec_l10Less wkNil)) fun _ a b k he => ?_
 unfold c_spec_l10Insert at he; split at he; rotate_left; exact he.elim
 rename_i rows row
 refine wkGo0 he fun he => ?_
 refine wkSeq (spec_l10Insert_j1 row) (fun (done3, out3) => (envOf [(1, .c (.imm y0_ row)), (5, .c (.own 10003000 false)), (6, .c (.bool done3))], [(10003000, .sl 23 (.sl y0_) out3 .shallow)])) he ?_ ?_
 ·rintro ⟨done3, out3⟩ he
  refine go_if he (fun he => ?_) fun he => ?_
  ·refine go_rq he fun he => ?_
   exact wkRet [(4, [])] (ok_some he :) ((leads_freeze [48]).trans (leads_au [] (l := [(4, .c (.imm (.sl y0_) (out3 ++ [row])))]) (st' := [])))
  ·exact wkRet [(4, [])] (ok_some he :) ((leads_freeze [10003000]).trans (leads_au [] (l := [(4, .c (.imm (.sl y0_) out3))]) (st' := [])))
 ·skip
  refine wkLoop (spec_l10Insert_l1 rows row) (fun (done, i, out1) => (envOf [(0, .c (.imm (.sl y0_) rows)), (1, .c (.imm y0_ row)), (5, .c (.own 10000000 false)), (6, .c (.bool done)), (7, .c (.int .i64 i))], [(10000000, .sl 23 (.sl y0_) out1 .shallow)])) he (leads_au [(10000000, 8)]) ?_
  rintro ⟨done, i, out1⟩ _ he
  refine go_if he (fun he => ?_) fun he => ?_
  ·refine go_rq he fun he => ?_
   refine go_bind he fun r3_ he => ?_
   refine go_if he (fun he => ?_) fun he => ?_
   ·exact wkz_1
   ·refine wkSeq (spec_l10Insert_j2 rows i) (fun (done2, out2) => (envOf [(0, .c (.imm (.sl y0_) rows)), (1, .c (.imm y0_ row)), (5, .c (.own 10002000 false)), (6, .c (.bool done2)), (7, .c (.int .i64 i))], [(10002000, .sl 23 (.sl y0_) out2 .shallow)])) he ?_ ?_
    ·rintro ⟨done2, out2⟩ he
     refine go_rq he fun he => ?_
     refine go_rq he fun he => ?_
     refine go_rq he fun he => ?_
     exact ⟨_, (ok_some he :), (leads_au [(10000000, 42)])⟩
    ·skip
     refine go_if he (fun he => ?_) fun he => ?_
     ·refine go_rq he fun he => ?_
      refine go_bind he fun r4_ he => ?_
      refine go_if he (fun he => ?_) fun he => ?_
      ·refine go_rq he fun he => ?_
       exact ⟨_, he, (leads_au [(10002000, 35)])⟩
      ·exact ⟨_, he, (leads_au [(10002000, 10000000)])⟩
     ·exact ⟨_, he, (leads_au [(10002000, 10000000)])⟩
  ·exact ⟨_, (ok_up he :), (leads_au [(10003000, 10000000)])⟩

noncomputable def c_spec_l10Canonical : Con := fun
  | [.agg [.int .i64 a0_0, .imm (.int .i64) a0_1, .imm (.int .i64) a0_2, .int .i64 a0_3, .imm (.sl (.int .i64)) a0_4]], [] => .opt _ (spec_l10Canonical (a0_0, (a0_1, (a0_2, (a0_3, a0_4))))) (fun r => .ret (.agg [.int .i64 r.1, .own 901 false, .own 902 false, .int .i64 r.2.1, .imm (.sl y0_) r.2.2.1]) [(900, .rc [.int .i64 r.1, .own 901 false, .own 902 false, .int .i64 r.2.1, .imm (.sl y0_) r.2.2.1]), (901, .sl 3 y0_ r.2.2.2.1 .shallow), (902, .sl 3 y0_ r.2.2.2.2 .shallow)])
  | _, _ => .fail

noncomputable def C_spec_l10Canonical_s1 : Sched := .alt 11 (.first 12 (.alt 13 .done .stop)) .stop
noncomputable def C_spec_l10Canonical_s2 : Sched := .alt 10 C_spec_l10Canonical_s1 .stop
noncomputable def C_spec_l10Canonical_s3 : Sched := wkFs [8, 9] C_spec_l10Canonical_s2
noncomputable def C_spec_l10Canonical_s4 : Sched := .alt 7 C_spec_l10Canonical_s3 .stop
noncomputable def C_spec_l10Canonical_s5 : Sched := .alt 3 C_spec_l10Canonical_s3 .stop
noncomputable def C_spec_l10Canonical_s6 : Sched := wkFs [8, 9] (.alt 1 C_spec_l10Canonical_s2 (.alt 10 (.alt 1 C_spec_l10Canonical_s1 .stop) .stop))
noncomputable def C_spec_l10Canonical_s7 : Sched := wkFs [0, 2, 4, 5, 6] (.alt 1 (.alt 3 C_spec_l10Canonical_s4 (.alt 7 C_spec_l10Canonical_s5 .stop)) (.alt 3 (.alt 1 C_spec_l10Canonical_s4 (.alt 7 C_spec_l10Canonical_s6 .stop)) (.alt 7 (.alt 1 C_spec_l10Canonical_s5 (.alt 3 C_spec_l10Canonical_s6 .stop)) .stop)))
noncomputable def C_spec_l10Canonical_s8 : Sched := wkFs [10, 11] (.alt 12 (.alt 13 (.first 14 .done) .stop) .stop)
noncomputable def C_spec_l10Canonical : Cfg := { y := tys, n := 90, h := 0, tab := [(59, c_spec_l10Order), (60, c_spec_l10Insert)], cut := [5, 9, 11, 19], good := [60], sched := [(8, C_spec_l10Canonical_s7), (10, C_spec_l10Canonical_s7), (18, (wkFs [0, 1, 3, 6, 7, 8] (.alt 2 (wkFs [4, 5] (.alt 9 C_spec_l10Canonical_s8 .stop)) (.alt 9 (.alt 2 (wkFs [4, 5] C_spec_l10Canonical_s8) .stop) .stop))))] }

theorem wkz_73 {P : Prop} (h : P := by
  refine And.intro hq2 ?_
  refine And.intro ?_ trivial
  refine And.intro ?_ trivial
  refine And.intro hq3 ?_
  refine go_rq he fun he => ?_
  exact ⟨_, (ok_some he :), (leads_au [(10008004, 83)])⟩) : P := h

theorem wkz_74 {P : Prop} (h : P := by
  refine And.intro ?_ trivial
  refine And.intro ?_ trivial
  refine And.intro hq2 ?_
  refine And.intro ?_ trivial
  refine go_rq he fun he => ?_
  exact ⟨_, (ok_some he :), (leads_au [(10001000, 10003000), (10001001, 10003001), (10001002, 10003002), (10001003, 10003003), (10001004, 10003004), (10001005, 54)])⟩) : P := h

theorem wkz_75 {P : Prop} (h : P := by
  skip
  refine And.intro ?_ trivial
  refine And.intro hq1 ?_
  exact wkz_74) : P := h

theorem wkz_76 {P : Prop} (h : P := by
  skip
  refine And.intro ?_ (And.intro ?_ (trivial))
  ·exact wkz_75
  ·skip
   refine And.intro hq1 ?_
   refine And.intro ?_ (And.intro ?_ (trivial))
   ·skip
    exact wkz_74
   ·skip
    exact wkz_74) : P := h

theorem wkz_77 {P : Prop} (h : P := by
  refine And.intro ?_ trivial
  refine And.intro ?_ trivial
  refine And.intro hq2 ?_
  refine And.intro ?_ trivial
  exact ⟨_, he, (leads_au [(10003000, 10001000), (10003001, 10001001), (10003002, 10001002), (10003003, 10001003), (10003004, 38), (10003005, 10001005)])⟩) : P := h

theorem wkz_78 {P : Prop} (h : P := by
  skip
  refine And.intro ?_ trivial
  refine And.intro hq1 ?_
  exact wkz_77) : P := h

theorem wkz_79 {P : Prop} (h : P := by
  skip
  refine And.intro ?_ (And.intro ?_ (trivial))
  ·exact wkz_78
  ·skip
   refine And.intro hq1 ?_
   refine And.intro ?_ (And.intro ?_ (trivial))
   ·skip
    exact wkz_77
   ·skip
    exact wkz_77) : P := h

theorem k_spec_l10Canonical : Entry Try.prog 26 c_spec_l10Canonical := by
 refine wkEnt (C := C_spec_l10Canonical) Try.f26 (wkTab k_spec_l10Order (wkTab k_spec_l10Insert wkNil)) fun _ a b k he => ?_
 unfold c_spec_l10Canonical at he; split at he; rotate_left; exact he.elim
 rename_i a0_0 a0_1 a0_2 a0_3 a0_4
 refine wkGo0 he fun he => ?_
 refine go_bind he fun r1_ he => ?_
 refine wkSeq (spec_l10Canonical_j1 (a0_0, (a0_1, (a0_2, (a0_3, a0_4))))) (fun i => (envOf [(1, .c (.ptr 10000000 0)), (2, .c (.ptr 10000001 0)), (3, .c (.ptr 10000002 0)), (4, .c (.own 10000003 false))], [(10000000, .rc [.int .i64 (a0_0, (a0_1, (a0_2, (a0_3, a0_4)))).1, .imm y0_ (a0_0, (a0_1, (a0_2, (a0_3, a0_4)))).2.1, .imm y0_ (a0_0, (a0_1, (a0_2, (a0_3, a0_4)))).2.2.1, .int .i64 (a0_0, (a0_1, (a0_2, (a0_3, a0_4)))).2.2.2.1, .imm (.sl y0_) (a0_0, (a0_1, (a0_2, (a0_3, a0_4)))).2.2.2.2]), (10000001, .rc [.int .i64 (0:Int), .nil, .nil, .int .i64 (0:Int), .nil]), (10000002, .rc [.int .i64 (a0_0, (a0_1, (a0_2, (a0_3, a0_4)))).1, .nil, .nil, .int .i64 (a0_0, (a0_1, (a0_2, (a0_3, a0_4)))).2.2.2.1, .nil]), (10000003, .sl 3 y0_ i .shallow)])) he ?_ ?_
 ·rintro i he
  refine wkSeq (spec_l10Canonical_j2 (a0_0, (a0_1, (a0_2, (a0_3, a0_4)))) i) (fun (i_11, i_21) => (envOf [(1, .c (.ptr 10004000 0)), (2, .c (.ptr 10004001 0)), (3, .c (.ptr 10004002 0)), (4, .c (.own 10004003 false))], [(10004000, .rc [.int .i64 (a0_0, (a0_1, (a0_2, (a0_3, a0_4)))).1, .imm y0_ (a0_0, (a0_1, (a0_2, (a0_3, a0_4)))).2.1, .imm y0_ (a0_0, (a0_1, (a0_2, (a0_3, a0_4)))).2.2.1, .int .i64 (a0_0, (a0_1, (a0_2, (a0_3, a0_4)))).2.2.2.1, .imm (.sl y0_) (a0_0, (a0_1, (a0_2, (a0_3, a0_4)))).2.2.2.2]), (10004001, .rc [.int .i64 (0:Int), .nil, .nil, .int .i64 (0:Int), .nil]), (10004002, .rc [.int .i64 (a0_0, (a0_1, (a0_2, (a0_3, a0_4)))).1, .own 10004004 false, .own 10004005 false, .int .i64 (a0_0, (a0_1, (a0_2, (a0_3, a0_4)))).2.2.2.1, .nil]), (10004003, .sl 3 y0_ i .shallow), (10004004, .sl 3 y0_ i_11 .shallow), (10004005, .sl 3 y0_ i_21 .shallow)])) he ?_ ?_
  ·rintro ⟨i_11, i_21⟩ he
   refine wkLoop (spec_l10Canonical_l1 (a0_0, (a0_1, (a0_2, (a0_3, a0_4)))) i i_11 i_21) (fun (i2, i_4) => (envOf [(1, .c (.ptr 10005000 0)), (2, .c (.ptr 10005001 0)), (3, .c (.ptr 10005002 0)), (4, .c (.own 10005003 false)), (6, .c (.int .i64 i2))], [(10005000, .rc [.int .i64 (a0_0, (a0_1, (a0_2, (a0_3, a0_4)))).1, .imm y0_ (a0_0, (a0_1, (a0_2, (a0_3, a0_4)))).2.1, .imm y0_ (a0_0, (a0_1, (a0_2, (a0_3, a0_4)))).2.2.1, .int .i64 (a0_0, (a0_1, (a0_2, (a0_3, a0_4)))).2.2.2.1, .imm (.sl y0_) (a0_0, (a0_1, (a0_2, (a0_3, a0_4)))).2.2.2.2]), (10005001, .rc [.int .i64 (0:Int), .nil, .nil, .int .i64 (0:Int), .nil]), (10005002, .rc [.int .i64 (a0_0, (a0_1, (a0_2, (a0_3, a0_4)))).1, .own 10005004 false, .own 10005005 false, .int .i64 (a0_0, (a0_1, (a0_2, (a0_3, a0_4)))).2.2.2.1, .imm (.sl y0_) i_4]), (10005003, .sl 3 y0_ i .shallow), (10005004, .sl 3 y0_ i_11 .shallow), (10005005, .sl 3 y0_ i_21 .shallow)])) he (leads_ren [(10005000, 10004000), (10005001, 10004001), (10005002, 10004002), (10005003, 10004003), (10005004, 10004004), (10005005, 10004005)] rfl rfl ⟨⟨rfl, .inl rfl, .inl rfl, rfl, .inl rfl, trivial⟩, ⟨rfl, rfl, rfl, rfl, rfl, trivial⟩, ⟨rfl, ⟨⟨rfl, rfl⟩, trivial⟩, ⟨⟨rfl, rfl⟩, trivial⟩, rfl, .inr (.inl ⟨rfl, rfl⟩), trivial⟩, ⟨rfl, rfl⟩, ⟨rfl, rfl⟩, ⟨rfl, rfl⟩, trivial⟩ ⟨⟨⟨rfl, rfl⟩, rfl⟩, ⟨⟨rfl, rfl⟩, rfl⟩, ⟨⟨rfl, rfl⟩, rfl⟩, ⟨⟨rfl, rfl⟩, trivial⟩, rfl, trivial⟩) ?_
   rintro ⟨i2, i_4⟩ _ he
   refine go_if he (fun he => ?_) fun he => ?_
   ·refine wkSeq (spec_l10Canonical_j3 i2 i_4) (fun i8 => (envOf [(1, .c (.ptr 10009000 0)), (2, .c (.ptr 10009001 0)), (3, .c (.ptr 10009002 0)), (4, .c (.own 10009003 false)), (6, .c (.int .i64 i2)), (7, .c (.own 10009004 false))], [(10009000, .rc [.int .i64 (a0_0, (a0_1, (a0_2, (a0_3, a0_4)))).1, .imm y0_ (a0_0, (a0_1, (a0_2, (a0_3, a0_4)))).2.1, .imm y0_ (a0_0, (a0_1, (a0_2, (a0_3, a0_4)))).2.2.1, .int .i64 (a0_0, (a0_1, (a0_2, (a0_3, a0_4)))).2.2.2.1, .imm (.sl y0_) (a0_0, (a0_1, (a0_2, (a0_3, a0_4)))).2.2.2.2]), (10009001, .rc [.int .i64 (0:Int), .nil, .nil, .int .i64 (0:Int), .nil]), (10009002, .rc [.int .i64 (a0_0, (a0_1, (a0_2, (a0_3, a0_4)))).1, .own 10009005 false, .own 10009006 false, .int .i64 (a0_0, (a0_1, (a0_2, (a0_3, a0_4)))).2.2.2.1, .imm (.sl y0_) i_4]), (10009003, .sl 3 y0_ i .shallow), (10009004, .sl 3 y0_ i8 .shallow), (10009005, .sl 3 y0_ i_11 .shallow), (10009006, .sl 3 y0_ i_21 .shallow)])) he ?_ ?_
    ·rintro i8 he
     refine go_bind he fun r3_ he => ?_
     refine go_rq he fun he => ?_
     exact ⟨_, (ok_some he :), (leads_au [(10005000, 10009000), (10005001, 10009001), (10005002, 10009002), (10005003, 10009003), (10005004, 10009005), (10005005, 10009006)])⟩
    ·skip
     refine wkLoop (spec_l10Canonical_l2 (a0_0, (a0_1, (a0_2, (a0_3, a0_4)))) i i2 i_4) (fun (i6, i7) => (envOf [(1, .c (.ptr 10008000 0)), (2, .c (.ptr 10008001 0)), (3, .c (.ptr 10008002 0)), (4, .c (.own 10008003 false)), (6, .c (.int .i64 i2)), (7, .c (.own 10008004 false)), (8, .c (.int .i64 i6))], [(10008000, .rc [.int .i64 (a0_0, (a0_1, (a0_2, (a0_3, a0_4)))).1, .imm y0_ (a0_0, (a0_1, (a0_2, (a0_3, a0_4)))).2.1, .imm y0_ (a0_0, (a0_1, (a0_2, (a0_3, a0_4)))).2.2.1, .int .i64 (a0_0, (a0_1, (a0_2, (a0_3, a0_4)))).2.2.2.1, .imm (.sl y0_) (a0_0, (a0_1, (a0_2, (a0_3, a0_4)))).2.2.2.2]), (10008001, .rc [.int .i64 (0:Int), .nil, .nil, .int .i64 (0:Int), .nil]), (10008002, .rc [.int .i64 (a0_0, (a0_1, (a0_2, (a0_3, a0_4)))).1, .own 10008005 false, .own 10008006 false, .int .i64 (a0_0, (a0_1, (a0_2, (a0_3, a0_4)))).2.2.2.1, .imm (.sl y0_) i_4]), (10008003, .sl 3 y0_ i .shallow), (10008004, .sl 3 y0_ i7 .shallow), (10008005, .sl 3 y0_ i_11 .shallow), (10008006, .sl 3 y0_ i_21 .shallow)])) he (leads_au [(10008000, 10005000), (10008001, 10005001), (10008002, 10005002), (10008003, 10005003), (10008004, 63), (10008005, 10005004), (10008006, 10005005)]) ?_
     rintro ⟨i6, i7⟩ _ he
     refine go_if he (fun he => ?_) fun he => ?_
     ·refine And.intro (by kernel_rfl) ?_
      refine go_rq he fun he => ?_
      obtain ⟨hq1, he⟩ := ok_rq he
      obtain ⟨hq2, he⟩ := ok_rq he
      obtain ⟨hq3, he⟩ := ok_rq he
      refine And.intro ?_ (And.intro ?_ (trivial))
      ·skip
       refine And.intro hq1 ?_
       refine And.intro ?_ trivial
       exact wkz_73
      ·skip
       refine And.intro ?_ trivial
       refine And.intro hq1 ?_
       exact wkz_73
     ·exact ⟨_, (ok_up he :), (leads_au [(10009000, 10008000), (10009001, 10008001), (10009002, 10008002), (10009003, 10008003), (10009004, 10008004), (10009005, 10008005), (10009006, 10008006)])⟩
   ·exact wkRet [(2, [900])] (ok_some he :) (leads_au [(900, 10005001), (901, 10005004), (902, 10005005)])
  ·skip
   refine wkLoop (spec_l10Canonical_l3 (a0_0, (a0_1, (a0_2, (a0_3, a0_4)))) i) (fun (i1, i_1, i_2) => (envOf [(1, .c (.ptr 10001000 0)), (2, .c (.ptr 10001001 0)), (3, .c (.ptr 10001002 0)), (4, .c (.own 10001003 false)), (5, .c (.int .i64 i1))], [(10001000, .rc [.int .i64 (a0_0, (a0_1, (a0_2, (a0_3, a0_4)))).1, .imm y0_ (a0_0, (a0_1, (a0_2, (a0_3, a0_4)))).2.1, .imm y0_ (a0_0, (a0_1, (a0_2, (a0_3, a0_4)))).2.2.1, .int .i64 (a0_0, (a0_1, (a0_2, (a0_3, a0_4)))).2.2.2.1, .imm (.sl y0_) (a0_0, (a0_1, (a0_2, (a0_3, a0_4)))).2.2.2.2]), (10001001, .rc [.int .i64 (0:Int), .nil, .nil, .int .i64 (0:Int), .nil]), (10001002, .rc [.int .i64 (a0_0, (a0_1, (a0_2, (a0_3, a0_4)))).1, .own 10001004 false, .own 10001005 false, .int .i64 (a0_0, (a0_1, (a0_2, (a0_3, a0_4)))).2.2.2.1, .nil]), (10001003, .sl 3 y0_ i .shallow), (10001004, .sl 3 y0_ i_1 .shallow), (10001005, .sl 3 y0_ i_2 .shallow)])) he (leads_au [(10001000, 10000000), (10001001, 10000001), (10001002, 10000002), (10001003, 10000003)]) ?_
   rintro ⟨i1, i_1, i_2⟩ _ he
   refine go_if he (fun he => ?_) fun he => ?_
   ·refine wkSeq (spec_l10Canonical_j4 (a0_0, (a0_1, (a0_2, (a0_3, a0_4)))) i i1 i_1 i_2) (fun _ => (envOf [(1, .c (.ptr 10003000 0)), (2, .c (.ptr 10003001 0)), (3, .c (.ptr 10003002 0)), (4, .c (.own 10003003 false)), (5, .c (.int .i64 i1))], [(10003000, .rc [.int .i64 (a0_0, (a0_1, (a0_2, (a0_3, a0_4)))).1, .imm y0_ (a0_0, (a0_1, (a0_2, (a0_3, a0_4)))).2.1, .imm y0_ (a0_0, (a0_1, (a0_2, (a0_3, a0_4)))).2.2.1, .int .i64 (a0_0, (a0_1, (a0_2, (a0_3, a0_4)))).2.2.2.1, .imm (.sl y0_) (a0_0, (a0_1, (a0_2, (a0_3, a0_4)))).2.2.2.2]), (10003001, .rc [.int .i64 (0:Int), .nil, .nil, .int .i64 (0:Int), .nil]), (10003002, .rc [.int .i64 (a0_0, (a0_1, (a0_2, (a0_3, a0_4)))).1, .own 10003004 false, .own 10003005 false, .int .i64 (a0_0, (a0_1, (a0_2, (a0_3, a0_4)))).2.2.2.1, .nil]), (10003003, .sl 3 y0_ i .shallow), (10003004, .sl 3 y0_ (i_1 ++ [((a0_0, (a0_1, (a0_2, (a0_3, a0_4)))).2.1.getD (i.getD i1.toNat 0).toNat 0)]) .shallow), (10003005, .sl 3 y0_ i_2 .shallow)])) he ?_ ?_
    ·rintro ⟨⟩ he
     refine go_if he (fun he => ?_) fun he => ?_
     ·refine And.intro (by kernel_rfl) ?_
      refine go_rq he fun he => ?_
      obtain ⟨hq1, he⟩ := ok_rq he
      obtain ⟨hq2, he⟩ := ok_rq he
      refine And.intro ?_ (And.intro ?_ (And.intro ?_ (trivial)))
      ·skip
       refine And.intro ?_ (And.intro ?_ (trivial))
       ·exact wkz_75
       ·exact wkz_75
      ·exact wkz_76
      ·exact wkz_76
     ·refine go_rq he fun he => ?_
      exact ⟨_, (ok_some he :), (leads_au [(10001000, 10003000), (10001001, 10003001), (10001002, 10003002), (10001003, 10003003), (10001004, 10003004), (10001005, 10003005)])⟩
    ·skip
     refine And.intro (by kernel_rfl) ?_
     refine go_rq he fun he => ?_
     obtain ⟨hq1, he⟩ := ok_rq he
     obtain ⟨hq2, he⟩ := ok_rq he
     refine And.intro ?_ (And.intro ?_ (And.intro ?_ (trivial)))
     ·skip
      refine And.intro ?_ (And.intro ?_ (trivial))
      ·exact wkz_78
      ·exact wkz_78
     ·exact wkz_79
     ·exact wkz_79
   ·exact ⟨_, (ok_up he :), (leads_au [(10004000, 10001000), (10004001, 10001001), (10004002, 10001002), (10004003, 10001003), (10004004, 10001004), (10004005, 10001005)])⟩
 ·skip
  refine go_if he (fun he => ?_) fun he => ?_
  ·exact ⟨_, he, (leads_au [(10000000, 1), (10000001, 2), (10000002, 3), (10000003, 20)])⟩
  ·exact ⟨_, he, (leads_au [(10000000, 1), (10000001, 2), (10000002, 3), (10000003, 17900)])⟩

noncomputable def c_spec_CanonicalRule : Con := fun
  | [.agg [.imm (.int .i64) m_0, .imm (.pair (.int .i64) (.pair (.sl (.int .i64)) (.pair (.sl (.int .i64)) (.pair (.int .i64) (.sl (.sl (.int .i64))))))) m_1], .c (.int .i64 rule)], [] => .opt _ (spec_CanonicalRule (m_0, m_1) rule) (fun r => .ret (.tup [.agg [.int .i64 r.2.1, .own 901 false, .own 902 false, .int .i64 r.2.2.1, .imm (.sl y0_) r.2.2.2.1], .c (.bool r.1)]) [(900, .rc [.int .i64 r.2.1, .own 901 false, .own 902 false, .int .i64 r.2.2.1, .imm (.sl y0_) r.2.2.2.1]), (901, .sl 3 y0_ r.2.2.2.2.1 .shallow), (902, .sl 3 y0_ r.2.2.2.2.2 .shallow)])
  | _, _ => .fail

noncomputable def C_spec_CanonicalRule : Cfg := { y := tys, n := 27, h := 0, tab := [(25, c_spec_ModelValid), (26, c_spec_l10Canonical)] }

theorem wkz_80 {P : Prop} (h : P := by
  exact wkRet [(4, [900]), (5, [])] (ok_some he :) (leads_ren [(900, 4)] rfl rfl ⟨⟨rfl, ⟨rfl, trivial⟩, ⟨rfl, trivial⟩, rfl, .inr (.inl ⟨rfl, rfl⟩), trivial⟩, trivial, trivial, trivial⟩ ⟨⟨⟨rfl, rfl⟩, rfl⟩, .inr rfl, trivial⟩)) : P := h

theorem k_spec_CanonicalRule : Entry Try.prog 7 c_spec_CanonicalRule := by
 refine wkEnt (C := C_spec_CanonicalRule) Try.f7 (wkTab k_spec_ModelValid (wkTab k_spec_l10Canonical wkNil)) fun _ a b k he => ?_
 unfold c_spec_CanonicalRule at he; split at he; rotate_left; exact he.elim
 rename_i m_0 m_1 rule
 refine wkGo0 he fun he => ?_
 refine go_bind he fun r1_ he => ?_
 refine go_if2 he (fun he => ?_) fun he => ?_
 ·refine go_if2 he (fun he => ?_) fun he => ?_
  ·refine go_if he (fun he => ?_) fun he => ?_
   ·exact wkz_80
   ·refine go_rq he fun he => ?_
    refine go_bind he fun r2_ he => ?_
    exact wkRet [(4, [900]), (5, [])] (ok_some he :) (leads_au [(900, 4), (901, 27901), (902, 27902)])
  ·exact wkz_80
 ·exact wkz_80

noncomputable def c_slices_EqualFunc_s_int__slices_Equal_int : Con := fun
  | [.c (.imm (.sl (.int .i64)) s1_), .c (.imm (.sl (.int .i64)) s2_), .c (.fn 27 [])], [] => .opt _ (slices_EqualFunc_s_int__slices_Equal_int s1_ s2_) (fun r => .ret (.c (.bool r)) [])
  | _, _ => .fail

noncomputable def C_slices_EqualFunc_s_int__slices_Equal_int : Cfg := { y := tys, n := 32, h := 0, tab := [(27, c_slices_Equal_int)] }

theorem k_slices_EqualFunc_s_int__slices_Equal_int : Entry Try.prog 61 c_slices_EqualFunc_s_int__slices_Equal_int := by
 refine wkEnt (C := C_slices_EqualFunc_s_int__slices_Equal_int) Try.f61 (wkTab k_slices_Equal_int wkNil) fun _ a b k he => ?_
 unfold c_slices_EqualFunc_s_int__slices_Equal_int at he; split at he; rotate_left; exact he.elim
 rename_i s1_ s2_
 refine wkGo0 he fun he => ?_
 refine go_if he (fun he => ?_) fun he => ?_
 ·exact wkz_28
 ·refine wkLoop (slices_EqualFunc_s_int__slices_Equal_int_l1 s1_ s2_) (fun i => (envOf [(1, .c (.imm (.sl y0_) s2_)), (2, .c (.fn 27 [])), (15, .c (.imm (.sl y0_) s1_)), (16, .c (.int .i64 (s1_.length:Int))), (17, .c (.int .i64 i))], [])) he (leads_au []) ?_
  rintro i _ he
  refine go_if he (fun he => ?_) fun he => ?_
  ·refine go_rq he fun he => ?_
   exact wkz_31
  ·exact wkz_28

noncomputable def c_impl_sameRule : Con := fun
  | [.agg [.int .i64 a_0, .imm (.int .i64) a_1, .imm (.int .i64) a_2, .int .i64 a_3, .imm (.sl (.int .i64)) a_4], .agg [.int .i64 b_0, .imm (.int .i64) b_1, .imm (.int .i64) b_2, .int .i64 b_3, .imm (.sl (.int .i64)) b_4]], [] => .opt _ (impl_sameRule (a_0, (a_1, (a_2, (a_3, a_4)))) (b_0, (b_1, (b_2, (b_3, b_4))))) (fun r => .ret (.c (.bool r)) [])
  | _, _ => .fail

noncomputable def C_impl_sameRule : Cfg := { y := tys, n := 38, h := 0, tab := [(27, c_slices_Equal_int), (61, c_slices_EqualFunc_s_int__slices_Equal_int)] }

theorem k_impl_sameRule : Entry Try.prog 29 c_impl_sameRule := by
 refine wkEnt (C := C_impl_sameRule) Try.f29 (wkTab k_slices_Equal_int (wkTab k_slices_EqualFunc_s_int__slices_Equal_int wkNil)) fun _ a b k he => ?_
 unfold c_impl_sameRule at he; split at he; rotate_left; exact he.elim
 rename_i a_0 a_1 a_2 a_3 a_4 b_0 b_1 b_2 b_3 b_4
 refine wkGo0 he fun he => ?_
 refine go_if he (fun he => ?_) fun he => ?_
 ·refine go_bind he fun r1_ he => ?_
  refine go_if he (fun he => ?_) fun he => ?_
  ·refine go_bind he fun r2_ he => ?_
   refine go_if he (fun he => ?_) fun he => ?_
   ·refine go_if he (fun he => ?_) fun he => ?_
    ·refine go_bind he fun r3_ he => ?_
     exact wkz_1
    ·exact wkz_1
   ·exact wkz_1
  ·exact wkz_1
 ·exact wkz_1

noncomputable def c_slices_EqualFunc_impl_Rule__impl_sameRule : Con := fun
  | [.c (.imm (.pair (.int .i64) (.pair (.sl (.int .i64)) (.pair (.sl (.int .i64)) (.pair (.int .i64) (.sl (.sl (.int .i64))))))) s1_), .c (.imm (.pair (.int .i64) (.pair (.sl (.int .i64)) (.pair (.sl (.int .i64)) (.pair (.int .i64) (.sl (.sl (.int .i64))))))) s2_), .c (.fn 29 [])], [] => .opt _ (slices_EqualFunc_impl_Rule__impl_sameRule s1_ s2_) (fun r => .ret (.c (.bool r)) [])
  | _, _ => .fail

noncomputable def C_slices_EqualFunc_impl_Rule__impl_sameRule : Cfg := { y := tys, n := 32, h := 0, tab := [(29, c_impl_sameRule)] }

theorem wkz_81 {P : Prop} (h : P := by
  exact wkRet [(6, [])] (ok_some he :) (leads_au [])) : P := h

theorem k_slices_EqualFunc_impl_Rule__impl_sameRule : Entry Try.prog 28 c_slices_EqualFunc_impl_Rule__impl_sameRule := by
 refine wkEnt (C := C_slices_EqualFunc_impl_Rule__impl_sameRule) Try.f28 (wkTab k_impl_sameRule wkNil) fun _ a b k he => ?_
 unfold c_slices_EqualFunc_impl_Rule__impl_sameRule at he; split at he; rotate_left; exact he.elim
 rename_i s1_ s2_
 refine wkGo0 he fun he => ?_
 refine go_if he (fun he => ?_) fun he => ?_
 ·exact wkz_28
 ·refine wkLoop (slices_EqualFunc_impl_Rule__impl_sameRule_l1 s1_ s2_) (fun i => (envOf [(1, .c (.imm y5_ s2_)), (2, .c (.fn 29 [])), (15, .c (.imm y5_ s1_)), (16, .c (.int .i64 (s1_.length:Int))), (17, .c (.int .i64 i))], [])) he (leads_au []) ?_
  rintro i _ he
  refine go_if he (fun he => ?_) fun he => ?_
  ·refine go_rq he fun he => ?_
   refine go_rq he fun he => ?_
   refine go_bind he fun r1_ he => ?_
   refine go_if he (fun he => ?_) fun he => ?_
   ·exact wkz_81
   ·exact wkz_4
  ·exact wkz_28

noncomputable def c_impl_ModelSame : Con := fun
  | [.agg [.imm (.int .i64) a_0, .imm (.pair (.int .i64) (.pair (.sl (.int .i64)) (.pair (.sl (.int .i64)) (.pair (.int .i64) (.sl (.sl (.int .i64))))))) a_1], .agg [.imm (.int .i64) b_0, .imm (.pair (.int .i64) (.pair (.sl (.int .i64)) (.pair (.sl (.int .i64)) (.pair (.int .i64) (.sl (.sl (.int .i64))))))) b_1]], [] => .opt _ (impl_ModelSame (a_0, a_1) (b_0, b_1)) (fun r => .ret (.c (.bool r)) [])
  | _, _ => .fail

noncomputable def C_impl_ModelSame : Cfg := { y := tys, n := 17, h := 0, tab := [(27, c_slices_Equal_int), (28, c_slices_EqualFunc_impl_Rule__impl_sameRule)] }

theorem k_impl_ModelSame : Entry Try.prog 8 c_impl_ModelSame := by
 refine wkEnt (C := C_impl_ModelSame) Try.f8 (wkTab k_slices_Equal_int (wkTab k_slices_EqualFunc_impl_Rule__impl_sameRule wkNil)) fun _ a b k he => ?_
 unfold c_impl_ModelSame at he; split at he; rotate_left; exact he.elim
 rename_i a_0 a_1 b_0 b_1
 refine wkGo0 he fun he => ?_
 refine go_bind he fun r1_ he => ?_
 refine go_if he (fun he => ?_) fun he => ?_
 ·exact wkz_71
 ·exact wkz_1

noncomputable def c_impl_CellsValid : Con := fun
  | [.agg [.imm (.int .i64) m_0, .imm (.pair (.int .i64) (.pair (.sl (.int .i64)) (.pair (.sl (.int .i64)) (.pair (.int .i64) (.sl (.sl (.int .i64))))))) m_1], .c (.imm (.int .i64) cells)], [] => .opt _ (impl_CellsValid (m_0, m_1) cells) (fun r => .ret (.c (.bool r)) [])
  | _, _ => .fail

noncomputable def C_impl_CellsValid : Cfg := { y := tys, n := 34, h := 0, tab := [(22, c_impl_ModelValid), (47, c_impl_within)] }

theorem k_impl_CellsValid : Entry Try.prog 30 c_impl_CellsValid := by
 refine wkEnt (C := C_impl_CellsValid) Try.f30 (wkTab k_impl_ModelValid (wkTab k_impl_within wkNil)) fun _ a b k he => ?_
 unfold c_impl_CellsValid at he; split at he; rotate_left; exact he.elim
 rename_i m_0 m_1 cells
 refine wkGo0 he fun he => ?_
 refine go_bind he fun r1_ he => ?_
 refine go_if2 he (fun he => ?_) fun he => ?_
 ·refine go_if he (fun he => ?_) fun he => ?_
  ·exact wkz_1
  ·refine wkLoop (impl_CellsValid_l1 (m_0, m_1) cells) (fun i => (envOf [(2, .c (.ptr 10000000 0)), (18, .c (.imm y0_ cells)), (19, .c (.int .i64 (cells.length:Int))), (20, .c (.int .i64 i))], [(10000000, .rc [.imm y0_ (m_0, m_1).1, .imm y5_ (m_0, m_1).2])])) he (leads_au [(10000000, 2)]) ?_
   rintro i _ he
   refine go_if he (fun he => ?_) fun he => ?_
   ·refine go_rq he fun he => ?_
    exact wkz_37
   ·exact wkz_1
 ·exact wkz_1

noncomputable def c_impl_Rule_holds_1 : Con := fun
  | [.c (.imm (.int .i64) row), .c (.ptr 0 0)], [(0, .rc [.imm (.int .i64) o0])] => .opt _ (impl_Rule_holds_1 row o0) (fun r => .ret (.c (.bool r)) [(0, .rc [.imm y0_ o0])])
  | _, _ => .fail

noncomputable def C_impl_Rule_holds_1 : Cfg := { y := tys, n := 7, h := 1, tab := [(27, c_slices_Equal_int)] }

theorem k_impl_Rule_holds_1 : Entry Try.prog 84 c_impl_Rule_holds_1 := by
 refine wkEnt (C := C_impl_Rule_holds_1) Try.f84 (wkTab k_slices_Equal_int wkNil) fun _ a b k he => ?_
 unfold c_impl_Rule_holds_1 at he; split at he; rotate_left; exact he.elim
 rename_i row o0
 refine wkGo0 he fun he => ?_
 refine go_bind he fun r1_ he => ?_
 exact wkRet [(3, [])] (ok_some he :) (leads_au [])

noncomputable def c_slices_IndexFunc_s_int__impl_Rule_holds_1 : Con := fun
  | [.c (.imm (.sl (.int .i64)) s_), .c (.fn 84 [0])], [(0, .rc [.imm (.int .i64) o0])] => .opt _ (slices_IndexFunc_s_int__impl_Rule_holds_1 s_ o0) (fun r => .ret (.c (.int .i64 r)) [(0, .rc [.imm y0_ o0])])
  | _, _ => .fail

noncomputable def C_slices_IndexFunc_s_int__impl_Rule_holds_1 : Cfg := { y := tys, n := 19, h := 1, tab := [(84, c_impl_Rule_holds_1)] }

theorem k_slices_IndexFunc_s_int__impl_Rule_holds_1 : Entry Try.prog 89 c_slices_IndexFunc_s_int__impl_Rule_holds_1 := by
 refine wkEnt (C := C_slices_IndexFunc_s_int__impl_Rule_holds_1) Try.f89 (wkTab k_impl_Rule_holds_1 wkNil) fun _ a b k he => ?_
 unfold c_slices_IndexFunc_s_int__impl_Rule_holds_1 at he; split at he; rotate_left; exact he.elim
 rename_i s_ o0
 refine wkGo0 he fun he => ?_
 refine wkLoop (slices_IndexFunc_s_int__impl_Rule_holds_1_l1 s_ o0) (fun i => (envOf [(0, .c (.imm (.sl y0_) s_)), (1, .c (.fn 84 [0])), (7, .c (.int .i64 (s_.length:Int))), (8, .c (.int .i64 i))], [(0, .rc [.imm y0_ o0])])) he (leads_au []) ?_
 exact wkz_36

end Go.AE.Y
