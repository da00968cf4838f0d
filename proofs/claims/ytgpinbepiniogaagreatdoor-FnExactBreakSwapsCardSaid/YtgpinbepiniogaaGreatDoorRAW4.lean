/-
  Walks: each function keeps the contract that its model gives. No conditions.
-/
import Derived.Test.YtgpinbepiniogaaGreatDoorRATab
import Derived.Test.YtgpinbepiniogaaGreatDoorRAW3
import Derived.Test.YtgpinbepiniogaaGreatDoorRAS
namespace Go.AE.Y
open Go Go.AE Go.Proofs
set_option linter.unusedVariables false
set_option maxHeartbeats 2000000
set_option maxRecDepth 100000

noncomputable def c_cmp_isNaN_int : Con := fun
  | [.c (.int .i64 x)], [] => .opt _ (cmp_isNaN_int x) (fun r => .ret (.c (.bool r)) [])
  | _, _ => .fail

noncomputable def C_cmp_isNaN_int : Cfg := { y := tys, n := 6, h := 0, tab := [] }

theorem k_cmp_isNaN_int : Entry Tryz.prog 163 c_cmp_isNaN_int := by
 refine wkEnt (C := C_cmp_isNaN_int) Tryz.f163 wkNil fun _ a b k he => ?_
 unfold c_cmp_isNaN_int at he; split at he; rotate_left; exact he.elim
 rename_i x
 refine wkGo0 he fun he => ?_
 exact wkRet0 he

noncomputable def c_cmp_Compare_int : Con := fun
  | [.c (.int .i64 x), .c (.int .i64 y)], [] => .opt _ (cmp_Compare_int x y) (fun r => .ret (.c (.int .i64 r)) [])
  | _, _ => .fail

noncomputable def C_cmp_Compare_int : Cfg := { y := tys, n := 20, h := 0, tab := [(163, c_cmp_isNaN_int)] }

theorem k_cmp_Compare_int : Entry Tryz.prog 132 c_cmp_Compare_int := by
 refine wkEnt (C := C_cmp_Compare_int) Tryz.f132 (wkTab k_cmp_isNaN_int wkNil) fun _ a b k he => ?_
 unfold c_cmp_Compare_int at he; split at he; rotate_left; exact he.elim
 rename_i x y
 refine wkGo0 he fun he => ?_
 refine go_bind he fun r1_ he => ?_
 refine go_bind he fun r2_ he => ?_
 refine go_if he (fun he => ?_) fun he => ?_
 ·exact wkz_2
 ·refine go_if he (fun he => ?_) fun he => ?_
  ·exact wkz_1
  ·refine go_if he (fun he => ?_) fun he => ?_
   ·exact wkz_1
   ·exact wkz_2

noncomputable def c_slices_Compare_int : Con := fun
  | [.c (.imm (.int .i64) s1_), .c (.imm (.int .i64) s2_)], [] => .opt _ (slices_Compare_int s1_ s2_) (fun r => .ret (.c (.int .i64 r)) [])
  | _, _ => .fail

noncomputable def C_slices_Compare_int : Cfg := { y := tys, n := 36, h := 0, tab := [(132, c_cmp_Compare_int)] }

theorem k_slices_Compare_int : Entry Tryz.prog 114 c_slices_Compare_int := by
 refine wkEnt (C := C_slices_Compare_int) Tryz.f114 (wkTab k_cmp_Compare_int wkNil) fun _ a b k he => ?_
 unfold c_slices_Compare_int at he; split at he; rotate_left; exact he.elim
 rename_i s1_ s2_
 refine wkGo0 he fun he => ?_
 refine wkLoop (slices_Compare_int_l1 s1_ s2_) (fun i => (envOf [(0, .c (.imm y0_ s1_)), (1, .c (.imm y0_ s2_)), (9, .c (.imm y0_ s1_)), (10, .c (.int .i64 (s1_.length:Int))), (11, .c (.int .i64 i))], [])) he (leads_au []) ?_
 rintro i _ he
 refine go_if he (fun he => ?_) fun he => ?_
 ·refine go_rq he fun he => ?_
  refine go_if he (fun he => ?_) fun he => ?_
  ·exact wkz_1
  ·exact wkz_5
 ·exact wkz_2

noncomputable def c_slices_SortFunc_s_int__slices_Compare_int__s : Con := sortCG (.sl y0_) 114 slices_Compare_int

theorem k_slices_SortFunc_s_int__slices_Compare_int__s : Entry Tryz.prog 113 c_slices_SortFunc_s_int__slices_Compare_int__s := sort_entryG lays113 k_slices_Compare_int rfl (fun x y => rfl)

noncomputable def c_slices_Equal_int : Con := fun
  | [.c (.imm (.int .i64) s1_), .c (.imm (.int .i64) s2_)], [] => .opt _ (slices_Equal_int s1_ s2_) (fun r => .ret (.c (.bool r)) [])
  | _, _ => .fail

noncomputable def C_slices_Equal_int : Cfg := { y := tys, n := 26, h := 0, tab := [] }

theorem k_slices_Equal_int : Entry Tryz.prog 69 c_slices_Equal_int := by
 refine wkEnt (C := C_slices_Equal_int) Tryz.f69 wkNil fun _ a b k he => ?_
 unfold c_slices_Equal_int at he; split at he; rotate_left; exact he.elim
 rename_i s1_ s2_
 refine wkGo0 he fun he => ?_
 refine go_if he (fun he => ?_) fun he => ?_
 ·exact wkz_1
 ·refine wkLoop (slices_Equal_int_l1 s1_ s2_) (fun i => (envOf [(0, .c (.imm y0_ s1_)), (1, .c (.imm y0_ s2_)), (12, .c (.int .i64 (s1_.length:Int))), (13, .c (.int .i64 i))], [])) he (leads_au []) ?_
  exact wkz_31

noncomputable def c_slices_CompactFunc_s_int__slices_Equal_int__s : Con := fun
  | [.c (.own 0 false), .c (.fn 69 [])], [(0, .sl 22 (.sl (.int .i64)) o0 .shallow)] => .opt _ (slices_CompactFunc_s_int__slices_Equal_int__s o0) (fun r => .ret (.c (.own 900 false)) [(0, .dead), (900, .sl 22 (.sl y0_) r .shallow)])
  | _, _ => .fail

noncomputable def C_slices_CompactFunc_s_int__slices_Equal_int__s_s1 : Sched := .alt 10 .done .stop
noncomputable def C_slices_CompactFunc_s_int__slices_Equal_int__s_s2 : Sched := .alt 10 (.first 11 .done) .stop
noncomputable def C_slices_CompactFunc_s_int__slices_Equal_int__s : Cfg := { y := tys, n := 66, h := 1, tab := [(69, c_slices_Equal_int)], cut := [14], sched := [(6, (wkFs [0, 1, 2, 3, 5, 6, 7, 8] (.alt 4 (.alt 9 C_slices_CompactFunc_s_int__slices_Equal_int__s_s1 .stop) (.alt 9 (.alt 4 C_slices_CompactFunc_s_int__slices_Equal_int__s_s1 .stop) .stop)))), (11, (wkFs [0, 1, 2, 3, 5, 6, 7, 8] (.alt 4 (.alt 9 C_slices_CompactFunc_s_int__slices_Equal_int__s_s2 .stop) (.alt 9 (.alt 4 C_slices_CompactFunc_s_int__slices_Equal_int__s_s2 .stop) .stop))))] }

theorem wkz_62 {P : Prop} (h : P := by
  refine go_rq he fun he => ?_
  refine go_rq he fun he => ?_
  exact wkRet [(4, [])] (ok_some he :) (leads_au [(900, 64)])) : P := h

theorem wkz_63 {P : Prop} (h : P := by
  refine go_if he (fun he => ?_) fun he => ?_
  ·refine go_rq he fun he => ?_
   exact wkz_11
  ·exact wkz_3) : P := h

theorem wkz_64 {P : Prop} (h : P := by
  skip
  refine And.intro ?_ trivial
  refine And.intro ?_ trivial
  refine ⟨r5_, hq1, ?_⟩
  exact wkz_63) : P := h

theorem wkz_65 {P : Prop} (h : P := by
  skip
  refine And.intro ?_ trivial
  refine And.intro ?_ trivial
  refine ⟨r7_, hq1, ?_⟩
  exact wkz_63) : P := h

theorem k_slices_CompactFunc_s_int__slices_Equal_int__s : Entry Tryz.prog 115 c_slices_CompactFunc_s_int__slices_Equal_int__s := by
 refine wkEnt (C := C_slices_CompactFunc_s_int__slices_Equal_int__s) Tryz.f115 (wkTab k_slices_Equal_int wkNil) fun _ a b k he => ?_
 unfold c_slices_CompactFunc_s_int__slices_Equal_int__s at he; split at he; rotate_left; exact he.elim
 rename_i o0
 refine wkGo0 he fun he => ?_
 refine go_if he (fun he => ?_) fun he => ?_
 ·exact wkRet [(4, [])] (ok_some he :) (leads_au [(900, 0)])
 ·refine wkLoop (slices_CompactFunc_s_int__slices_Equal_int__s_l1 o0) (fun i => (envOf [(0, .c (.own 0 false)), (1, .c (.fn 69 [])), (5, .c (.int .i64 i))], [(0, .sl 22 (.sl y0_) o0 .shallow)])) he (leads_au []) ?_
  rintro i _ he
  refine go_if he (fun he => ?_) fun he => ?_
  ·refine And.intro (by kernel_rfl) ?_
   refine go_rq he fun he => ?_
   refine go_rq he fun he => ?_
   refine go_rq he fun he => ?_
   obtain ⟨r2_, hq1, he⟩ := ok_bind he
   refine And.intro ?_ (And.intro ?_ (trivial))
   ·skip
    refine And.intro ?_ trivial
    refine And.intro ?_ trivial
    refine ⟨r2_, hq1, ?_⟩
    refine go_if he (fun he => ?_) fun he => ?_
    ·refine go_rq he fun he => ?_
     refine wkSeq (slices_CompactFunc_s_int__slices_Equal_int__s_j1) (fun (i4, i5) => (envOf [(0, .c (.own 0 false)), (5, .c (.int .i64 i4))], [(0, .sl 22 (.sl y0_) i5 .shallow)])) he ?_ ?_
     ·rintro ⟨i4, i5⟩ he
      exact wkz_62
     ·skip
      refine wkLoop (slices_CompactFunc_s_int__slices_Equal_int__s_l2 i) (fun (i1, i2, i3) => (envOf [(0, .c (.own 0 false)), (1, .c (.fn 69 [])), (5, .c (.int .i64 i1)), (6, .c (.view 0 i)), (7, .c (.int .i64 i2))], [(0, .sl 22 (.sl y0_) i3 .shallow)])) he (leads_au []) ?_
      rintro ⟨i1, i2, i3⟩ _ he
      refine go_if he (fun he => ?_) fun he => ?_
      ·refine And.intro (by kernel_rfl) ?_
       refine go_rq he fun he => ?_
       refine go_rq he fun he => ?_
       refine go_rq he fun he => ?_
       obtain ⟨r5_, hq1, he⟩ := ok_bind he
       refine And.intro ?_ (And.intro ?_ (trivial))
       ·exact wkz_64
       ·exact wkz_64
      ·exact ⟨_, (ok_up he :), (leads_au [])⟩
    ·exact wkz_3
   ·skip
    refine And.intro ?_ trivial
    refine And.intro ?_ trivial
    refine ⟨r2_, hq1, ?_⟩
    refine go_if he (fun he => ?_) fun he => ?_
    ·refine go_rq he fun he => ?_
     refine wkSeq (slices_CompactFunc_s_int__slices_Equal_int__s_j1) (fun (i9, i10) => (envOf [(0, .c (.own 0 false)), (5, .c (.int .i64 i9))], [(0, .sl 22 (.sl y0_) i10 .shallow)])) he ?_ ?_
     ·rintro ⟨i9, i10⟩ he
      exact wkz_62
     ·skip
      refine wkLoop (slices_CompactFunc_s_int__slices_Equal_int__s_l2 i) (fun (i6, i7, i8) => (envOf [(0, .c (.own 0 false)), (1, .c (.fn 69 [])), (5, .c (.int .i64 i6)), (6, .c (.view 0 i)), (7, .c (.int .i64 i7))], [(0, .sl 22 (.sl y0_) i8 .shallow)])) he (leads_au []) ?_
      rintro ⟨i6, i7, i8⟩ _ he
      refine go_if he (fun he => ?_) fun he => ?_
      ·refine And.intro (by kernel_rfl) ?_
       refine go_rq he fun he => ?_
       refine go_rq he fun he => ?_
       refine go_rq he fun he => ?_
       obtain ⟨r7_, hq1, he⟩ := ok_bind he
       refine And.intro ?_ (And.intro ?_ (trivial))
       ·exact wkz_65
       ·exact wkz_65
      ·exact ⟨_, (ok_up he :), (leads_au [])⟩
    ·exact wkz_3
  ·exact wkRet [(4, [])] (ok_some he :) (leads_au [(900, 0)])

noncomputable def c_impl_Rule_canonical : Con := fun
  | [.agg [.int .i64 a0_0, .imm (.int .i64) a0_1, .imm (.int .i64) a0_2, .int .i64 a0_3, .imm (.sl (.int .i64)) a0_4]], [] => .opt _ (impl_Rule_canonical (a0_0, (a0_1, (a0_2, (a0_3, a0_4))))) (fun r => .ret (.agg [.int .i64 r.1, .own 901 false, .own 902 false, .int .i64 r.2.1, .own 903 false]) [(900, .rc [.int .i64 r.1, .own 901 false, .own 902 false, .int .i64 r.2.1, .own 903 false]), (901, .sl 3 y0_ r.2.2.1 .shallow), (902, .sl 3 y0_ r.2.2.2.1 .shallow), (903, .sl 22 (.sl y0_) r.2.2.2.2 .shallow)])
  | _, _ => .fail

noncomputable def C_impl_Rule_canonical_s1 : Sched := .alt 10 .done .stop
noncomputable def C_impl_Rule_canonical_s2 : Sched := .alt 8 C_impl_Rule_canonical_s1 .stop
noncomputable def C_impl_Rule_canonical_s3 : Sched := .alt 8 (.alt 9 C_impl_Rule_canonical_s1 .stop) (.alt 9 C_impl_Rule_canonical_s2 .stop)
noncomputable def C_impl_Rule_canonical_s4 : Sched := .alt 7 C_impl_Rule_canonical_s2 .stop
noncomputable def C_impl_Rule_canonical_s5 : Sched := .alt 7 C_impl_Rule_canonical_s3 (.alt 9 C_impl_Rule_canonical_s4 .stop)
noncomputable def C_impl_Rule_canonical_s6 : Sched := .alt 5 C_impl_Rule_canonical_s2 .stop
noncomputable def C_impl_Rule_canonical_s7 : Sched := .alt 5 C_impl_Rule_canonical_s3 (.alt 9 C_impl_Rule_canonical_s6 .stop)
noncomputable def C_impl_Rule_canonical_s8 : Sched := .alt 5 C_impl_Rule_canonical_s4 (.alt 7 C_impl_Rule_canonical_s6 .stop)
noncomputable def C_impl_Rule_canonical_s9 : Sched := .alt 5 C_impl_Rule_canonical_s5 (.alt 7 C_impl_Rule_canonical_s7 (.alt 9 C_impl_Rule_canonical_s8 .stop))
noncomputable def C_impl_Rule_canonical_s10 : Sched := .alt 4 C_impl_Rule_canonical_s6 .stop
noncomputable def C_impl_Rule_canonical_s11 : Sched := .alt 4 C_impl_Rule_canonical_s7 (.alt 9 C_impl_Rule_canonical_s10 .stop)
noncomputable def C_impl_Rule_canonical_s12 : Sched := .alt 4 C_impl_Rule_canonical_s8 (.alt 7 C_impl_Rule_canonical_s10 .stop)
noncomputable def C_impl_Rule_canonical_s13 : Sched := .alt 1 C_impl_Rule_canonical_s2 .stop
noncomputable def C_impl_Rule_canonical_s14 : Sched := .alt 1 C_impl_Rule_canonical_s3 (.alt 9 C_impl_Rule_canonical_s13 .stop)
noncomputable def C_impl_Rule_canonical_s15 : Sched := .alt 1 C_impl_Rule_canonical_s4 (.alt 7 C_impl_Rule_canonical_s13 .stop)
noncomputable def C_impl_Rule_canonical_s16 : Sched := .alt 1 C_impl_Rule_canonical_s6 (.alt 5 C_impl_Rule_canonical_s13 .stop)
noncomputable def C_impl_Rule_canonical_s17 : Sched := .alt 1 C_impl_Rule_canonical_s7 (.alt 5 C_impl_Rule_canonical_s14 (.alt 9 C_impl_Rule_canonical_s16 .stop))
noncomputable def C_impl_Rule_canonical_s18 : Sched := .alt 1 C_impl_Rule_canonical_s8 (.alt 5 C_impl_Rule_canonical_s15 (.alt 7 C_impl_Rule_canonical_s16 .stop))
noncomputable def C_impl_Rule_canonical_s19 : Sched := .alt 1 C_impl_Rule_canonical_s10 (.alt 4 C_impl_Rule_canonical_s16 .stop)
noncomputable def C_impl_Rule_canonical_s20 : Sched := .alt 6 (.first 7 (.alt 8 .done .stop)) .stop
noncomputable def C_impl_Rule_canonical_s21 : Sched := .alt 5 C_impl_Rule_canonical_s20 .stop
noncomputable def C_impl_Rule_canonical : Cfg := { y := tys, n := 70, h := 0, tab := [(100, c_impl_Rule_own), (110, c_slices_SortFunc_int__impl_Rule_canonical_1), (112, c_impl_Rule_canonical_2__Rs), (113, c_slices_SortFunc_s_int__slices_Compare_int__s), (115, c_slices_CompactFunc_s_int__slices_Equal_int__s)], cut := [9, 12, 14, 19], hand := [(100, [0]), (110, [0]), (113, [0]), (115, [0])], sched := [(11, (wkFs [0, 2, 3, 6] (.alt 1 (.alt 4 C_impl_Rule_canonical_s9 (.alt 7 C_impl_Rule_canonical_s11 (.alt 9 C_impl_Rule_canonical_s12 .stop))) (.alt 4 (.alt 1 C_impl_Rule_canonical_s9 (.alt 5 (.alt 1 C_impl_Rule_canonical_s5 (.alt 7 C_impl_Rule_canonical_s14 (.alt 9 C_impl_Rule_canonical_s15 .stop))) (.alt 7 C_impl_Rule_canonical_s17 (.alt 9 C_impl_Rule_canonical_s18 .stop)))) (.alt 7 (.alt 1 C_impl_Rule_canonical_s11 (.alt 4 C_impl_Rule_canonical_s17 (.alt 9 C_impl_Rule_canonical_s19 .stop))) (.alt 9 (.alt 1 C_impl_Rule_canonical_s12 (.alt 4 C_impl_Rule_canonical_s18 (.alt 7 C_impl_Rule_canonical_s19 .stop))) .stop)))))), (17, (wkFs [0, 2, 3] (.alt 1 (.alt 4 C_impl_Rule_canonical_s21 .stop) (.alt 4 (.alt 1 C_impl_Rule_canonical_s21 (.alt 5 (.alt 1 C_impl_Rule_canonical_s20 .stop) .stop)) .stop))))] }

theorem wkz_66 {P : Prop} (h : P := by
  refine And.intro ?_ trivial
  refine And.intro ?_ trivial
  refine And.intro hq2 ?_
  refine And.intro ?_ trivial
  refine go_rq he fun he => ?_
  exact ⟨_, (ok_some he :), (leads_au [(10004006, 59)])⟩) : P := h

theorem wkz_67 {P : Prop} (h : P := by
  refine And.intro ?_ trivial
  refine And.intro ?_ trivial
  exact ⟨_, he, (leads_au [(10002000, 10001000), (10002001, 10001001), (10002002, 10001002), (10002003, 6), (10002004, 10001003), (10002005, 35900)])⟩) : P := h

theorem wkz_68 {P : Prop} (h : P := by
  refine And.intro ?_ (And.intro ?_ (trivial))
  ·skip
   exact wkz_67
  ·skip
   exact wkz_67) : P := h

theorem wkz_69 {P : Prop} (h : P := by
  refine And.intro ?_ (And.intro ?_ (trivial))
  ·skip
   exact wkz_68
  ·skip
   refine And.intro ?_ trivial
   exact wkz_67) : P := h

theorem wkz_70 {P : Prop} (h : P := by
  skip
  refine And.intro ?_ trivial
  refine ⟨r4_, hq1, ?_⟩
  exact wkz_67) : P := h

theorem wkz_71 {P : Prop} (h : P := by
  skip
  refine And.intro ?_ (And.intro ?_ (trivial))
  ·skip
   refine ⟨r4_, hq1, ?_⟩
   exact wkz_68
  ·exact wkz_70) : P := h

theorem wkz_72 {P : Prop} (h : P := by
  skip
  refine ⟨r4_, hq1, ?_⟩
  refine And.intro ?_ trivial
  exact wkz_67) : P := h

theorem wkz_73 {P : Prop} (h : P := by
  skip
  refine And.intro ?_ (And.intro ?_ (trivial))
  ·exact wkz_72
  ·exact wkz_70) : P := h

theorem wkz_74 {P : Prop} (h : P := by
  skip
  refine And.intro ?_ (And.intro ?_ (And.intro ?_ (trivial)))
  ·skip
   refine ⟨r4_, hq1, ?_⟩
   exact wkz_69
  ·exact wkz_71
  ·exact wkz_73) : P := h

theorem wkz_75 {P : Prop} (h : P := by
  skip
  refine And.intro ?_ trivial
  refine And.intro ?_ trivial
  refine ⟨r4_, hq1, ?_⟩
  exact wkz_67) : P := h

theorem wkz_76 {P : Prop} (h : P := by
  skip
  refine And.intro ?_ (And.intro ?_ (trivial))
  ·exact wkz_71
  ·exact wkz_75) : P := h

theorem wkz_77 {P : Prop} (h : P := by
  skip
  refine And.intro ?_ (And.intro ?_ (trivial))
  ·exact wkz_73
  ·exact wkz_75) : P := h

theorem wkz_78 {P : Prop} (h : P := by
  refine And.intro ?_ (And.intro ?_ (trivial))
  ·skip
   refine And.intro ?_ trivial
   exact wkz_67
  ·skip
   refine And.intro ?_ trivial
   exact wkz_67) : P := h

theorem wkz_79 {P : Prop} (h : P := by
  skip
  refine And.intro ?_ (And.intro ?_ (And.intro ?_ (trivial)))
  ·exact wkz_71
  ·skip
   refine ⟨r4_, hq1, ?_⟩
   exact wkz_69
  ·skip
   refine And.intro ?_ (And.intro ?_ (trivial))
   ·exact wkz_70
   ·exact wkz_72) : P := h

theorem wkz_80 {P : Prop} (h : P := by
  skip
  refine And.intro ?_ (And.intro ?_ (And.intro ?_ (trivial)))
  ·exact wkz_73
  ·skip
   refine ⟨r4_, hq1, ?_⟩
   exact wkz_78
  ·skip
   refine And.intro ?_ (And.intro ?_ (trivial))
   ·exact wkz_70
   ·exact wkz_72) : P := h

theorem k_impl_Rule_canonical : Entry Tryz.prog 81 c_impl_Rule_canonical := by
 refine wkEnt (C := C_impl_Rule_canonical) Tryz.f81 (wkTab k_impl_Rule_own (wkTab k_slices_SortFunc_int__impl_Rule_canonical_1 (wkTab k_impl_Rule_canonical_2__Rs (wkTab k_slices_SortFunc_s_int__slices_Compare_int__s (wkTab k_slices_CompactFunc_s_int__slices_Equal_int__s wkNil))))) fun _ a b k he => ?_
 unfold c_impl_Rule_canonical at he; split at he; rotate_left; exact he.elim
 rename_i a0_0 a0_1 a0_2 a0_3 a0_4
 refine wkGo0 he fun he => ?_
 refine go_if he (fun he => ?_) fun he => ?_
 ·refine go_bind he fun r1_ he => ?_
  exact wkRet [(2, [900])] (ok_some he :) ((leads_shallow 14903).trans (leads_au [(900, 2), (901, 14901), (902, 14902), (903, 14903)] (l := [(2, .c (.ptr 900 0))]) (st' := [(900, .rc [.int .i64 r1_.1, .own 901 false, .own 902 false, .int .i64 r1_.2.1, .own 903 false]), (901, .sl 3 y0_ r1_.2.2.1 .shallow), (902, .sl 3 y0_ r1_.2.2.2.1 .shallow), (903, .sl 22 (.sl y0_) r1_.2.2.2.2 .shallow)])))
 ·refine wkSeq (impl_Rule_canonical_j1 (a0_0, (a0_1, (a0_2, (a0_3, a0_4))))) (fun i2 => (envOf [(1, .c (.ptr 10001000 0)), (2, .c (.ptr 10001001 0)), (3, .c (.ptr 10001002 0))], [(10001000, .rc [.int .i64 (a0_0, (a0_1, (a0_2, (a0_3, a0_4)))).1, .imm y0_ (a0_0, (a0_1, (a0_2, (a0_3, a0_4)))).2.1, .imm y0_ (a0_0, (a0_1, (a0_2, (a0_3, a0_4)))).2.2.1, .int .i64 (a0_0, (a0_1, (a0_2, (a0_3, a0_4)))).2.2.2.1, .imm (.sl y0_) (a0_0, (a0_1, (a0_2, (a0_3, a0_4)))).2.2.2.2]), (10001001, .rc [.int .i64 (0:Int), .nil, .nil, .int .i64 (0:Int), .nil]), (10001002, .rc [.own 10001003 false]), (10001003, .sl 3 y0_ i2 .shallow)])) he ?_ ?_
  ·rintro i2 he
   refine go_bind he fun r2_ he => ?_
   refine wkSeq (impl_Rule_canonical_j2 (a0_0, (a0_1, (a0_2, (a0_3, a0_4)))) r2_) (fun i_1 => (envOf [(1, .c (.ptr 10002000 0)), (2, .c (.ptr 10002001 0)), (5, .c (.fn 112 [10002002])), (6, .c (.ptr 10002003 0))], [(10002000, .rc [.int .i64 (a0_0, (a0_1, (a0_2, (a0_3, a0_4)))).1, .imm y0_ (a0_0, (a0_1, (a0_2, (a0_3, a0_4)))).2.1, .imm y0_ (a0_0, (a0_1, (a0_2, (a0_3, a0_4)))).2.2.1, .int .i64 (a0_0, (a0_1, (a0_2, (a0_3, a0_4)))).2.2.2.1, .imm (.sl y0_) (a0_0, (a0_1, (a0_2, (a0_3, a0_4)))).2.2.2.2]), (10002001, .rc [.int .i64 (0:Int), .nil, .nil, .int .i64 (0:Int), .nil]), (10002002, .rc [.own 10002004 false]), (10002003, .rc [.int .i64 (a0_0, (a0_1, (a0_2, (a0_3, a0_4)))).1, .own 10002005 false, .nil, .int .i64 (a0_0, (a0_1, (a0_2, (a0_3, a0_4)))).2.2.2.1, .nil]), (10002004, .sl 3 y0_ r2_ .shallow), (10002005, .sl 3 y0_ i_1 .shallow)])) he ?_ ?_
   ·rintro i_1 he
    refine wkSeq (impl_Rule_canonical_j3 (a0_0, (a0_1, (a0_2, (a0_3, a0_4)))) r2_ i_1) (fun i_2 => (envOf [(1, .c (.iptr y4_ (a0_0, (a0_1, (a0_2, (a0_3, a0_4)))) 0)), (2, .c (.ptr 10003000 0)), (5, .c (.fn 112 [10003001])), (6, .c (.ptr 10003002 0))], [(10003000, .rc [.int .i64 (0:Int), .nil, .nil, .int .i64 (0:Int), .nil]), (10003001, .rc [.own 10003003 false]), (10003002, .rc [.int .i64 (a0_0, (a0_1, (a0_2, (a0_3, a0_4)))).1, .own 10003004 false, .own 10003005 false, .int .i64 (a0_0, (a0_1, (a0_2, (a0_3, a0_4)))).2.2.2.1, .nil]), (10003003, .sl 3 y0_ r2_ .shallow), (10003004, .sl 3 y0_ i_1 .shallow), (10003005, .sl 3 y0_ i_2 .shallow)])) he ?_ ?_
    ·rintro i_2 he
     refine wkSeq (impl_Rule_canonical_j4 (a0_0, (a0_1, (a0_2, (a0_3, a0_4)))) i_1 i_2) (fun i_41 => (envOf [(2, .c (.ptr 10005000 0)), (6, .c (.ptr 10005001 0))], [(10005000, .rc [.int .i64 (0:Int), .nil, .nil, .int .i64 (0:Int), .nil]), (10005001, .rc [.int .i64 (a0_0, (a0_1, (a0_2, (a0_3, a0_4)))).1, .own 10005002 false, .own 10005003 false, .int .i64 (a0_0, (a0_1, (a0_2, (a0_3, a0_4)))).2.2.2.1, .own 10005004 false]), (10005002, .sl 3 y0_ i_1 .shallow), (10005003, .sl 3 y0_ i_2 .shallow), (10005004, .sl 22 (.sl y0_) i_41 .shallow)])) he ?_ ?_
     ·rintro i_41 he
      refine go_bind he fun r9_ he => ?_
      refine go_bind he fun r10_ he => ?_
      exact wkRet [(2, [900])] (ok_some he :) (leads_au [(900, 10005000), (901, 10005002), (902, 10005003), (903, 68900)])
     ·skip
      refine wkLoop (impl_Rule_canonical_l1 (a0_0, (a0_1, (a0_2, (a0_3, a0_4)))) r2_ i_1 i_2) (fun (i3, i_4) => (envOf [(2, .c (.ptr 10004000 0)), (5, .c (.fn 112 [10004001])), (6, .c (.ptr 10004002 0)), (47, .c (.imm (.sl y0_) (a0_0, (a0_1, (a0_2, (a0_3, a0_4)))).2.2.2.2)), (48, .c (.int .i64 ((a0_0, (a0_1, (a0_2, (a0_3, a0_4)))).2.2.2.2.length:Int))), (49, .c (.int .i64 i3))], [(10004000, .rc [.int .i64 (0:Int), .nil, .nil, .int .i64 (0:Int), .nil]), (10004001, .rc [.own 10004003 false]), (10004002, .rc [.int .i64 (a0_0, (a0_1, (a0_2, (a0_3, a0_4)))).1, .own 10004004 false, .own 10004005 false, .int .i64 (a0_0, (a0_1, (a0_2, (a0_3, a0_4)))).2.2.2.1, .own 10004006 false]), (10004003, .sl 3 y0_ r2_ .shallow), (10004004, .sl 3 y0_ i_1 .shallow), (10004005, .sl 3 y0_ i_2 .shallow), (10004006, .sl 22 (.sl y0_) i_4 .shallow)])) he (leads_au [(10004000, 10003000), (10004001, 10003001), (10004002, 10003002), (10004003, 10003003), (10004004, 10003004), (10004005, 10003005)]) ?_
      rintro ⟨i3, i_4⟩ _ he
      refine go_if he (fun he => ?_) fun he => ?_
      ·refine go_rq he fun he => ?_
       refine And.intro (by kernel_rfl) ?_
       obtain ⟨r8_, hq1, he⟩ := ok_bind he
       obtain ⟨hq2, he⟩ := ok_rq he
       refine And.intro ?_ (And.intro ?_ (trivial))
       ·skip
        refine And.intro ?_ trivial
        refine ⟨r8_, hq1, ?_⟩
        exact wkz_66
       ·skip
        refine ⟨r8_, hq1, ?_⟩
        refine And.intro ?_ (And.intro ?_ (trivial))
        ·skip
         exact wkz_66
        ·skip
         exact wkz_66
      ·exact ⟨_, (ok_up he :), (leads_au [(10005000, 10004000), (10005001, 10004002), (10005002, 10004004), (10005003, 10004005), (10005004, 10004006)])⟩
    ·skip
     refine go_if he (fun he => ?_) fun he => ?_
     ·refine go_bind he fun r5_ he => ?_
      exact ⟨_, he, (leads_ren [(10003000, 10002001), (10003001, 10002002), (10003002, 10002003), (10003003, 10002004), (10003004, 10002005), (10003005, 45900)] rfl rfl ⟨⟨rfl, rfl, rfl, rfl, rfl, trivial⟩, ⟨⟨⟨rfl, rfl⟩, trivial⟩, trivial⟩, ⟨rfl, ⟨⟨rfl, rfl⟩, trivial⟩, ⟨⟨rfl, rfl⟩, trivial⟩, rfl, rfl, trivial⟩, ⟨rfl, rfl⟩, ⟨rfl, rfl⟩, ⟨rfl, rfl⟩, trivial⟩ ⟨.inr ⟨10002000, rfl, ⟨rfl, by repeat (first | exact trivial | refine And.intro trivial ?_)⟩, rfl⟩, ⟨⟨rfl, rfl⟩, rfl⟩, ⟨rfl, ⟨⟨rfl, rfl⟩, trivial⟩⟩, ⟨⟨rfl, rfl⟩, rfl⟩, trivial⟩)⟩
     ·exact ⟨_, he, (leads_ren [(10003000, 10002001), (10003001, 10002002), (10003002, 10002003), (10003003, 10002004), (10003004, 10002005)] rfl rfl ⟨⟨rfl, rfl, rfl, rfl, rfl, trivial⟩, ⟨⟨⟨rfl, rfl⟩, trivial⟩, trivial⟩, ⟨rfl, ⟨⟨rfl, rfl⟩, trivial⟩, ⟨rfl, trivial⟩, rfl, rfl, trivial⟩, ⟨rfl, rfl⟩, ⟨rfl, rfl⟩, trivial, trivial⟩ ⟨.inr ⟨10002000, rfl, ⟨rfl, by repeat (first | exact trivial | refine And.intro trivial ?_)⟩, rfl⟩, ⟨⟨rfl, rfl⟩, rfl⟩, ⟨rfl, ⟨⟨rfl, rfl⟩, trivial⟩⟩, ⟨⟨rfl, rfl⟩, rfl⟩, trivial⟩)⟩
   ·skip
    refine And.intro (by kernel_rfl) ?_
    obtain ⟨r4_, hq1, he⟩ := ok_bind he
    refine And.intro ?_ (And.intro ?_ (And.intro ?_ (And.intro ?_ (trivial))))
    ·skip
     refine And.intro ?_ (And.intro ?_ (And.intro ?_ (trivial)))
     ·exact wkz_74
     ·exact wkz_76
     ·exact wkz_77
    ·skip
     refine And.intro ?_ (And.intro ?_ (And.intro ?_ (And.intro ?_ (trivial))))
     ·exact wkz_74
     ·skip
      refine ⟨r4_, hq1, ?_⟩
      refine And.intro ?_ (And.intro ?_ (And.intro ?_ (trivial)))
      ·skip
       exact wkz_69
      ·skip
       exact wkz_69
      ·skip
       exact wkz_78
     ·exact wkz_79
     ·exact wkz_80
    ·skip
     refine And.intro ?_ (And.intro ?_ (And.intro ?_ (trivial)))
     ·exact wkz_76
     ·exact wkz_79
     ·skip
      refine And.intro ?_ (And.intro ?_ (trivial))
      ·exact wkz_75
      ·skip
       refine And.intro ?_ (And.intro ?_ (trivial))
       ·exact wkz_70
       ·exact wkz_72
    ·skip
     refine And.intro ?_ (And.intro ?_ (And.intro ?_ (trivial)))
     ·exact wkz_77
     ·exact wkz_80
     ·skip
      refine And.intro ?_ (And.intro ?_ (trivial))
      ·exact wkz_75
      ·skip
       refine And.intro ?_ (And.intro ?_ (trivial))
       ·exact wkz_70
       ·exact wkz_72
  ·skip
   refine wkLoop (impl_Rule_canonical_l2 (a0_0, (a0_1, (a0_2, (a0_3, a0_4))))) (fun (i, i1) => (envOf [(1, .c (.ptr 10000000 0)), (2, .c (.ptr 10000001 0)), (3, .c (.ptr 10000002 0)), (16, .c (.int .i64 ((a0_0, (a0_1, (a0_2, (a0_3, a0_4)))).2.1.length:Int))), (17, .c (.int .i64 i))], [(10000000, .rc [.int .i64 (a0_0, (a0_1, (a0_2, (a0_3, a0_4)))).1, .imm y0_ (a0_0, (a0_1, (a0_2, (a0_3, a0_4)))).2.1, .imm y0_ (a0_0, (a0_1, (a0_2, (a0_3, a0_4)))).2.2.1, .int .i64 (a0_0, (a0_1, (a0_2, (a0_3, a0_4)))).2.2.2.1, .imm (.sl y0_) (a0_0, (a0_1, (a0_2, (a0_3, a0_4)))).2.2.2.2]), (10000001, .rc [.int .i64 (0:Int), .nil, .nil, .int .i64 (0:Int), .nil]), (10000002, .rc [.own 10000003 false]), (10000003, .sl 3 y0_ i1 .shallow)])) he (leads_au [(10000000, 1), (10000001, 2), (10000002, 3)]) ?_
   rintro ⟨i, i1⟩ _ he
   refine go_if he (fun he => ?_) fun he => ?_
   ·refine go_rq he fun he => ?_
    refine go_rq he fun he => ?_
    exact ⟨_, (ok_some he :), (leads_au [(10000003, 23)])⟩
   ·exact ⟨_, (ok_up he :), (leads_au [(10001000, 10000000), (10001001, 10000001), (10001002, 10000002), (10001003, 10000003)])⟩

noncomputable def c_impl_ruleWords : Con := fun
  | [], [] => .opt _ (impl_ruleWords) (fun r => .ret (.c (.own 900 false)) [(900, .sl 9 .str r .shallow)])
  | _, _ => .fail

noncomputable def C_impl_ruleWords : Cfg := { y := tys, n := 2, h := 0, tab := [] }

theorem k_impl_ruleWords : Entry Tryz.prog 116 c_impl_ruleWords := by
 refine wkEnt (C := C_impl_ruleWords) Tryz.f116 wkNil fun _ a b k he => ?_
 unfold c_impl_ruleWords at he; split at he; rotate_left; exact he.elim
 refine wkGo0 he fun he => ?_
 exact wkRet [(0, [])] (ok_some he :) (leads_au [(900, 1)])

noncomputable def c_strconv_Itoa : Con := itoaC

theorem k_strconv_Itoa : Entry Tryz.prog 117 c_strconv_Itoa := itoa_entry lays117 (Option.isSome_iff_exists.1 (by kernel_rfl))

noncomputable def c_impl_digits : Con := fun
  | [.c (.imm (.int .i64) list_)], [] => .opt _ (impl_digits list_) (fun r => .ret (.c (.str r)) [])
  | _, _ => .fail

noncomputable def C_impl_digits : Cfg := { y := tys, n := 18, h := 0, tab := [(117, c_strconv_Itoa)] }

theorem k_impl_digits : Entry Tryz.prog 118 c_impl_digits := by
 refine wkEnt (C := C_impl_digits) Tryz.f118 (wkTab k_strconv_Itoa wkNil) fun _ a b k he => ?_
 unfold c_impl_digits at he; split at he; rotate_left; exact he.elim
 rename_i list_
 refine wkGo0 he fun he => ?_
 refine wkLoop (impl_digits_l1 list_) (fun (out, i) => (envOf [(3, .c (.str out)), (6, .c (.imm y0_ list_)), (7, .c (.int .i64 (list_.length:Int))), (8, .c (.int .i64 i))], [])) he (leads_au []) ?_
 rintro ⟨out, i⟩ _ he
 refine go_if he (fun he => ?_) fun he => ?_
 ·refine go_rq he fun he => ?_
  refine go_bind he fun r1_ he => ?_
  exact wkz_10
 ·exact wkz_1

noncomputable def c_impl_Rule_text : Con := fun
  | [.agg [.int .i64 r__0, .imm (.int .i64) r__1, .imm (.int .i64) r__2, .int .i64 r__3, .imm (.sl (.int .i64)) r__4]], [] => .opt _ (impl_Rule_text (r__0, (r__1, (r__2, (r__3, r__4))))) (fun r => .ret (.c (.str r)) [])
  | _, _ => .fail

noncomputable def C_impl_Rule_text_s1 : Sched := .first 3 (.alt 4 (.first 5 .done) .stop)
noncomputable def C_impl_Rule_text : Cfg := { y := tys, n := 64, h := 0, tab := [(116, c_impl_ruleWords), (117, c_strconv_Itoa), (118, c_impl_digits)], cut := [2], sched := [(1, (.first 1 (.alt 0 (.alt 2 C_impl_Rule_text_s1 .stop) (.alt 2 (.alt 0 C_impl_Rule_text_s1 .stop) .stop))))] }

theorem wkz_81 {P : Prop} (h : P := by
  refine And.intro hq2 ?_
  refine And.intro ?_ trivial
  exact ⟨_, he, (leads_au [(10000000, 1)])⟩) : P := h

theorem k_impl_Rule_text : Entry Tryz.prog 82 c_impl_Rule_text := by
 refine wkEnt (C := C_impl_Rule_text) Tryz.f82 (wkTab k_impl_ruleWords (wkTab k_strconv_Itoa (wkTab k_impl_digits wkNil))) fun _ a b k he => ?_
 unfold c_impl_Rule_text at he; split at he; rotate_left; exact he.elim
 rename_i r__0 r__1 r__2 r__3 r__4
 refine wkGo0 he fun he => ?_
 refine wkSeq (impl_Rule_text_j1 (r__0, (r__1, (r__2, (r__3, r__4))))) (fun out => (envOf [(1, .c (.ptr 10000000 0)), (3, .c (.str out))], [(10000000, .rc [.int .i64 (r__0, (r__1, (r__2, (r__3, r__4)))).1, .imm y0_ (r__0, (r__1, (r__2, (r__3, r__4)))).2.1, .imm y0_ (r__0, (r__1, (r__2, (r__3, r__4)))).2.2.1, .int .i64 (r__0, (r__1, (r__2, (r__3, r__4)))).2.2.2.1, .imm (.sl y0_) (r__0, (r__1, (r__2, (r__3, r__4)))).2.2.2.2])])) he ?_ ?_
 ·rintro out he
  refine go_if he (fun he => ?_) fun he => ?_
  ·refine wkLoop (impl_Rule_text_l1 (r__0, (r__1, (r__2, (r__3, r__4))))) (fun (out1, i) => (envOf [(1, .c (.ptr 10001000 0)), (3, .c (.str out1)), (17, .c (.imm y0_ (r__0, (r__1, (r__2, (r__3, r__4)))).2.1)), (18, .c (.int .i64 ((r__0, (r__1, (r__2, (r__3, r__4)))).2.1.length:Int))), (19, .c (.int .i64 i))], [(10001000, .rc [.int .i64 (r__0, (r__1, (r__2, (r__3, r__4)))).1, .imm y0_ (r__0, (r__1, (r__2, (r__3, r__4)))).2.1, .imm y0_ (r__0, (r__1, (r__2, (r__3, r__4)))).2.2.1, .int .i64 (r__0, (r__1, (r__2, (r__3, r__4)))).2.2.2.1, .imm (.sl y0_) (r__0, (r__1, (r__2, (r__3, r__4)))).2.2.2.2])])) he (leads_au [(10001000, 10000000)]) ?_
   rintro ⟨out1, i⟩ _ he
   refine go_if he (fun he => ?_) fun he => ?_
   ·refine go_rq he fun he => ?_
    refine go_rq he fun he => ?_
    refine go_bind he fun r3_ he => ?_
    refine go_rq he fun he => ?_
    refine go_rq he fun he => ?_
    refine go_bind he fun r4_ he => ?_
    exact wkz_11
   ·refine go_rq he fun he => ?_
    refine go_bind he fun r5_ he => ?_
    refine go_rq he fun he => ?_
    exact wkz_16
  ·refine go_bind he fun r6_ he => ?_
   refine go_rq he fun he => ?_
   refine go_rq he fun he => ?_
   refine wkLoop (impl_Rule_text_l2 (r__0, (r__1, (r__2, (r__3, r__4))))) (fun (out2, i1) => (envOf [(3, .c (.str out2)), (51, .c (.imm (.sl y0_) (r__0, (r__1, (r__2, (r__3, r__4)))).2.2.2.2)), (52, .c (.int .i64 ((r__0, (r__1, (r__2, (r__3, r__4)))).2.2.2.2.length:Int))), (53, .c (.int .i64 i1))], [])) he (leads_au []) ?_
   rintro ⟨out2, i1⟩ _ he
   refine go_if he (fun he => ?_) fun he => ?_
   ·refine go_rq he fun he => ?_
    refine go_bind he fun r7_ he => ?_
    exact wkz_11
   ·exact wkz_1
 ·skip
  refine And.intro (by kernel_rfl) ?_
  obtain ⟨r2_, hq1, he⟩ := ok_bind he
  obtain ⟨hq2, he⟩ := ok_rq he
  refine And.intro ?_ (And.intro ?_ (trivial))
  ·skip
   refine ⟨r2_, hq1, ?_⟩
   refine And.intro ?_ trivial
   exact wkz_81
  ·skip
   refine And.intro ?_ trivial
   refine ⟨r2_, hq1, ?_⟩
   exact wkz_81

noncomputable def c_slices_Sort_string : Con := sortSC

theorem k_slices_Sort_string : Entry Tryz.prog 83 c_slices_Sort_string := sort_entryS lays83

noncomputable def c_slices_Compact_string : Con := fun
  | [.c (.own 0 false)], [(0, .sl 9 .str s_ .shallow)] => .opt _ (slices_Compact_string s_) (fun r => .ret (.c (.own 900 false)) [(0, .dead), (900, .sl 9 .str r .shallow)])
  | _, _ => .fail

noncomputable def C_slices_Compact_string : Cfg := { y := tys, n := 61, h := 1, tab := [], cut := [14] }

theorem k_slices_Compact_string : Entry Tryz.prog 84 c_slices_Compact_string := by
 refine wkEnt (C := C_slices_Compact_string) Tryz.f84 wkNil fun _ a b k he => ?_
 unfold c_slices_Compact_string at he; split at he; rotate_left; exact he.elim
 rename_i s_
 refine wkGo0 he fun he => ?_
 refine go_if he (fun he => ?_) fun he => ?_
 ·exact wkRet [(2, [])] (ok_some he :) (leads_au [(900, 0)])
 ·refine wkLoop (slices_Compact_string_l1 s_) (fun k_ => (envOf [(0, .c (.own 0 false)), (3, .c (.int .i64 k_))], [(0, .sl 9 .str s_ .shallow)])) he (leads_au []) ?_
  rintro k_ _ he
  refine go_if he (fun he => ?_) fun he => ?_
  ·refine And.intro (by kernel_rfl) ?_
   refine go_rq he fun he => ?_
   refine go_rq he fun he => ?_
   refine go_rq he fun he => ?_
   refine go_if he (fun he => ?_) fun he => ?_
   ·refine go_rq he fun he => ?_
    refine wkSeq (slices_Compact_string_j1) (fun (k_2, s_2) => (envOf [(0, .c (.own 0 false)), (3, .c (.int .i64 k_2))], [(0, .sl 9 .str s_2 .shallow)])) he ?_ ?_
    ·rintro ⟨k_2, s_2⟩ he
     refine go_rq he fun he => ?_
     refine go_rq he fun he => ?_
     exact wkRet [(2, [])] (ok_some he :) (leads_au [(900, 59)])
    ·skip
     refine wkLoop (slices_Compact_string_l2 k_) (fun (k_1, k2_, s_1) => (envOf [(0, .c (.own 0 false)), (3, .c (.int .i64 k_1)), (4, .c (.view 0 k_)), (5, .c (.int .i64 k2_))], [(0, .sl 9 .str s_1 .shallow)])) he (leads_au []) ?_
     rintro ⟨k_1, k2_, s_1⟩ _ he
     refine go_if he (fun he => ?_) fun he => ?_
     ·refine And.intro (by kernel_rfl) ?_
      refine go_rq he fun he => ?_
      refine go_rq he fun he => ?_
      refine go_rq he fun he => ?_
      exact wkz_63
     ·exact ⟨_, (ok_up he :), (leads_au [])⟩
   ·exact wkz_3
  ·exact wkRet [(2, [])] (ok_some he :) (leads_au [(900, 0)])

noncomputable def c_impl_Model_standard : Con := fun
  | [.agg [.imm (.int .i64) m_0, .imm (.pair (.int .i64) (.pair (.sl (.int .i64)) (.pair (.sl (.int .i64)) (.pair (.int .i64) (.sl (.sl (.int .i64))))))) m_1]], [] => .opt _ (impl_Model_standard (m_0, m_1)) (fun r => .ret (.c (.own 900 false)) [(900, .sl 9 .str r .shallow)])
  | _, _ => .fail

noncomputable def C_impl_Model_standard : Cfg := { y := tys, n := 24, h := 0, tab := [(81, c_impl_Rule_canonical), (82, c_impl_Rule_text), (83, c_slices_Sort_string), (84, c_slices_Compact_string)], cut := [7], hand := [(83, [0]), (84, [0])] }

theorem k_impl_Model_standard : Entry Tryz.prog 46 c_impl_Model_standard := by
 refine wkEnt (C := C_impl_Model_standard) Tryz.f46 (wkTab k_impl_Rule_canonical (wkTab k_impl_Rule_text (wkTab k_slices_Sort_string (wkTab k_slices_Compact_string wkNil)))) fun _ a b k he => ?_
 unfold c_impl_Model_standard at he; split at he; rotate_left; exact he.elim
 rename_i m_0 m_1
 refine wkGo0 he fun he => ?_
 refine wkSeq (impl_Model_standard_j1) (fun out1 => (envOf [(3, .c (.own 10001000 false))], [(10001000, .sl 9 .str out1 .shallow)])) he ?_ ?_
 ·rintro out1 he
  refine go_bind he fun r5_ he => ?_
  refine go_bind he fun r6_ he => ?_
  exact wkRet [(2, [])] (ok_some he :) (leads_au [(900, 24900)])
 ·skip
  refine wkLoop (impl_Model_standard_l1 (m_0, m_1)) (fun (i, out) => (envOf [(3, .c (.own 10000000 false)), (7, .c (.imm y4_ (m_0, m_1).2)), (8, .c (.int .i64 ((m_0, m_1).2.length:Int))), (9, .c (.int .i64 i))], [(10000000, .sl 9 .str out .shallow)])) he (leads_au []) ?_
  rintro ⟨i, out⟩ _ he
  refine go_if he (fun he => ?_) fun he => ?_
  ·refine go_rq he fun he => ?_
   refine go_bind he fun r3_ he => ?_
   refine go_bind he fun r4_ he => ?_
   exact wkz_13
  ·exact ⟨_, (ok_up he :), (leads_au [(10001000, 10000000)])⟩

noncomputable def c_slices_Equal_string : Con := fun
  | [.c (.imm .str s1_), .c (.imm .str s2_)], [] => .opt _ (slices_Equal_string s1_ s2_) (fun r => .ret (.c (.bool r)) [])
  | _, _ => .fail

noncomputable def C_slices_Equal_string : Cfg := { y := tys, n := 26, h := 0, tab := [] }

theorem k_slices_Equal_string : Entry Tryz.prog 44 c_slices_Equal_string := by
 refine wkEnt (C := C_slices_Equal_string) Tryz.f44 wkNil fun _ a b k he => ?_
 unfold c_slices_Equal_string at he; split at he; rotate_left; exact he.elim
 rename_i s1_ s2_
 refine wkGo0 he fun he => ?_
 refine go_if he (fun he => ?_) fun he => ?_
 ·exact wkz_1
 ·refine wkLoop (slices_Equal_string_l1 s1_ s2_) (fun i => (envOf [(0, .c (.imm .str s1_)), (1, .c (.imm .str s2_)), (12, .c (.int .i64 (s1_.length:Int))), (13, .c (.int .i64 i))], [])) he (leads_au []) ?_
  exact wkz_31

noncomputable def c_impl_SymmetryValid : Con := fun
  | [.agg [.imm (.int .i64) m_0, .imm (.pair (.int .i64) (.pair (.sl (.int .i64)) (.pair (.sl (.int .i64)) (.pair (.int .i64) (.sl (.sl (.int .i64))))))) m_1], .c (.imm (.int .i64) perm)], [] => .opt _ (impl_SymmetryValid (m_0, m_1) perm) (fun r => .ret (.c (.bool r)) [])
  | _, _ => .fail

noncomputable def C_impl_SymmetryValid_s1 : Sched := .alt 9 (.alt 10 (wkFs [11, 12] .done) .stop) .stop
noncomputable def C_impl_SymmetryValid_s2 : Sched := .alt 7 C_impl_SymmetryValid_s1 .stop
noncomputable def C_impl_SymmetryValid_s3 : Sched := .alt 6 C_impl_SymmetryValid_s2 .stop
noncomputable def C_impl_SymmetryValid : Cfg := { y := tys, n := 17, h := 0, tab := [(43, c_impl_PermValid), (44, c_slices_Equal_string), (45, c_impl_Model_permuted), (46, c_impl_Model_standard)], sched := [(1, (.first 1 (.alt 0 (.alt 2 (wkFs [3, 5] (.alt 4 (.alt 6 (.alt 7 (.alt 8 C_impl_SymmetryValid_s1 .stop) (.alt 8 C_impl_SymmetryValid_s2 .stop)) (.alt 8 C_impl_SymmetryValid_s3 .stop)) (.alt 8 (.alt 4 C_impl_SymmetryValid_s3 .stop) .stop))) .stop) .stop)))] }

theorem wkz_82 {P : Prop} (h : P := by
  refine And.intro ?_ trivial
  refine ⟨r9_, hq3, ?_⟩
  refine And.intro ?_ trivial
  refine ⟨r10_, hq4, ?_⟩
  exact wkz_7) : P := h

theorem wkz_83 {P : Prop} (h : P := by
  refine And.intro ?_ trivial
  refine ⟨r7_, hq1, ?_⟩
  refine And.intro ?_ trivial
  refine ⟨r8_, hq2, ?_⟩
  exact wkz_82) : P := h

theorem k_impl_SymmetryValid : Entry Tryz.prog 14 c_impl_SymmetryValid := by
 refine wkEnt (C := C_impl_SymmetryValid) Tryz.f14 (wkTab k_impl_PermValid (wkTab k_slices_Equal_string (wkTab k_impl_Model_permuted (wkTab k_impl_Model_standard wkNil)))) fun _ a b k he => ?_
 unfold c_impl_SymmetryValid at he; split at he; rotate_left; exact he.elim
 rename_i m_0 m_1 perm
 refine wkGo0 he fun he => ?_
 refine And.intro (by kernel_rfl) ?_
 refine And.intro ?_ trivial
 refine And.intro ?_ trivial
 refine go_bind he fun r6_ he => ?_
 refine go_if he (fun he => ?_) fun he => ?_
 ·obtain ⟨r7_, hq1, he⟩ := ok_bind he
  obtain ⟨r8_, hq2, he⟩ := ok_bind he
  obtain ⟨r9_, hq3, he⟩ := ok_bind he
  obtain ⟨r10_, hq4, he⟩ := ok_bind he
  refine And.intro ?_ (And.intro ?_ (trivial))
  ·skip
   refine And.intro ?_ (And.intro ?_ (trivial))
   ·skip
    refine ⟨r7_, hq1, ?_⟩
    refine And.intro ?_ (And.intro ?_ (trivial))
    ·skip
     refine ⟨r8_, hq2, ?_⟩
     refine And.intro ?_ trivial
     exact wkz_82
    ·skip
     refine And.intro ?_ trivial
     refine ⟨r8_, hq2, ?_⟩
     exact wkz_82
   ·skip
    exact wkz_83
  ·skip
   refine And.intro ?_ trivial
   exact wkz_83
 ·refine And.intro ?_ (And.intro ?_ (trivial))
  ·skip
   refine And.intro ?_ (And.intro ?_ (trivial))
   ·skip
    exact wkz_61
   ·skip
    refine And.intro ?_ trivial
    exact wkz_60
  ·skip
   refine And.intro ?_ trivial
   refine And.intro ?_ trivial
   exact wkz_60

noncomputable def c_impl_FindSwaps : Con := fun
  | [.agg [.imm (.int .i64) m_0, .imm (.pair (.int .i64) (.pair (.sl (.int .i64)) (.pair (.sl (.int .i64)) (.pair (.int .i64) (.sl (.sl (.int .i64))))))) m_1]], [] => .opt _ (impl_FindSwaps (m_0, m_1)) (fun r => .ret (.c (.own 900 false)) [(900, .sl 22 (.sl y0_) r (.deep true .no))])
  | _, _ => .fail

noncomputable def C_impl_FindSwaps : Cfg := { y := tys, n := 56, h := 0, tab := [(14, c_impl_SymmetryValid), (22, c_impl_ModelValid)], cut := [16], deep := [52] }

theorem k_impl_FindSwaps : Entry Tryz.prog 18 c_impl_FindSwaps := by
 refine wkEnt (C := C_impl_FindSwaps) Tryz.f18 (wkTab k_impl_SymmetryValid (wkTab k_impl_ModelValid wkNil)) fun _ a b k he => ?_
 unfold c_impl_FindSwaps at he; split at he; rotate_left; exact he.elim
 rename_i m_0 m_1
 refine wkGo0 he fun he => ?_
 refine go_bind he fun r1_ he => ?_
 refine go_if he (fun he => ?_) fun he => ?_
 ·exact wkz_16
 ·refine wkLoop (impl_FindSwaps_l1 (m_0, m_1)) (fun (i, out1) => (envOf [(1, .c (.ptr 10000000 0)), (3, .c (.own 10000001 false)), (13, .c (.int .i64 ((m_0, m_1).1.length:Int))), (14, .c (.int .i64 i))], [(10000000, .rc [.imm y0_ (m_0, m_1).1, .imm y4_ (m_0, m_1).2]), (10000001, .sl 22 (.sl y0_) out1 (.deep true .no))])) he (leads_au [(10000000, 1)]) ?_
  rintro ⟨i, out1⟩ _ he
  refine go_if he (fun he => ?_) fun he => ?_
  ·refine go_rq he fun he => ?_
   refine wkLoop (impl_FindSwaps_l2 (m_0, m_1) i) (fun (k_1, out2) => (envOf [(1, .c (.ptr 10006000 0)), (3, .c (.own 10006001 false)), (4, .c (.int .i64 i)), (5, .c (.int .i64 k_1)), (13, .c (.int .i64 ((m_0, m_1).1.length:Int))), (14, .c (.int .i64 i))], [(10006000, .rc [.imm y0_ (m_0, m_1).1, .imm y4_ (m_0, m_1).2]), (10006001, .sl 22 (.sl y0_) out2 (.deep true .no))])) he (leads_au [(10006000, 10000000), (10006001, 10000001)]) ?_
   rintro ⟨k_1, out2⟩ _ he
   refine go_if he (fun he => ?_) fun he => ?_
   ·refine wkSeq (impl_FindSwaps_j1 (m_0, m_1) i k_1 out2) (fun perm7 => (envOf [(1, .c (.ptr 10010000 0)), (3, .c (.own 10010001 false)), (4, .c (.int .i64 i)), (5, .c (.int .i64 k_1)), (6, .c (.own 10010002 false)), (13, .c (.int .i64 ((m_0, m_1).1.length:Int))), (14, .c (.int .i64 i))], [(10010000, .rc [.imm y0_ (m_0, m_1).1, .imm y4_ (m_0, m_1).2]), (10010001, .sl 22 (.sl y0_) out2 (.deep true .no)), (10010002, .sl 3 y0_ perm7 .shallow)])) he ?_ ?_
    ·rintro perm7 he
     refine go_rq he fun he => ?_
     refine go_rq he fun he => ?_
     refine go_bind he fun r5_ he => ?_
     refine go_if he (fun he => ?_) fun he => ?_
     ·refine go_rq he fun he => ?_
      refine go_rq he fun he => ?_
      exact ⟨_, (ok_some he :), (leads_au [(10006000, 10010000), (10006001, 53)])⟩
     ·refine go_rq he fun he => ?_
      exact ⟨_, (ok_some he :), (leads_au [(10006000, 10010000), (10006001, 10010001)])⟩
    ·skip
     refine wkLoop (impl_FindSwaps_l3 (m_0, m_1) i k_1 out2) (fun (i4, perm6) => (envOf [(1, .c (.ptr 10009000 0)), (3, .c (.own 10009001 false)), (4, .c (.int .i64 i)), (5, .c (.int .i64 k_1)), (6, .c (.own 10009002 false)), (13, .c (.int .i64 ((m_0, m_1).1.length:Int))), (14, .c (.int .i64 i)), (28, .c (.int .i64 ((m_0, m_1).1.length:Int))), (29, .c (.int .i64 i4))], [(10009000, .rc [.imm y0_ (m_0, m_1).1, .imm y4_ (m_0, m_1).2]), (10009001, .sl 22 (.sl y0_) out2 (.deep true .no)), (10009002, .sl 3 y0_ perm6 .shallow)])) he (leads_au [(10009000, 10006000), (10009001, 10006001)]) ?_
     rintro ⟨i4, perm6⟩ _ he
     refine go_if he (fun he => ?_) fun he => ?_
     ·refine go_rq he fun he => ?_
      refine go_rq he fun he => ?_
      exact ⟨_, (ok_some he :), (leads_au [(10009002, 35)])⟩
     ·exact ⟨_, (ok_up he :), (leads_au [(10010000, 10009000), (10010001, 10009001), (10010002, 10009002)])⟩
   ·refine go_rq he fun he => ?_
    exact ⟨_, (ok_some he :), (leads_au [(10000000, 10006000), (10000001, 10006001)])⟩
  ·exact wkRet [(2, [])] (ok_some he :) (leads_au [(900, 10000001)])

noncomputable def c_impl_BreakSwaps : Con := fun
  | [.agg [.imm (.int .i64) m_0, .imm (.pair (.int .i64) (.pair (.sl (.int .i64)) (.pair (.sl (.int .i64)) (.pair (.int .i64) (.sl (.sl (.int .i64))))))) m_1]], [] => .opt _ (impl_BreakSwaps (m_0, m_1)) (fun r => .ret (.tup [.agg [.own 901 false, .own 902 false], .c (.bool r.1)]) [(900, .rc [.own 901 false, .own 902 false]), (901, .sl 3 y0_ r.2.1 .shallow), (902, .sl 72 y4_ r.2.2 (.deep true .no))])
  | _, _ => .fail

noncomputable def C_impl_BreakSwaps : Cfg := { y := tys, n := 35, h := 0, tab := [(18, c_impl_FindSwaps), (22, c_impl_ModelValid), (66, c_impl_Model_own)], cut := [9], deep := [25] }

theorem k_impl_BreakSwaps : Entry Tryz.prog 33 c_impl_BreakSwaps := by
 refine wkEnt (C := C_impl_BreakSwaps) Tryz.f33 (wkTab k_impl_FindSwaps (wkTab k_impl_ModelValid (wkTab k_impl_Model_own wkNil))) fun _ a b k he => ?_
 unfold c_impl_BreakSwaps at he; split at he; rotate_left; exact he.elim
 rename_i m_0 m_1
 refine wkGo0 he fun he => ?_
 refine go_bind he fun r1_ he => ?_
 refine go_if he (fun he => ?_) fun he => ?_
 ·exact wkz_43
 ·refine go_bind he fun r2_ he => ?_
  refine wkSeq (impl_BreakSwaps_j1 r2_) (fun out_11 => (envOf [(2, .c (.ptr 10001000 0)), (4, .c (.ptr 10001001 0))], [(10001000, .rc [.nil, .nil]), (10001001, .rc [.own 10001002 false, .own 10001003 false]), (10001002, .sl 3 y0_ r2_.1 .shallow), (10001003, .sl 72 y4_ out_11 (.deep true .no))])) he ?_ ?_
  ·rintro out_11 he
   exact wkz_44
  ·skip
   refine go_bind he fun r3_ he => ?_
   refine wkLoop (impl_BreakSwaps_l1 r2_ r3_) (fun (i, k_, out_1) => (envOf [(2, .c (.ptr 10000000 0)), (4, .c (.ptr 10000001 0)), (14, .c (.own 10000002 false)), (15, .c (.int .i64 (r3_.length:Int))), (16, .c (.int .i64 i))], [(10000000, .rc [.nil, .nil]), (10000001, .rc [.own 10000003 false, .own 10000004 false]), (10000002, .sl 22 (.sl y0_) r3_ (.rest k_)), (10000003, .sl 3 y0_ r2_.1 .shallow), (10000004, .sl 72 y4_ out_1 (.deep true .no))])) he ((leads_rest 15900).trans (leads_au [(10000000, 2), (10000001, 4), (10000002, 15900), (10000003, 13901), (10000004, 13902)] (l := [(2, .c (.ptr 10000000 0)), (4, .c (.ptr 10000001 0)), (14, .c (.own 10000002 false)), (15, .c (.int .i64 (r3_.length:Int))), (16, .c (.int .i64 (0:Int)))]) (st' := [(10000000, .rc [.nil, .nil]), (10000001, .rc [.own 10000003 false, .own 10000004 false]), (10000002, .sl 22 (.sl y0_) r3_ (.rest (0:Int))), (10000003, .sl 3 y0_ r2_.1 .shallow), (10000004, .sl 72 y4_ r2_.2 (.deep true .no))]))) ?_
   rintro ⟨i, k_, out_1⟩ _ he
   refine go_if he (fun he => ?_) fun he => ?_
   ·refine go_rq he fun he => ?_
    refine go_rq he fun he => ?_
    refine go_rq he fun he => ?_
    refine go_rq he fun he => ?_
    exact ⟨_, (ok_some he :), (leads_au [(10000004, 26)])⟩
   ·exact ⟨_, (ok_up he :), (leads_au [(10001000, 10000000), (10001001, 10000001), (10001002, 10000003), (10001003, 10000004)])⟩

noncomputable def c_laws_eqIntS : Con := fun
  | [.c (.imm (.int .i64) a), .c (.imm (.int .i64) b)], [] => .opt _ (laws_eqIntS a b) (fun r => .ret (.c (.bool r)) [])
  | _, _ => .fail

noncomputable def C_laws_eqIntS : Cfg := { y := tys, n := 26, h := 0, tab := [] }

theorem k_laws_eqIntS : Entry Tryz.prog 16 c_laws_eqIntS := by
 refine wkEnt (C := C_laws_eqIntS) Tryz.f16 wkNil fun _ a b k he => ?_
 unfold c_laws_eqIntS at he; split at he; rotate_left; exact he.elim
 rename_i a b
 refine wkGo0 he fun he => ?_
 refine go_if he (fun he => ?_) fun he => ?_
 ·exact wkz_1
 ·refine wkLoop (laws_eqIntS_l1 a b) (fun i => (envOf [(0, .c (.imm y0_ a)), (1, .c (.imm y0_ b)), (5, .c (.int .i64 i))], [])) he (leads_au []) ?_
  exact wkz_31

noncomputable def c_laws_eqIntSS : Con := fun
  | [.c (.imm (.sl (.int .i64)) a), .c (.imm (.sl (.int .i64)) b)], [] => .opt _ (laws_eqIntSS a b) (fun r => .ret (.c (.bool r)) [])
  | _, _ => .fail

noncomputable def C_laws_eqIntSS : Cfg := { y := tys, n := 27, h := 0, tab := [(16, c_laws_eqIntS)], sched := [(6, (wkFs [0, 1, 2, 3, 4, 5, 6, 7] (.alt 8 (.first 9 .done) .stop)))] }

theorem wkz_84 {P : Prop} (h : P := by
  rintro i _ he
  refine go_if he (fun he => ?_) fun he => ?_
  ·refine And.intro (by kernel_rfl) ?_
   refine go_rq he fun he => ?_
   refine go_rq he fun he => ?_
   refine And.intro ?_ trivial
   refine go_bind he fun r2_ he => ?_
   exact wkz_4
  ·exact wkz_1) : P := h

theorem k_laws_eqIntSS : Entry Tryz.prog 24 c_laws_eqIntSS := by
 refine wkEnt (C := C_laws_eqIntSS) Tryz.f24 (wkTab k_laws_eqIntS wkNil) fun _ a b k he => ?_
 unfold c_laws_eqIntSS at he; split at he; rotate_left; exact he.elim
 rename_i a b
 refine wkGo0 he fun he => ?_
 refine go_if he (fun he => ?_) fun he => ?_
 ·exact wkz_1
 ·refine wkLoop (laws_eqIntSS_l1 a b) (fun i => (envOf [(0, .c (.imm (.sl y0_) a)), (1, .c (.imm (.sl y0_) b)), (5, .c (.int .i64 i))], [])) he (leads_au []) ?_
  exact wkz_84

end Go.AE.Y
