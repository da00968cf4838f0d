/-
  Walks: each function keeps the contract that its model gives. No conditions.
-/
import Derived.Test.YtgpinbepiniogaaRBTab
import Derived.Test.YtgpinbepiniogaaRBW2
import Derived.Test.YtgpinbepiniogaaRBS
import Derived.Test.YtgpinbepiniogaaPx1
namespace Go.AE.Y
open Go Go.AE Go.Proofs
set_option linter.unusedVariables false
set_option maxHeartbeats 2000000
set_option maxRecDepth 100000

noncomputable def c_slices_Clone_s_int : Con := fun
  | [.c (.imm (.sl (.int .i64)) s_)], [] => .opt _ (slices_Clone_s_int s_) (fun r => .ret (.c (.own 900 false)) [(900, .sl 23 (.sl y0_) r .shallow)])
  | _, _ => .fail

noncomputable def C_slices_Clone_s_int : Cfg := { y := tys, n := 8, h := 0, tab := [] }

theorem k_slices_Clone_s_int : Entry Try.prog 74 c_slices_Clone_s_int := by
 refine wkEnt (C := C_slices_Clone_s_int) Try.f74 wkNil fun _ a b k he => ?_
 unfold c_slices_Clone_s_int at he; split at he; rotate_left; exact he.elim
 rename_i s_
 refine wkGo0 he fun he => ?_
 refine fun b1_ hb1_ => ?_
 have he := ok_nt he hb1_
 refine And.intro (fun hb => ?_) (fun hb => ?_)
 ·have he := ok_t he hb
  exact wkz_14
 ·have he := ok_f he hb
  refine go_rq he fun he => ?_
  exact wkRet [(2, [])] (ok_some he :) (leads_au [(900, 7)])

noncomputable def c_impl_Rule_own : Con := fun
  | [.agg [.int .i64 r__0, .imm (.int .i64) r__1, .imm (.int .i64) r__2, .int .i64 r__3, .imm (.sl (.int .i64)) r__4]], [] => .opt _ (impl_Rule_own (r__0, (r__1, (r__2, (r__3, r__4))))) (fun r => .ret (.agg [.int .i64 r.1, .own 901 false, .own 902 false, .int .i64 r.2.1, .own 903 false]) [(900, .rc [.int .i64 r.1, .own 901 false, .own 902 false, .int .i64 r.2.1, .own 903 false]), (901, .sl 3 y0_ r.2.2.1 .shallow), (902, .sl 3 y0_ r.2.2.2.1 .shallow), (903, .sl 23 (.sl y0_) r.2.2.2.2 (.deep true .no))])
  | _, _ => .fail

noncomputable def C_impl_Rule_own_s1 : Sched := .alt 8 (.alt 10 (.first 11 (.alt 12 (.first 13 (.alt 14 .done .stop)) .stop)) .stop) .stop
noncomputable def C_impl_Rule_own_s2 : Sched := .first 9 (.alt 5 C_impl_Rule_own_s1 .stop)
noncomputable def C_impl_Rule_own_s3 : Sched := .alt 5 (.alt 7 (.first 9 C_impl_Rule_own_s1) .stop) (.alt 7 C_impl_Rule_own_s2 .stop)
noncomputable def C_impl_Rule_own_s4 : Sched := .alt 4 C_impl_Rule_own_s2 .stop
noncomputable def C_impl_Rule_own_s5 : Sched := .alt 2 C_impl_Rule_own_s2 .stop
noncomputable def C_impl_Rule_own_s6 : Sched := .alt 2 C_impl_Rule_own_s3 (.alt 7 C_impl_Rule_own_s5 .stop)
noncomputable def C_impl_Rule_own_s7 : Sched := .alt 2 C_impl_Rule_own_s4 (.alt 4 C_impl_Rule_own_s5 .stop)
noncomputable def C_impl_Rule_own_s8 : Sched := .alt 1 C_impl_Rule_own_s5 .stop
noncomputable def C_impl_Rule_own_s9 : Sched := .first 5 (.alt 6 .done .stop)
noncomputable def C_impl_Rule_own : Cfg := { y := tys, n := 33, h := 0, tab := [(73, c_slices_Clone_int), (74, c_slices_Clone_s_int)], cut := [2], sched := [(1, (wkFs [0, 3, 6] (.alt 1 (.alt 2 (.alt 4 C_impl_Rule_own_s3 (.alt 7 C_impl_Rule_own_s4 .stop)) (.alt 4 C_impl_Rule_own_s6 (.alt 7 C_impl_Rule_own_s7 .stop))) (.alt 4 (.alt 1 C_impl_Rule_own_s6 (.alt 7 C_impl_Rule_own_s8 .stop)) (.alt 7 (.alt 1 C_impl_Rule_own_s7 (.alt 4 C_impl_Rule_own_s8 .stop)) .stop))))), (5, (wkFs [0, 2, 3] (.alt 1 (.alt 4 C_impl_Rule_own_s9 .stop) (.alt 4 (.alt 1 C_impl_Rule_own_s9 .stop) .stop))))] }

theorem wkz_32 {P : Prop} (h : P := by
  refine And.intro hq2 ?_
  refine And.intro ?_ trivial
  refine And.intro hq3 ?_
  exact wkz_3) : P := h

theorem wkz_33 {P : Prop} (h : P := by
  refine And.intro ?_ trivial
  refine ⟨r6_, hq3, ?_⟩
  refine And.intro ?_ trivial
  refine And.intro ?_ trivial
  refine And.intro ?_ trivial
  exact ⟨_, he, (leads_au [(10000000, 1), (10000001, 2), (10000002, 8900), (10000003, 11900), (10000004, 14900)])⟩) : P := h

theorem wkz_34 {P : Prop} (h : P := by
  refine And.intro ?_ trivial
  refine ⟨r5_, hq2, ?_⟩
  exact wkz_33) : P := h

theorem wkz_35 {P : Prop} (h : P := by
  refine And.intro ?_ (And.intro ?_ (trivial))
  ·skip
   refine ⟨r5_, hq2, ?_⟩
   refine And.intro ?_ trivial
   exact wkz_33
  ·skip
   exact wkz_34) : P := h

theorem wkz_36 {P : Prop} (h : P := by
  skip
  refine And.intro ?_ (And.intro ?_ (trivial))
  ·skip
   refine ⟨r4_, hq1, ?_⟩
   exact wkz_35
  ·skip
   refine And.intro ?_ trivial
   refine ⟨r4_, hq1, ?_⟩
   exact wkz_34) : P := h

theorem wkz_37 {P : Prop} (h : P := by
  skip
  refine And.intro ?_ (And.intro ?_ (trivial))
  ·skip
   refine ⟨r4_, hq1, ?_⟩
   refine And.intro ?_ trivial
   exact wkz_34
  ·skip
   refine And.intro ?_ trivial
   refine ⟨r4_, hq1, ?_⟩
   exact wkz_34) : P := h

theorem k_impl_Rule_own : Entry Try.prog 51 c_impl_Rule_own := by
 refine wkEnt (C := C_impl_Rule_own) Try.f51 (wkTab k_slices_Clone_int (wkTab k_slices_Clone_s_int wkNil)) fun _ a b k he => ?_
 unfold c_impl_Rule_own at he; split at he; rotate_left; exact he.elim
 rename_i r__0 r__1 r__2 r__3 r__4
 refine wkGo0 he fun he => ?_
 refine wkSeq (impl_Rule_own_j1 (r__0, (r__1, (r__2, (r__3, r__4))))) (fun (r_1, r_2, r_4) => (envOf [(1, .c (.ptr 10000000 0)), (2, .c (.ptr 10000001 0))], [(10000000, .rc [.int .i64 (r__0, (r__1, (r__2, (r__3, r__4)))).1, .own 10000002 false, .own 10000003 false, .int .i64 (r__0, (r__1, (r__2, (r__3, r__4)))).2.2.2.1, .own 10000004 false]), (10000001, .rc [.int .i64 (0:Int), .nil, .nil, .int .i64 (0:Int), .nil]), (10000002, .sl 3 y0_ r_1 .shallow), (10000003, .sl 3 y0_ r_2 .shallow), (10000004, .sl 23 (.sl y0_) r_4 .shallow)])) he ?_ ?_
 ·rintro ⟨r_1, r_2, r_4⟩ he
  refine wkLoop (impl_Rule_own_l1 (r__0, (r__1, (r__2, (r__3, r__4)))) r_1 r_2 r_4) (fun (i, k_, i1) => (envOf [(1, .c (.ptr 10001000 0)), (2, .c (.ptr 10001001 0)), (18, .c (.own 10001002 false)), (19, .c (.int .i64 (r_4.length:Int))), (20, .c (.int .i64 i))], [(10001000, .rc [.int .i64 (r__0, (r__1, (r__2, (r__3, r__4)))).1, .own 10001003 false, .own 10001004 false, .int .i64 (r__0, (r__1, (r__2, (r__3, r__4)))).2.2.2.1, .own 10001002 false]), (10001001, .rc [.int .i64 (0:Int), .nil, .nil, .int .i64 (0:Int), .nil]), (10001002, .sl 23 (.sl y0_) i1 (.mix k_)), (10001003, .sl 3 y0_ r_1 .shallow), (10001004, .sl 3 y0_ r_2 .shallow)])) he ((leads_mix 10000004).trans (leads_au [(10001000, 10000000), (10001001, 10000001), (10001002, 10000004), (10001003, 10000002), (10001004, 10000003)] (l := [(1, .c (.ptr 10001000 0)), (2, .c (.ptr 10001001 0)), (18, .c (.own 10001002 false)), (19, .c (.int .i64 (r_4.length:Int))), (20, .c (.int .i64 (0:Int)))]) (st' := [(10001000, .rc [.int .i64 (r__0, (r__1, (r__2, (r__3, r__4)))).1, .own 10001003 false, .own 10001004 false, .int .i64 (r__0, (r__1, (r__2, (r__3, r__4)))).2.2.2.1, .own 10001002 false]), (10001001, .rc [.int .i64 (0:Int), .nil, .nil, .int .i64 (0:Int), .nil]), (10001002, .sl 23 (.sl y0_) r_4 (.mix (0:Int))), (10001003, .sl 3 y0_ r_1 .shallow), (10001004, .sl 3 y0_ r_2 .shallow)]))) ?_
  rintro ⟨i, k_, i1⟩ _ he
  refine go_if he (fun he => ?_) fun he => ?_
  ·refine go_rq he fun he => ?_
   refine go_rq he fun he => ?_
   refine And.intro (by kernel_rfl) ?_
   obtain ⟨r9_, hq1, he⟩ := ok_bind he
   obtain ⟨hq2, he⟩ := ok_rq he
   obtain ⟨hq3, he⟩ := ok_rq he
   refine And.intro ?_ (And.intro ?_ (trivial))
   ·skip
    refine And.intro ?_ trivial
    refine ⟨r9_, hq1, ?_⟩
    exact wkz_32
   ·skip
    refine ⟨r9_, hq1, ?_⟩
    refine And.intro ?_ trivial
    exact wkz_32
  ·obtain ⟨hun0, he⟩ := ok_rq he
   exact wkRet [(2, [900])] (ok_some he :) ((leads_all 10001002 (by exact hun0)).trans (leads_au [(900, 10001001), (901, 10001003), (902, 10001004), (903, 10001002)] (l := [(2, .c (.ptr 900 0))]) (st' := [(900, .rc [.int .i64 (r__0, (r__1, (r__2, (r__3, r__4)))).1, .own 901 false, .own 902 false, .int .i64 (r__0, (r__1, (r__2, (r__3, r__4)))).2.2.2.1, .own 903 false]), (901, .sl 3 y0_ r_1 .shallow), (902, .sl 3 y0_ r_2 .shallow), (903, .sl 23 (.sl y0_) i1 (.deep true .no))])))
 ·skip
  refine And.intro (by kernel_rfl) ?_
  obtain ⟨r4_, hq1, he⟩ := ok_bind he
  obtain ⟨r5_, hq2, he⟩ := ok_bind he
  obtain ⟨r6_, hq3, he⟩ := ok_bind he
  refine And.intro ?_ (And.intro ?_ (And.intro ?_ (trivial)))
  ·skip
   refine And.intro ?_ (And.intro ?_ (And.intro ?_ (trivial)))
   ·skip
    refine ⟨r4_, hq1, ?_⟩
    refine And.intro ?_ (And.intro ?_ (trivial))
    ·skip
     exact wkz_35
    ·skip
     refine And.intro ?_ trivial
     exact wkz_34
   ·exact wkz_36
   ·exact wkz_37
  ·skip
   refine And.intro ?_ (And.intro ?_ (trivial))
   ·exact wkz_36
   ·skip
    refine And.intro ?_ trivial
    refine And.intro ?_ trivial
    refine ⟨r4_, hq1, ?_⟩
    exact wkz_34
  ·skip
   refine And.intro ?_ (And.intro ?_ (trivial))
   ·exact wkz_37
   ·skip
    refine And.intro ?_ trivial
    refine And.intro ?_ trivial
    refine ⟨r4_, hq1, ?_⟩
    exact wkz_34

noncomputable def c_impl_Rule_canonical_1 : Con := fun
  | [.c (.int .i64 a), .c (.int .i64 b), .c (.iptr (.pair (.int .i64) (.pair (.sl (.int .i64)) (.pair (.sl (.int .i64)) (.pair (.int .i64) (.sl (.sl (.int .i64))))))) a2 0)], [] => .opt _ (impl_Rule_canonical_1 a b a2) (fun r => .ret (.c (.int .i64 r)) [])
  | _, _ => .fail

noncomputable def C_impl_Rule_canonical_1 : Cfg := { y := tys, n := 17, h := 0, tab := [] }

theorem k_impl_Rule_canonical_1 : Entry Try.prog 53 c_impl_Rule_canonical_1 := by
 refine wkEnt (C := C_impl_Rule_canonical_1) Try.f53 wkNil fun _ a b k he => ?_
 unfold c_impl_Rule_canonical_1 at he; split at he; rotate_left; exact he.elim
 rename_i a b a2
 refine wkGo0 he fun he => ?_
 refine And.intro (by kernel_rfl) ?_
 refine go_rq he fun he => ?_
 exact wkz_18

noncomputable def c_slices_SortFunc_int__impl_Rule_canonical_1 : Con := sortCD y0_ y4_ 53 (fun d x y => impl_Rule_canonical_1 x y d)

theorem k_slices_SortFunc_int__impl_Rule_canonical_1 : Entry Try.prog 52 c_slices_SortFunc_int__impl_Rule_canonical_1 := sort_entryD lays52 k_impl_Rule_canonical_1 rfl (fun d x y => rfl)

noncomputable def c_impl_Rule_canonical_2__Rs : Con := fun
  | [.c (.imm (.int .i64) list_), .c (.ptr 0 0)], [(0, .rc [.own 1 false]), (1, .sl 3 (.int .i64) o1 .shallow)] => .opt _ (impl_Rule_canonical_2__Rs list_ o1) (fun r => .ret (.c (.own 900 false)) [(0, .rc [.own 1 false]), (1, .sl 3 y0_ o1 .shallow), (900, .sl 3 y0_ r .shallow)])
  | _, _ => .fail

noncomputable def C_impl_Rule_canonical_2__Rs : Cfg := { y := tys, n := 22, h := 2, tab := [] }

theorem k_impl_Rule_canonical_2__Rs : Entry Try.prog 54 c_impl_Rule_canonical_2__Rs := by
 refine wkEnt (C := C_impl_Rule_canonical_2__Rs) Try.f54 wkNil fun _ a b k he => ?_
 unfold c_impl_Rule_canonical_2__Rs at he; split at he; rotate_left; exact he.elim
 rename_i list_ o1
 refine wkGo0 he fun he => ?_
 refine wkLoop (impl_Rule_canonical_2__Rs_l1 list_ o1) (fun (i, out) => (envOf [(0, .c (.imm y0_ list_)), (4, .c (.own 10000000 false)), (7, .c (.own 1 false)), (8, .c (.int .i64 (o1.length:Int))), (9, .c (.int .i64 i))], [(0, .rc [.own 1 false]), (1, .sl 3 y0_ o1 .shallow), (10000000, .sl 3 y0_ out .shallow)])) he (leads_au []) ?_
 rintro ⟨i, out⟩ _ he
 refine go_if he (fun he => ?_) fun he => ?_
 ·refine go_rq he fun he => ?_
  refine go_rq he fun he => ?_
  refine go_rq he fun he => ?_
  refine go_rq he fun he => ?_
  exact ⟨_, (ok_some he :), (leads_au [(10000000, 19)])⟩
 ·exact wkRet [(3, [])] (ok_some he :) (leads_au [(900, 10000000)])

noncomputable def c_cmp_isNaN_int : Con := fun
  | [.c (.int .i64 x)], [] => .opt _ (cmp_isNaN_int x) (fun r => .ret (.c (.bool r)) [])
  | _, _ => .fail

noncomputable def C_cmp_isNaN_int : Cfg := { y := tys, n := 6, h := 0, tab := [] }

theorem k_cmp_isNaN_int : Entry Try.prog 108 c_cmp_isNaN_int := by
 refine wkEnt (C := C_cmp_isNaN_int) Try.f108 wkNil fun _ a b k he => ?_
 unfold c_cmp_isNaN_int at he; split at he; rotate_left; exact he.elim
 rename_i x
 refine wkGo0 he fun he => ?_
 exact wkRet0 he

noncomputable def c_cmp_Compare_int : Con := fun
  | [.c (.int .i64 x), .c (.int .i64 y)], [] => .opt _ (cmp_Compare_int x y) (fun r => .ret (.c (.int .i64 r)) [])
  | _, _ => .fail

noncomputable def C_cmp_Compare_int : Cfg := { y := tys, n := 20, h := 0, tab := [(108, c_cmp_isNaN_int)] }

theorem k_cmp_Compare_int : Entry Try.prog 78 c_cmp_Compare_int := by
 refine wkEnt (C := C_cmp_Compare_int) Try.f78 (wkTab k_cmp_isNaN_int wkNil) fun _ a b k he => ?_
 unfold c_cmp_Compare_int at he; split at he; rotate_left; exact he.elim
 rename_i x y
 refine wkGo0 he fun he => ?_
 refine go_bind he fun r1_ he => ?_
 refine go_bind he fun r2_ he => ?_
 refine go_if he (fun he => ?_) fun he => ?_
 ·exact wkz_2
 ·refine go_if he (fun he => ?_) fun he => ?_
  ·exact wkz_1
  ·refine go_if he (fun he => ?_) fun he => ?_
   ·exact wkz_1
   ·exact wkz_2

noncomputable def c_slices_Compare_int : Con := fun
  | [.c (.imm (.int .i64) s1_), .c (.imm (.int .i64) s2_)], [] => .opt _ (slices_Compare_int s1_ s2_) (fun r => .ret (.c (.int .i64 r)) [])
  | _, _ => .fail

noncomputable def C_slices_Compare_int : Cfg := { y := tys, n := 36, h := 0, tab := [(78, c_cmp_Compare_int)] }

theorem k_slices_Compare_int : Entry Try.prog 56 c_slices_Compare_int := by
 refine wkEnt (C := C_slices_Compare_int) Try.f56 (wkTab k_cmp_Compare_int wkNil) fun _ a b k he => ?_
 unfold c_slices_Compare_int at he; split at he; rotate_left; exact he.elim
 rename_i s1_ s2_
 refine wkGo0 he fun he => ?_
 refine wkLoop (slices_Compare_int_l1 s1_ s2_) (fun i => (envOf [(0, .c (.imm y0_ s1_)), (1, .c (.imm y0_ s2_)), (9, .c (.imm y0_ s1_)), (10, .c (.int .i64 (s1_.length:Int))), (11, .c (.int .i64 i))], [])) he (leads_au []) ?_
 rintro i _ he
 refine go_if he (fun he => ?_) fun he => ?_
 ·refine go_rq he fun he => ?_
  refine go_if he (fun he => ?_) fun he => ?_
  ·exact wkz_1
  ·exact wkz_5
 ·exact wkz_2

noncomputable def c_slices_SortFunc_s_int__slices_Compare_int : Con := sortCW (.sl y0_) 56 slices_Compare_int

theorem k_slices_SortFunc_s_int__slices_Compare_int : Entry Try.prog 55 c_slices_SortFunc_s_int__slices_Compare_int := sort_entryW lays55 k_slices_Compare_int rfl (fun x y => rfl)

noncomputable def c_slices_Equal_int : Con := fun
  | [.c (.imm (.int .i64) s1_), .c (.imm (.int .i64) s2_)], [] => .opt _ (slices_Equal_int s1_ s2_) (fun r => .ret (.c (.bool r)) [])
  | _, _ => .fail

noncomputable def C_slices_Equal_int : Cfg := { y := tys, n := 26, h := 0, tab := [] }

theorem k_slices_Equal_int : Entry Try.prog 27 c_slices_Equal_int := by
 refine wkEnt (C := C_slices_Equal_int) Try.f27 wkNil fun _ a b k he => ?_
 unfold c_slices_Equal_int at he; split at he; rotate_left; exact he.elim
 rename_i s1_ s2_
 refine wkGo0 he fun he => ?_
 refine go_if he (fun he => ?_) fun he => ?_
 ·exact wkz_1
 ·refine wkLoop (slices_Equal_int_l1 s1_ s2_) (fun i => (envOf [(0, .c (.imm y0_ s1_)), (1, .c (.imm y0_ s2_)), (12, .c (.int .i64 (s1_.length:Int))), (13, .c (.int .i64 i))], [])) he (leads_au []) ?_
  exact wkz_17

noncomputable def c_slices_CompactFunc_s_int__slices_Equal_int__t : Con := fun
  | [.c (.own 0 false), .c (.fn 27 [])], [(0, .sl 23 (.tok (.sl (.int .i64))) o0 .shallow)] => .opt _ (slices_CompactFunc_s_int__slices_Equal_int__t o0) (fun r => .ret (.c (.own 900 false)) [(0, .dead), (900, .sl 23 (.tok (.sl y0_)) r .shallow)])
  | _, _ => .fail

noncomputable def C_slices_CompactFunc_s_int__slices_Equal_int__t_s1 : Sched := .alt 10 .done .stop
noncomputable def C_slices_CompactFunc_s_int__slices_Equal_int__t_s2 : Sched := .alt 10 (.first 11 .done) .stop
noncomputable def C_slices_CompactFunc_s_int__slices_Equal_int__t : Cfg := { y := tys, n := 66, h := 1, tab := [(27, c_slices_Equal_int)], cut := [14], sched := [(6, (wkFs [0, 1, 2, 3, 5, 6, 7, 8] (.alt 4 (.alt 9 C_slices_CompactFunc_s_int__slices_Equal_int__t_s1 .stop) (.alt 9 (.alt 4 C_slices_CompactFunc_s_int__slices_Equal_int__t_s1 .stop) .stop)))), (11, (wkFs [0, 1, 2, 3, 5, 6, 7, 8] (.alt 4 (.alt 9 C_slices_CompactFunc_s_int__slices_Equal_int__t_s2 .stop) (.alt 9 (.alt 4 C_slices_CompactFunc_s_int__slices_Equal_int__t_s2 .stop) .stop))))] }

theorem wkz_38 {P : Prop} (h : P := by
  refine go_rq he fun he => ?_
  refine go_rq he fun he => ?_
  exact wkRet [(4, [])] (ok_some he :) (leads_au [(900, 64)])) : P := h

theorem wkz_39 {P : Prop} (h : P := by
  refine go_if he (fun he => ?_) fun he => ?_
  ·refine go_rq he fun he => ?_
   exact wkz_11
  ·exact wkz_3) : P := h

theorem wkz_40 {P : Prop} (h : P := by
  skip
  refine And.intro ?_ trivial
  refine And.intro ?_ trivial
  refine ⟨r5_, hq1, ?_⟩
  exact wkz_39) : P := h

theorem wkz_41 {P : Prop} (h : P := by
  skip
  refine And.intro ?_ trivial
  refine And.intro ?_ trivial
  refine ⟨r7_, hq1, ?_⟩
  exact wkz_39) : P := h

theorem k_slices_CompactFunc_s_int__slices_Equal_int__t : Entry Try.prog 57 c_slices_CompactFunc_s_int__slices_Equal_int__t := by
 refine wkEnt (C := C_slices_CompactFunc_s_int__slices_Equal_int__t) Try.f57 (wkTab k_slices_Equal_int wkNil) fun _ a b k he => ?_
 unfold c_slices_CompactFunc_s_int__slices_Equal_int__t at he; split at he; rotate_left; exact he.elim
 rename_i o0
 refine wkGo0 he fun he => ?_
 refine go_if he (fun he => ?_) fun he => ?_
 ·exact wkRet [(4, [])] (ok_some he :) (leads_au [(900, 0)])
 ·refine wkLoop (slices_CompactFunc_s_int__slices_Equal_int__t_l1 o0) (fun i => (envOf [(0, .c (.own 0 false)), (1, .c (.fn 27 [])), (5, .c (.int .i64 i))], [(0, .sl 23 (.tok (.sl y0_)) o0 .shallow)])) he (leads_au []) ?_
  rintro i _ he
  refine go_if he (fun he => ?_) fun he => ?_
  ·refine And.intro (by kernel_rfl) ?_
   refine go_rq he fun he => ?_
   refine go_rq he fun he => ?_
   refine go_rq he fun he => ?_
   obtain ⟨r2_, hq1, he⟩ := ok_bind he
   refine And.intro ?_ (And.intro ?_ (trivial))
   ·skip
    refine And.intro ?_ trivial
    refine And.intro ?_ trivial
    refine ⟨r2_, hq1, ?_⟩
    refine go_if he (fun he => ?_) fun he => ?_
    ·refine go_rq he fun he => ?_
     refine wkSeq (slices_CompactFunc_s_int__slices_Equal_int__t_j1) (fun (i4, i5) => (envOf [(0, .c (.own 0 false)), (5, .c (.int .i64 i4))], [(0, .sl 23 (.tok (.sl y0_)) i5 .shallow)])) he ?_ ?_
     ·rintro ⟨i4, i5⟩ he
      exact wkz_38
     ·skip
      refine wkLoop (slices_CompactFunc_s_int__slices_Equal_int__t_l2 i) (fun (i1, i2, i3) => (envOf [(0, .c (.own 0 false)), (1, .c (.fn 27 [])), (5, .c (.int .i64 i1)), (6, .c (.view 0 i)), (7, .c (.int .i64 i2))], [(0, .sl 23 (.tok (.sl y0_)) i3 .shallow)])) he (leads_au []) ?_
      rintro ⟨i1, i2, i3⟩ _ he
      refine go_if he (fun he => ?_) fun he => ?_
      ·refine And.intro (by kernel_rfl) ?_
       refine go_rq he fun he => ?_
       refine go_rq he fun he => ?_
       refine go_rq he fun he => ?_
       obtain ⟨r5_, hq1, he⟩ := ok_bind he
       refine And.intro ?_ (And.intro ?_ (trivial))
       ·exact wkz_40
       ·exact wkz_40
      ·exact ⟨_, (ok_up he :), (leads_au [])⟩
    ·exact wkz_3
   ·skip
    refine And.intro ?_ trivial
    refine And.intro ?_ trivial
    refine ⟨r2_, hq1, ?_⟩
    refine go_if he (fun he => ?_) fun he => ?_
    ·refine go_rq he fun he => ?_
     refine wkSeq (slices_CompactFunc_s_int__slices_Equal_int__t_j1) (fun (i9, i10) => (envOf [(0, .c (.own 0 false)), (5, .c (.int .i64 i9))], [(0, .sl 23 (.tok (.sl y0_)) i10 .shallow)])) he ?_ ?_
     ·rintro ⟨i9, i10⟩ he
      exact wkz_38
     ·skip
      refine wkLoop (slices_CompactFunc_s_int__slices_Equal_int__t_l2 i) (fun (i6, i7, i8) => (envOf [(0, .c (.own 0 false)), (1, .c (.fn 27 [])), (5, .c (.int .i64 i6)), (6, .c (.view 0 i)), (7, .c (.int .i64 i7))], [(0, .sl 23 (.tok (.sl y0_)) i8 .shallow)])) he (leads_au []) ?_
      rintro ⟨i6, i7, i8⟩ _ he
      refine go_if he (fun he => ?_) fun he => ?_
      ·refine And.intro (by kernel_rfl) ?_
       refine go_rq he fun he => ?_
       refine go_rq he fun he => ?_
       refine go_rq he fun he => ?_
       obtain ⟨r7_, hq1, he⟩ := ok_bind he
       refine And.intro ?_ (And.intro ?_ (trivial))
       ·exact wkz_41
       ·exact wkz_41
      ·exact ⟨_, (ok_up he :), (leads_au [])⟩
    ·exact wkz_3
  ·exact wkRet [(4, [])] (ok_some he :) (leads_au [(900, 0)])

noncomputable def c_slices_CompactFunc_s_int__deep : Con := compC 23 (.sl y0_) 27 compG

theorem k_slices_CompactFunc_s_int__deep : Entry Try.prog 57 c_slices_CompactFunc_s_int__deep := comp_entry k_slices_CompactFunc_s_int__slices_Equal_int__t rfl (fun _ => rfl) comp_facts

noncomputable def c_impl_Rule_canonical : Con := fun
  | [.agg [.int .i64 a0_0, .imm (.int .i64) a0_1, .imm (.int .i64) a0_2, .int .i64 a0_3, .imm (.sl (.int .i64)) a0_4]], [] => .opt _ (impl_Rule_canonical (a0_0, (a0_1, (a0_2, (a0_3, a0_4))))) (fun r => .ret (.agg [.int .i64 r.1, .own 901 false, .own 902 false, .int .i64 r.2.1, .own 903 false]) [(900, .rc [.int .i64 r.1, .own 901 false, .own 902 false, .int .i64 r.2.1, .own 903 false]), (901, .sl 3 y0_ r.2.2.1 .shallow), (902, .sl 3 y0_ r.2.2.2.1 .shallow), (903, .sl 23 (.sl y0_) r.2.2.2.2 (.deep true .no))])
  | _, _ => .fail

noncomputable def C_impl_Rule_canonical_s1 : Sched := .alt 10 .done .stop
noncomputable def C_impl_Rule_canonical_s2 : Sched := .alt 8 C_impl_Rule_canonical_s1 .stop
noncomputable def C_impl_Rule_canonical_s3 : Sched := .alt 8 (.alt 9 C_impl_Rule_canonical_s1 .stop) (.alt 9 C_impl_Rule_canonical_s2 .stop)
noncomputable def C_impl_Rule_canonical_s4 : Sched := .alt 7 C_impl_Rule_canonical_s2 .stop
noncomputable def C_impl_Rule_canonical_s5 : Sched := .alt 7 C_impl_Rule_canonical_s3 (.alt 9 C_impl_Rule_canonical_s4 .stop)
noncomputable def C_impl_Rule_canonical_s6 : Sched := .alt 5 C_impl_Rule_canonical_s2 .stop
noncomputable def C_impl_Rule_canonical_s7 : Sched := .alt 5 C_impl_Rule_canonical_s3 (.alt 9 C_impl_Rule_canonical_s6 .stop)
noncomputable def C_impl_Rule_canonical_s8 : Sched := .alt 5 C_impl_Rule_canonical_s4 (.alt 7 C_impl_Rule_canonical_s6 .stop)
noncomputable def C_impl_Rule_canonical_s9 : Sched := .alt 5 C_impl_Rule_canonical_s5 (.alt 7 C_impl_Rule_canonical_s7 (.alt 9 C_impl_Rule_canonical_s8 .stop))
noncomputable def C_impl_Rule_canonical_s10 : Sched := .alt 4 C_impl_Rule_canonical_s6 .stop
noncomputable def C_impl_Rule_canonical_s11 : Sched := .alt 4 C_impl_Rule_canonical_s7 (.alt 9 C_impl_Rule_canonical_s10 .stop)
noncomputable def C_impl_Rule_canonical_s12 : Sched := .alt 4 C_impl_Rule_canonical_s8 (.alt 7 C_impl_Rule_canonical_s10 .stop)
noncomputable def C_impl_Rule_canonical_s13 : Sched := .alt 1 C_impl_Rule_canonical_s2 .stop
noncomputable def C_impl_Rule_canonical_s14 : Sched := .alt 1 C_impl_Rule_canonical_s3 (.alt 9 C_impl_Rule_canonical_s13 .stop)
noncomputable def C_impl_Rule_canonical_s15 : Sched := .alt 1 C_impl_Rule_canonical_s4 (.alt 7 C_impl_Rule_canonical_s13 .stop)
noncomputable def C_impl_Rule_canonical_s16 : Sched := .alt 1 C_impl_Rule_canonical_s6 (.alt 5 C_impl_Rule_canonical_s13 .stop)
noncomputable def C_impl_Rule_canonical_s17 : Sched := .alt 1 C_impl_Rule_canonical_s7 (.alt 5 C_impl_Rule_canonical_s14 (.alt 9 C_impl_Rule_canonical_s16 .stop))
noncomputable def C_impl_Rule_canonical_s18 : Sched := .alt 1 C_impl_Rule_canonical_s8 (.alt 5 C_impl_Rule_canonical_s15 (.alt 7 C_impl_Rule_canonical_s16 .stop))
noncomputable def C_impl_Rule_canonical_s19 : Sched := .alt 1 C_impl_Rule_canonical_s10 (.alt 4 C_impl_Rule_canonical_s16 .stop)
noncomputable def C_impl_Rule_canonical_s20 : Sched := .alt 6 (.first 7 (.alt 8 .done .stop)) .stop
noncomputable def C_impl_Rule_canonical_s21 : Sched := .alt 5 C_impl_Rule_canonical_s20 .stop
noncomputable def C_impl_Rule_canonical : Cfg := { y := tys, n := 70, h := 0, tab := [(51, c_impl_Rule_own), (52, c_slices_SortFunc_int__impl_Rule_canonical_1), (54, c_impl_Rule_canonical_2__Rs), (55, c_slices_SortFunc_s_int__slices_Compare_int), (57, c_slices_CompactFunc_s_int__deep)], cut := [9, 12, 14, 19], hand := [(51, [0]), (52, [0]), (55, [0]), (57, [0])], deep := [58], sched := [(11, (wkFs [0, 2, 3, 6] (.alt 1 (.alt 4 C_impl_Rule_canonical_s9 (.alt 7 C_impl_Rule_canonical_s11 (.alt 9 C_impl_Rule_canonical_s12 .stop))) (.alt 4 (.alt 1 C_impl_Rule_canonical_s9 (.alt 5 (.alt 1 C_impl_Rule_canonical_s5 (.alt 7 C_impl_Rule_canonical_s14 (.alt 9 C_impl_Rule_canonical_s15 .stop))) (.alt 7 C_impl_Rule_canonical_s17 (.alt 9 C_impl_Rule_canonical_s18 .stop)))) (.alt 7 (.alt 1 C_impl_Rule_canonical_s11 (.alt 4 C_impl_Rule_canonical_s17 (.alt 9 C_impl_Rule_canonical_s19 .stop))) (.alt 9 (.alt 1 C_impl_Rule_canonical_s12 (.alt 4 C_impl_Rule_canonical_s18 (.alt 7 C_impl_Rule_canonical_s19 .stop))) .stop)))))), (17, (wkFs [0, 2, 3] (.alt 1 (.alt 4 C_impl_Rule_canonical_s21 .stop) (.alt 4 (.alt 1 C_impl_Rule_canonical_s21 (.alt 5 (.alt 1 C_impl_Rule_canonical_s20 .stop) .stop)) .stop))))] }

theorem wkz_42 {P : Prop} (h : P := by
  refine And.intro ?_ trivial
  refine And.intro ?_ trivial
  refine And.intro hq2 ?_
  refine And.intro ?_ trivial
  refine go_rq he fun he => ?_
  exact ⟨_, (ok_some he :), (leads_au [(10004006, 59)])⟩) : P := h

theorem wkz_43 {P : Prop} (h : P := by
  refine And.intro ?_ trivial
  refine And.intro ?_ trivial
  exact ⟨_, he, (leads_au [(10002000, 10001000), (10002001, 10001001), (10002002, 10001002), (10002003, 6), (10002004, 10001003), (10002005, 35900)])⟩) : P := h

theorem wkz_44 {P : Prop} (h : P := by
  refine And.intro ?_ (And.intro ?_ (trivial))
  ·skip
   exact wkz_43
  ·skip
   exact wkz_43) : P := h

theorem wkz_45 {P : Prop} (h : P := by
  refine And.intro ?_ (And.intro ?_ (trivial))
  ·skip
   exact wkz_44
  ·skip
   refine And.intro ?_ trivial
   exact wkz_43) : P := h

theorem wkz_46 {P : Prop} (h : P := by
  skip
  refine And.intro ?_ trivial
  refine ⟨r4_, hq1, ?_⟩
  exact wkz_43) : P := h

theorem wkz_47 {P : Prop} (h : P := by
  skip
  refine And.intro ?_ (And.intro ?_ (trivial))
  ·skip
   refine ⟨r4_, hq1, ?_⟩
   exact wkz_44
  ·exact wkz_46) : P := h

theorem wkz_48 {P : Prop} (h : P := by
  skip
  refine ⟨r4_, hq1, ?_⟩
  refine And.intro ?_ trivial
  exact wkz_43) : P := h

theorem wkz_49 {P : Prop} (h : P := by
  skip
  refine And.intro ?_ (And.intro ?_ (trivial))
  ·exact wkz_48
  ·exact wkz_46) : P := h

theorem wkz_50 {P : Prop} (h : P := by
  skip
  refine And.intro ?_ (And.intro ?_ (And.intro ?_ (trivial)))
  ·skip
   refine ⟨r4_, hq1, ?_⟩
   exact wkz_45
  ·exact wkz_47
  ·exact wkz_49) : P := h

theorem wkz_51 {P : Prop} (h : P := by
  skip
  refine And.intro ?_ trivial
  refine And.intro ?_ trivial
  refine ⟨r4_, hq1, ?_⟩
  exact wkz_43) : P := h

theorem wkz_52 {P : Prop} (h : P := by
  skip
  refine And.intro ?_ (And.intro ?_ (trivial))
  ·exact wkz_47
  ·exact wkz_51) : P := h

theorem wkz_53 {P : Prop} (h : P := by
  skip
  refine And.intro ?_ (And.intro ?_ (trivial))
  ·exact wkz_49
  ·exact wkz_51) : P := h

theorem wkz_54 {P : Prop} (h : P := by
  refine And.intro ?_ (And.intro ?_ (trivial))
  ·skip
   refine And.intro ?_ trivial
   exact wkz_43
  ·skip
   refine And.intro ?_ trivial
   exact wkz_43) : P := h

theorem wkz_55 {P : Prop} (h : P := by
  skip
  refine And.intro ?_ (And.intro ?_ (And.intro ?_ (trivial)))
  ·exact wkz_47
  ·skip
   refine ⟨r4_, hq1, ?_⟩
   exact wkz_45
  ·skip
   refine And.intro ?_ (And.intro ?_ (trivial))
   ·exact wkz_46
   ·exact wkz_48) : P := h

theorem wkz_56 {P : Prop} (h : P := by
  skip
  refine And.intro ?_ (And.intro ?_ (And.intro ?_ (trivial)))
  ·exact wkz_49
  ·skip
   refine ⟨r4_, hq1, ?_⟩
   exact wkz_54
  ·skip
   refine And.intro ?_ (And.intro ?_ (trivial))
   ·exact wkz_46
   ·exact wkz_48) : P := h

theorem k_impl_Rule_canonical : Entry Try.prog 24 c_impl_Rule_canonical := by
 refine wkEnt (C := C_impl_Rule_canonical) Try.f24 (wkTab k_impl_Rule_own (wkTab k_slices_SortFunc_int__impl_Rule_canonical_1 (wkTab k_impl_Rule_canonical_2__Rs (wkTab k_slices_SortFunc_s_int__slices_Compare_int (wkTab k_slices_CompactFunc_s_int__deep wkNil))))) fun _ a b k he => ?_
 unfold c_impl_Rule_canonical at he; split at he; rotate_left; exact he.elim
 rename_i a0_0 a0_1 a0_2 a0_3 a0_4
 refine wkGo0 he fun he => ?_
 refine go_if he (fun he => ?_) fun he => ?_
 ·refine go_bind he fun r1_ he => ?_
  exact wkRet [(2, [900])] (ok_some he :) (leads_au [(900, 2), (901, 14901), (902, 14902), (903, 14903)])
 ·refine wkSeq (impl_Rule_canonical_j1 (a0_0, (a0_1, (a0_2, (a0_3, a0_4))))) (fun i2 => (envOf [(1, .c (.ptr 10001000 0)), (2, .c (.ptr 10001001 0)), (3, .c (.ptr 10001002 0))], [(10001000, .rc [.int .i64 (a0_0, (a0_1, (a0_2, (a0_3, a0_4)))).1, .imm y0_ (a0_0, (a0_1, (a0_2, (a0_3, a0_4)))).2.1, .imm y0_ (a0_0, (a0_1, (a0_2, (a0_3, a0_4)))).2.2.1, .int .i64 (a0_0, (a0_1, (a0_2, (a0_3, a0_4)))).2.2.2.1, .imm (.sl y0_) (a0_0, (a0_1, (a0_2, (a0_3, a0_4)))).2.2.2.2]), (10001001, .rc [.int .i64 (0:Int), .nil, .nil, .int .i64 (0:Int), .nil]), (10001002, .rc [.own 10001003 false]), (10001003, .sl 3 y0_ i2 .shallow)])) he ?_ ?_
  ·rintro i2 he
   refine go_bind he fun r2_ he => ?_
   refine wkSeq (impl_Rule_canonical_j2 (a0_0, (a0_1, (a0_2, (a0_3, a0_4)))) r2_) (fun i_1 => (envOf [(1, .c (.ptr 10002000 0)), (2, .c (.ptr 10002001 0)), (5, .c (.fn 54 [10002002])), (6, .c (.ptr 10002003 0))], [(10002000, .rc [.int .i64 (a0_0, (a0_1, (a0_2, (a0_3, a0_4)))).1, .imm y0_ (a0_0, (a0_1, (a0_2, (a0_3, a0_4)))).2.1, .imm y0_ (a0_0, (a0_1, (a0_2, (a0_3, a0_4)))).2.2.1, .int .i64 (a0_0, (a0_1, (a0_2, (a0_3, a0_4)))).2.2.2.1, .imm (.sl y0_) (a0_0, (a0_1, (a0_2, (a0_3, a0_4)))).2.2.2.2]), (10002001, .rc [.int .i64 (0:Int), .nil, .nil, .int .i64 (0:Int), .nil]), (10002002, .rc [.own 10002004 false]), (10002003, .rc [.int .i64 (a0_0, (a0_1, (a0_2, (a0_3, a0_4)))).1, .own 10002005 false, .nil, .int .i64 (a0_0, (a0_1, (a0_2, (a0_3, a0_4)))).2.2.2.1, .nil]), (10002004, .sl 3 y0_ r2_ .shallow), (10002005, .sl 3 y0_ i_1 .shallow)])) he ?_ ?_
   ·rintro i_1 he
    refine wkSeq (impl_Rule_canonical_j3 (a0_0, (a0_1, (a0_2, (a0_3, a0_4)))) r2_ i_1) (fun i_2 => (envOf [(1, .c (.iptr y4_ (a0_0, (a0_1, (a0_2, (a0_3, a0_4)))) 0)), (2, .c (.ptr 10003000 0)), (5, .c (.fn 54 [10003001])), (6, .c (.ptr 10003002 0))], [(10003000, .rc [.int .i64 (0:Int), .nil, .nil, .int .i64 (0:Int), .nil]), (10003001, .rc [.own 10003003 false]), (10003002, .rc [.int .i64 (a0_0, (a0_1, (a0_2, (a0_3, a0_4)))).1, .own 10003004 false, .own 10003005 false, .int .i64 (a0_0, (a0_1, (a0_2, (a0_3, a0_4)))).2.2.2.1, .nil]), (10003003, .sl 3 y0_ r2_ .shallow), (10003004, .sl 3 y0_ i_1 .shallow), (10003005, .sl 3 y0_ i_2 .shallow)])) he ?_ ?_
    ·rintro i_2 he
     refine wkSeq (impl_Rule_canonical_j4 (a0_0, (a0_1, (a0_2, (a0_3, a0_4)))) i_1 i_2) (fun i_41 => (envOf [(2, .c (.ptr 10005000 0)), (6, .c (.ptr 10005001 0))], [(10005000, .rc [.int .i64 (0:Int), .nil, .nil, .int .i64 (0:Int), .nil]), (10005001, .rc [.int .i64 (a0_0, (a0_1, (a0_2, (a0_3, a0_4)))).1, .own 10005002 false, .own 10005003 false, .int .i64 (a0_0, (a0_1, (a0_2, (a0_3, a0_4)))).2.2.2.1, .own 10005004 false]), (10005002, .sl 3 y0_ i_1 .shallow), (10005003, .sl 3 y0_ i_2 .shallow), (10005004, .sl 23 (.sl y0_) i_41 (.deep true .no))])) he ?_ ?_
     ·rintro i_41 he
      refine go_bind he fun r9_ he => ?_
      refine go_bind he fun r10_ he => ?_
      exact wkRet [(2, [900])] (ok_some he :) (leads_au [(900, 10005000), (901, 10005002), (902, 10005003), (903, 68900)])
     ·skip
      refine wkLoop (impl_Rule_canonical_l1 (a0_0, (a0_1, (a0_2, (a0_3, a0_4)))) r2_ i_1 i_2) (fun (i3, i_4) => (envOf [(2, .c (.ptr 10004000 0)), (5, .c (.fn 54 [10004001])), (6, .c (.ptr 10004002 0)), (47, .c (.imm (.sl y0_) (a0_0, (a0_1, (a0_2, (a0_3, a0_4)))).2.2.2.2)), (48, .c (.int .i64 ((a0_0, (a0_1, (a0_2, (a0_3, a0_4)))).2.2.2.2.length:Int))), (49, .c (.int .i64 i3))], [(10004000, .rc [.int .i64 (0:Int), .nil, .nil, .int .i64 (0:Int), .nil]), (10004001, .rc [.own 10004003 false]), (10004002, .rc [.int .i64 (a0_0, (a0_1, (a0_2, (a0_3, a0_4)))).1, .own 10004004 false, .own 10004005 false, .int .i64 (a0_0, (a0_1, (a0_2, (a0_3, a0_4)))).2.2.2.1, .own 10004006 false]), (10004003, .sl 3 y0_ r2_ .shallow), (10004004, .sl 3 y0_ i_1 .shallow), (10004005, .sl 3 y0_ i_2 .shallow), (10004006, .sl 23 (.sl y0_) i_4 (.deep true .no))])) he (leads_au [(10004000, 10003000), (10004001, 10003001), (10004002, 10003002), (10004003, 10003003), (10004004, 10003004), (10004005, 10003005)]) ?_
      rintro ⟨i3, i_4⟩ _ he
      refine go_if he (fun he => ?_) fun he => ?_
      ·refine go_rq he fun he => ?_
       refine And.intro (by kernel_rfl) ?_
       obtain ⟨r8_, hq1, he⟩ := ok_bind he
       obtain ⟨hq2, he⟩ := ok_rq he
       refine And.intro ?_ (And.intro ?_ (trivial))
       ·skip
        refine And.intro ?_ trivial
        refine ⟨r8_, hq1, ?_⟩
        exact wkz_42
       ·skip
        refine ⟨r8_, hq1, ?_⟩
        refine And.intro ?_ (And.intro ?_ (trivial))
        ·skip
         exact wkz_42
        ·skip
         exact wkz_42
      ·exact ⟨_, (ok_up he :), (leads_au [(10005000, 10004000), (10005001, 10004002), (10005002, 10004004), (10005003, 10004005), (10005004, 10004006)])⟩
    ·skip
     refine go_if he (fun he => ?_) fun he => ?_
     ·refine go_bind he fun r5_ he => ?_
      exact ⟨_, he, (leads_ren [(10003000, 10002001), (10003001, 10002002), (10003002, 10002003), (10003003, 10002004), (10003004, 10002005), (10003005, 45900)] rfl rfl ⟨⟨rfl, rfl, rfl, rfl, rfl, trivial⟩, ⟨⟨⟨rfl, rfl⟩, trivial⟩, trivial⟩, ⟨rfl, ⟨⟨rfl, rfl⟩, trivial⟩, ⟨⟨rfl, rfl⟩, trivial⟩, rfl, rfl, trivial⟩, ⟨rfl, rfl⟩, ⟨rfl, rfl⟩, ⟨rfl, rfl⟩, trivial⟩ ⟨.inr ⟨10002000, rfl, ⟨rfl, by repeat (first | exact trivial | refine And.intro trivial ?_)⟩, rfl⟩, ⟨⟨rfl, rfl⟩, rfl⟩, ⟨rfl, ⟨⟨rfl, rfl⟩, trivial⟩⟩, ⟨⟨rfl, rfl⟩, rfl⟩, trivial⟩)⟩
     ·exact ⟨_, he, (leads_ren [(10003000, 10002001), (10003001, 10002002), (10003002, 10002003), (10003003, 10002004), (10003004, 10002005)] rfl rfl ⟨⟨rfl, rfl, rfl, rfl, rfl, trivial⟩, ⟨⟨⟨rfl, rfl⟩, trivial⟩, trivial⟩, ⟨rfl, ⟨⟨rfl, rfl⟩, trivial⟩, ⟨rfl, trivial⟩, rfl, rfl, trivial⟩, ⟨rfl, rfl⟩, ⟨rfl, rfl⟩, trivial, trivial⟩ ⟨.inr ⟨10002000, rfl, ⟨rfl, by repeat (first | exact trivial | refine And.intro trivial ?_)⟩, rfl⟩, ⟨⟨rfl, rfl⟩, rfl⟩, ⟨rfl, ⟨⟨rfl, rfl⟩, trivial⟩⟩, ⟨⟨rfl, rfl⟩, rfl⟩, trivial⟩)⟩
   ·skip
    refine And.intro (by kernel_rfl) ?_
    obtain ⟨r4_, hq1, he⟩ := ok_bind he
    refine And.intro ?_ (And.intro ?_ (And.intro ?_ (And.intro ?_ (trivial))))
    ·skip
     refine And.intro ?_ (And.intro ?_ (And.intro ?_ (trivial)))
     ·exact wkz_50
     ·exact wkz_52
     ·exact wkz_53
    ·skip
     refine And.intro ?_ (And.intro ?_ (And.intro ?_ (And.intro ?_ (trivial))))
     ·exact wkz_50
     ·skip
      refine ⟨r4_, hq1, ?_⟩
      refine And.intro ?_ (And.intro ?_ (And.intro ?_ (trivial)))
      ·skip
       exact wkz_45
      ·skip
       exact wkz_45
      ·skip
       exact wkz_54
     ·exact wkz_55
     ·exact wkz_56
    ·skip
     refine And.intro ?_ (And.intro ?_ (And.intro ?_ (trivial)))
     ·exact wkz_52
     ·exact wkz_55
     ·skip
      refine And.intro ?_ (And.intro ?_ (trivial))
      ·exact wkz_51
      ·skip
       refine And.intro ?_ (And.intro ?_ (trivial))
       ·exact wkz_46
       ·exact wkz_48
    ·skip
     refine And.intro ?_ (And.intro ?_ (And.intro ?_ (trivial)))
     ·exact wkz_53
     ·exact wkz_56
     ·skip
      refine And.intro ?_ (And.intro ?_ (trivial))
      ·exact wkz_51
      ·skip
       refine And.intro ?_ (And.intro ?_ (trivial))
       ·exact wkz_46
       ·exact wkz_48
  ·skip
   refine wkLoop (impl_Rule_canonical_l2 (a0_0, (a0_1, (a0_2, (a0_3, a0_4))))) (fun (i, i1) => (envOf [(1, .c (.ptr 10000000 0)), (2, .c (.ptr 10000001 0)), (3, .c (.ptr 10000002 0)), (16, .c (.int .i64 ((a0_0, (a0_1, (a0_2, (a0_3, a0_4)))).2.1.length:Int))), (17, .c (.int .i64 i))], [(10000000, .rc [.int .i64 (a0_0, (a0_1, (a0_2, (a0_3, a0_4)))).1, .imm y0_ (a0_0, (a0_1, (a0_2, (a0_3, a0_4)))).2.1, .imm y0_ (a0_0, (a0_1, (a0_2, (a0_3, a0_4)))).2.2.1, .int .i64 (a0_0, (a0_1, (a0_2, (a0_3, a0_4)))).2.2.2.1, .imm (.sl y0_) (a0_0, (a0_1, (a0_2, (a0_3, a0_4)))).2.2.2.2]), (10000001, .rc [.int .i64 (0:Int), .nil, .nil, .int .i64 (0:Int), .nil]), (10000002, .rc [.own 10000003 false]), (10000003, .sl 3 y0_ i1 .shallow)])) he (leads_au [(10000000, 1), (10000001, 2), (10000002, 3)]) ?_
   rintro ⟨i, i1⟩ _ he
   refine go_if he (fun he => ?_) fun he => ?_
   ·refine go_rq he fun he => ?_
    refine go_rq he fun he => ?_
    exact ⟨_, (ok_some he :), (leads_au [(10000003, 23)])⟩
   ·exact ⟨_, (ok_up he :), (leads_au [(10001000, 10000000), (10001001, 10000001), (10001002, 10000002), (10001003, 10000003)])⟩

noncomputable def c_impl_CanonicalRule : Con := fun
  | [.agg [.imm (.int .i64) m_0, .imm (.pair (.int .i64) (.pair (.sl (.int .i64)) (.pair (.sl (.int .i64)) (.pair (.int .i64) (.sl (.sl (.int .i64))))))) m_1], .c (.int .i64 rule)], [] => .opt _ (impl_CanonicalRule (m_0, m_1) rule) (fun r => .ret (.tup [.agg [.int .i64 r.2.1, .own 901 false, .own 902 false, .int .i64 r.2.2.1, .own 903 false], .c (.bool r.1)]) [(900, .rc [.int .i64 r.2.1, .own 901 false, .own 902 false, .int .i64 r.2.2.1, .own 903 false]), (901, .sl 3 y0_ r.2.2.2.1 .shallow), (902, .sl 3 y0_ r.2.2.2.2.1 .shallow), (903, .sl 23 (.sl y0_) r.2.2.2.2.2 (.deep true .no))])
  | _, _ => .fail

noncomputable def C_impl_CanonicalRule : Cfg := { y := tys, n := 22, h := 0, tab := [(22, c_impl_ModelValid), (23, c_impl_isRule), (24, c_impl_Rule_canonical)] }

theorem wkz_57 {P : Prop} (h : P := by
  exact wkRet [(4, [900]), (5, [])] (ok_some he :) (leads_au [(900, 4)])) : P := h

theorem k_impl_CanonicalRule : Entry Try.prog 6 c_impl_CanonicalRule := by
 refine wkEnt (C := C_impl_CanonicalRule) Try.f6 (wkTab k_impl_ModelValid (wkTab k_impl_isRule (wkTab k_impl_Rule_canonical wkNil))) fun _ a b k he => ?_
 unfold c_impl_CanonicalRule at he; split at he; rotate_left; exact he.elim
 rename_i m_0 m_1 rule
 refine wkGo0 he fun he => ?_
 refine go_bind he fun r1_ he => ?_
 refine go_if2 he (fun he => ?_) fun he => ?_
 ·refine go_bind he fun r2_ he => ?_
  refine go_if he (fun he => ?_) fun he => ?_
  ·exact wkz_57
  ·refine go_rq he fun he => ?_
   refine go_bind he fun r3_ he => ?_
   exact wkRet [(4, [900]), (5, [])] (ok_some he :) (leads_au [(900, 4), (901, 22901), (902, 22902), (903, 22903)])
 ·exact wkz_57

noncomputable def c_laws_eqIntS : Con := fun
  | [.c (.imm (.int .i64) a), .c (.imm (.int .i64) b)], [] => .opt _ (laws_eqIntS a b) (fun r => .ret (.c (.bool r)) [])
  | _, _ => .fail

noncomputable def C_laws_eqIntS : Cfg := { y := tys, n := 26, h := 0, tab := [] }

theorem k_laws_eqIntS : Entry Try.prog 36 c_laws_eqIntS := by
 refine wkEnt (C := C_laws_eqIntS) Try.f36 wkNil fun _ a b k he => ?_
 unfold c_laws_eqIntS at he; split at he; rotate_left; exact he.elim
 rename_i a b
 refine wkGo0 he fun he => ?_
 refine go_if he (fun he => ?_) fun he => ?_
 ·exact wkz_1
 ·refine wkLoop (laws_eqIntS_l1 a b) (fun i => (envOf [(0, .c (.imm y0_ a)), (1, .c (.imm y0_ b)), (5, .c (.int .i64 i))], [])) he (leads_au []) ?_
  exact wkz_17

noncomputable def c_laws_eqIntSS : Con := fun
  | [.c (.imm (.sl (.int .i64)) a), .c (.imm (.sl (.int .i64)) b)], [] => .opt _ (laws_eqIntSS a b) (fun r => .ret (.c (.bool r)) [])
  | _, _ => .fail

noncomputable def C_laws_eqIntSS : Cfg := { y := tys, n := 27, h := 0, tab := [(36, c_laws_eqIntS)], sched := [(6, (wkFs [0, 1, 2, 3, 4, 5, 6, 7] (.alt 8 (.first 9 .done) .stop)))] }

theorem wkz_58 {P : Prop} (h : P := by
  rintro i _ he
  refine go_if he (fun he => ?_) fun he => ?_
  ·refine And.intro (by kernel_rfl) ?_
   refine go_rq he fun he => ?_
   refine go_rq he fun he => ?_
   refine And.intro ?_ trivial
   refine go_bind he fun r2_ he => ?_
   exact wkz_4
  ·exact wkz_1) : P := h

theorem k_laws_eqIntSS : Entry Try.prog 37 c_laws_eqIntSS := by
 refine wkEnt (C := C_laws_eqIntSS) Try.f37 (wkTab k_laws_eqIntS wkNil) fun _ a b k he => ?_
 unfold c_laws_eqIntSS at he; split at he; rotate_left; exact he.elim
 rename_i a b
 refine wkGo0 he fun he => ?_
 refine go_if he (fun he => ?_) fun he => ?_
 ·exact wkz_1
 ·refine wkLoop (laws_eqIntSS_l1 a b) (fun i => (envOf [(0, .c (.imm (.sl y0_) a)), (1, .c (.imm (.sl y0_) b)), (5, .c (.int .i64 i))], [])) he (leads_au []) ?_
  exact wkz_58

noncomputable def c_laws_eqRule : Con := fun
  | [.agg [.int .i64 a_0, .imm (.int .i64) a_1, .imm (.int .i64) a_2, .int .i64 a_3, .imm (.sl (.int .i64)) a_4], .agg [.int .i64 b_0, .imm (.int .i64) b_1, .imm (.int .i64) b_2, .int .i64 b_3, .imm (.sl (.int .i64)) b_4]], [] => .opt _ (laws_eqRule (a_0, (a_1, (a_2, (a_3, a_4)))) (b_0, (b_1, (b_2, (b_3, b_4))))) (fun r => .ret (.c (.bool r)) [])
  | _, _ => .fail

noncomputable def C_laws_eqRule : Cfg := { y := tys, n := 33, h := 0, tab := [(36, c_laws_eqIntS), (37, c_laws_eqIntSS)] }

theorem k_laws_eqRule : Entry Try.prog 12 c_laws_eqRule := by
 refine wkEnt (C := C_laws_eqRule) Try.f12 (wkTab k_laws_eqIntS (wkTab k_laws_eqIntSS wkNil)) fun _ a b k he => ?_
 unfold c_laws_eqRule at he; split at he; rotate_left; exact he.elim
 rename_i a_0 a_1 a_2 a_3 a_4 b_0 b_1 b_2 b_3 b_4
 refine wkGo0 he fun he => ?_
 refine go_if he (fun he => ?_) fun he => ?_
 ·exact wkz_7
 ·refine go_bind he fun r1_ he => ?_
  refine go_if he (fun he => ?_) fun he => ?_
  ·exact wkz_7
  ·refine go_bind he fun r2_ he => ?_
   refine go_if he (fun he => ?_) fun he => ?_
   ·exact wkz_7
   ·exact wkz_9

noncomputable def c_laws_eqRuleS : Con := fun
  | [.c (.imm (.pair (.int .i64) (.pair (.sl (.int .i64)) (.pair (.sl (.int .i64)) (.pair (.int .i64) (.sl (.sl (.int .i64))))))) a), .c (.imm (.pair (.int .i64) (.pair (.sl (.int .i64)) (.pair (.sl (.int .i64)) (.pair (.int .i64) (.sl (.sl (.int .i64))))))) b)], [] => .opt _ (laws_eqRuleS a b) (fun r => .ret (.c (.bool r)) [])
  | _, _ => .fail

noncomputable def C_laws_eqRuleS : Cfg := { y := tys, n := 27, h := 0, tab := [(12, c_laws_eqRule)], sched := [(6, (wkFs [0, 1, 2, 3, 4, 5, 6, 7] (.alt 8 (.first 9 .done) .stop)))] }

theorem k_laws_eqRuleS : Entry Try.prog 38 c_laws_eqRuleS := by
 refine wkEnt (C := C_laws_eqRuleS) Try.f38 (wkTab k_laws_eqRule wkNil) fun _ a b k he => ?_
 unfold c_laws_eqRuleS at he; split at he; rotate_left; exact he.elim
 rename_i a b
 refine wkGo0 he fun he => ?_
 refine go_if he (fun he => ?_) fun he => ?_
 ·exact wkz_1
 ·refine wkLoop (laws_eqRuleS_l1 a b) (fun i => (envOf [(0, .c (.imm y4_ a)), (1, .c (.imm y4_ b)), (5, .c (.int .i64 i))], [])) he (leads_au []) ?_
  exact wkz_58

noncomputable def c_laws_eqModel : Con := fun
  | [.agg [.imm (.int .i64) a_0, .imm (.pair (.int .i64) (.pair (.sl (.int .i64)) (.pair (.sl (.int .i64)) (.pair (.int .i64) (.sl (.sl (.int .i64))))))) a_1], .agg [.imm (.int .i64) b_0, .imm (.pair (.int .i64) (.pair (.sl (.int .i64)) (.pair (.sl (.int .i64)) (.pair (.int .i64) (.sl (.sl (.int .i64))))))) b_1]], [] => .opt _ (laws_eqModel (a_0, a_1) (b_0, b_1)) (fun r => .ret (.c (.bool r)) [])
  | _, _ => .fail

noncomputable def C_laws_eqModel : Cfg := { y := tys, n := 17, h := 0, tab := [(36, c_laws_eqIntS), (38, c_laws_eqRuleS)] }

theorem k_laws_eqModel : Entry Try.prog 13 c_laws_eqModel := by
 refine wkEnt (C := C_laws_eqModel) Try.f13 (wkTab k_laws_eqIntS (wkTab k_laws_eqRuleS wkNil)) fun _ a b k he => ?_
 unfold c_laws_eqModel at he; split at he; rotate_left; exact he.elim
 rename_i a_0 a_1 b_0 b_1
 refine wkGo0 he fun he => ?_
 refine go_bind he fun r1_ he => ?_
 refine go_if he (fun he => ?_) fun he => ?_
 ·exact wkz_7
 ·refine go_bind he fun r2_ he => ?_
  exact wkz_8

noncomputable def c_laws_markIntS : Con := fun
  | [.c (.own 0 false), .c (.int .i64 k_)], [(0, .sl 3 (.int .i64) a .shallow)] => .opt _ (laws_markIntS k_ a) (fun r => .ret (.c (.int .i64 r.1)) [(0, .sl 3 y0_ r.2 .shallow)])
  | _, _ => .fail

noncomputable def C_laws_markIntS : Cfg := { y := tys, n := 19, h := 1, tab := [] }

theorem wkz_59 {P : Prop} (h : P := by
  rintro ⟨k_1, i, a1⟩ _ he
  refine go_if he (fun he => ?_) fun he => ?_
  ·exact wkz_11
  ·exact wkz_7) : P := h

theorem k_laws_markIntS : Entry Try.prog 39 c_laws_markIntS := by
 refine wkEnt (C := C_laws_markIntS) Try.f39 wkNil fun _ a b k he => ?_
 unfold c_laws_markIntS at he; split at he; rotate_left; exact he.elim
 rename_i k_ a
 refine wkGo0 he fun he => ?_
 refine wkLoop (laws_markIntS_l1) (fun (k_1, i, a1) => (envOf [(0, .c (.own 0 false)), (1, .c (.int .i64 k_1)), (5, .c (.int .i64 i))], [(0, .sl 3 y0_ a1 .shallow)])) he (leads_au []) ?_
 exact wkz_59

end Go.AE.Y
