/-
  Walks: each function keeps the contract that its model gives. No conditions.
-/
import Derived.Test.YtgpinbepiniogaaGreatDoorRATab
import Derived.Test.YtgpinbepiniogaaGreatDoorRAM
import Derived.Test.YtgpinbepiniogaaGreatDoorRAS
namespace Go.AE.Y
open Go Go.AE Go.Proofs
set_option linter.unusedVariables false
set_option maxHeartbeats 2000000
set_option maxRecDepth 100000

noncomputable def c_spec_l17Open : Con := fun
  | [.c (.imm (.int .u8) code)], [] => .opt _ (spec_l17Open code) (fun r => .ret (.c (.ptr 900 0)) [(900, .rc [.imm (.int .u8) r.1, .int .i64 r.2])])
  | _, _ => .fail

noncomputable def C_spec_l17Open : Cfg := { y := tys, n := 11, h := 0, tab := [], cut := [3] }

theorem k_spec_l17Open : Entry Tryz.prog 49 c_spec_l17Open := by
 refine wkEnt (C := C_spec_l17Open) Tryz.f49 wkNil fun _ a b k he => ?_
 unfold c_spec_l17Open at he; split at he; rotate_left; exact he.elim
 rename_i code
 refine wkGo0 he fun he => ?_
 refine wkSeq (spec_l17Open_j1) (fun code1 => (envOf [(0, .c (.imm (.int .u8) code1))], [])) he ?_ ?_
 ·rintro code1 he
  exact wkRet [(2, [])] (ok_some he :) (leads_au [(900, 10)])
 ·skip
  refine go_if he (fun he => ?_) fun he => ?_
  ·refine go_rq he fun he => ?_
   exact ⟨_, he, (leads_au [])⟩
  ·exact ⟨_, he, (leads_au [])⟩

noncomputable def c_spec_l17Rd_pick : Con := fun
  | [.c (.ptr 0 0), .c (.int .i64 a1)], [(0, .rc [.imm (.int .u8) o0_0, .int .i64 o0_1])] => .opt _ (spec_l17Rd_pick a1 (o0_0, o0_1)) (fun r => .ret (.c (.int .i64 r.1)) [(0, .rc [.imm (.int .u8) r.2.1, .int .i64 r.2.2])])
  | _, _ => .fail

noncomputable def C_spec_l17Rd_pick : Cfg := { y := tys, n := 99, h := 1, tab := [] }

theorem wkz_1 {P : Prop} (h : P := by
  exact wkRet [(4, [])] (ok_some he :) (leads_au [])) : P := h

theorem wkz_2 {P : Prop} (h : P := by
  refine go_rq he fun he => ?_
  exact wkz_1) : P := h

theorem wkz_3 {P : Prop} (h : P := by
  refine go_rq he fun he => ?_
  exact wkz_2) : P := h

theorem k_spec_l17Rd_pick : Entry Tryz.prog 87 c_spec_l17Rd_pick := by
 refine wkEnt (C := C_spec_l17Rd_pick) Tryz.f87 wkNil fun _ a b k he => ?_
 unfold c_spec_l17Rd_pick at he; split at he; rotate_left; exact he.elim
 rename_i a1 o0_0 o0_1
 refine wkGo0 he fun he => ?_
 refine go_rq he fun he => ?_
 refine go_if2 he (fun he => ?_) fun he => ?_
 ·refine go_if he (fun he => ?_) fun he => ?_
  ·exact wkz_1
  ·refine go_rq he fun he => ?_
   refine go_if he (fun he => ?_) fun he => ?_
   ·refine go_rq he fun he => ?_
    refine fun _ => ?_
    exact wkz_3
   ·refine And.intro (by kernel_rfl) ?_
    refine go_rq he fun he => ?_
    refine go_rq he fun he => ?_
    refine fun _ => ?_
    refine go_rq he fun he => ?_
    refine go_rq he fun he => ?_
    refine go_rq he fun he => ?_
    refine go_rq he fun he => ?_
    refine go_rq he fun he => ?_
    refine go_rq he fun he => ?_
    refine fun _ => ?_
    refine go_rq he fun he => ?_
    refine go_rq he fun he => ?_
    refine go_rq he fun he => ?_
    refine go_rq he fun he => ?_
    refine go_rq he fun he => ?_
    refine go_rq he fun he => ?_
    refine go_rq he fun he => ?_
    refine go_rq he fun he => ?_
    refine go_rq he fun he => ?_
    exact wkz_3
 ·exact wkz_1

noncomputable def c_spec_l17Rd_num : Con := fun
  | [.c (.ptr 0 0), .c (.imm (.int .i64) list_)], [(0, .rc [.imm (.int .u8) r__0, .int .i64 r__1])] => .opt _ (spec_l17Rd_num list_ (r__0, r__1)) (fun r => .ret (.c (.int .i64 r.1)) [(0, .rc [.imm (.int .u8) r.2.1, .int .i64 r.2.2])])
  | _, _ => .fail

noncomputable def C_spec_l17Rd_num : Cfg := { y := tys, n := 12, h := 1, tab := [(87, c_spec_l17Rd_pick)] }

theorem k_spec_l17Rd_num : Entry Tryz.prog 88 c_spec_l17Rd_num := by
 refine wkEnt (C := C_spec_l17Rd_num) Tryz.f88 (wkTab k_spec_l17Rd_pick wkNil) fun _ a b k he => ?_
 unfold c_spec_l17Rd_num at he; split at he; rotate_left; exact he.elim
 rename_i list_ r__0 r__1
 refine wkGo0 he fun he => ?_
 refine go_bind he fun r1_ he => ?_
 exact wkz_2

noncomputable def c_spec_l6Some__rsd : Con := fun
  | [.c (.ptr 0 0), .agg [.own 1 false, .own 2 false], .c (.int .i64 a2)], [(0, .rc [.imm (.int .u8) o0_0, .int .i64 o0_1]), (1, .sl 3 (.int .i64) o1 .shallow), (2, .sl 72 (.pair (.int .i64) (.pair (.sl (.int .i64)) (.pair (.sl (.int .i64)) (.pair (.int .i64) (.sl (.sl (.int .i64))))))) o2 (.deep true .no))] => .opt _ (spec_l6Some__rsd a2 (o0_0, o0_1) o1 o2) (fun r => .ret (.c (.own 900 false)) [(0, .rc [.imm (.int .u8) r.1.1, .int .i64 r.1.2]), (1, .sl 3 y0_ o1 .shallow), (2, .sl 72 y5_ o2 (.deep true .no)), (900, .sl 3 y0_ r.2 .shallow)])
  | _, _ => .fail

noncomputable def C_spec_l6Some__rsd : Cfg := { y := tys, n := 96, h := 3, tab := [(87, c_spec_l17Rd_pick)], cut := [7, 12, 18] }

theorem wkz_4 {P : Prop} (h : P := by
  refine go_rq he fun he => ?_
  refine go_rq he fun he => ?_
  exact ⟨_, (ok_some he :), (leads_au [(10002001, 56)])⟩) : P := h

theorem wkz_5 {P : Prop} (h : P := by
  refine go_rq he fun he => ?_
  exact ⟨_, (ok_some he :), (leads_au [])⟩) : P := h

theorem k_spec_l6Some__rsd : Entry Tryz.prog 121 c_spec_l6Some__rsd := by
 refine wkEnt (C := C_spec_l6Some__rsd) Tryz.f121 (wkTab k_spec_l17Rd_pick wkNil) fun _ a b k he => ?_
 unfold c_spec_l6Some__rsd at he; split at he; rotate_left; exact he.elim
 rename_i a2 o0_0 o0_1 o1 o2
 refine wkGo0 he fun he => ?_
 refine wkSeq (spec_l6Some__rsd_j1 a2 o1) (fun (i3, i4) => (envOf [(0, .c (.ptr 0 0)), (2, .c (.int .i64 a2)), (4, .c (.ptr 10001000 0)), (7, .c (.own 10001001 false))], [(0, .rc [.imm (.int .u8) i3.1, .int .i64 i3.2]), (1, .sl 3 y0_ o1 .shallow), (2, .sl 72 y5_ o2 (.deep true .no)), (10001000, .rc [.own 1 false, .own 2 false]), (10001001, .sl 3 y0_ i4 .shallow)])) he ?_ ?_
 ·rintro ⟨i3, i4⟩ he
  refine wkSeq (spec_l6Some__rsd_j2 a2 i3) (fun i7 => (envOf [(0, .c (.ptr 0 0)), (2, .c (.int .i64 a2)), (7, .c (.own 10003000 false))], [(0, .rc [.imm (.int .u8) i3.1, .int .i64 i3.2]), (1, .sl 3 y0_ o1 .shallow), (2, .sl 72 y5_ o2 (.deep true .no)), (10003000, .sl 3 y0_ i7 .shallow)])) he ?_ ?_
  ·rintro i7 he
   refine wkSeq (spec_l6Some__rsd_j3 i3) (fun i12 => (envOf [(0, .c (.ptr 0 0)), (7, .c (.own 10006000 false))], [(0, .rc [.imm (.int .u8) i3.1, .int .i64 i3.2]), (1, .sl 3 y0_ o1 .shallow), (2, .sl 72 y5_ o2 (.deep true .no)), (10006000, .sl 3 y0_ i12 .shallow)])) he ?_ ?_
   ·rintro i12 he
    refine go_if he (fun he => ?_) fun he => ?_
    ·refine go_bind he fun r3_ he => ?_
     refine go_if he (fun he => ?_) fun he => ?_
     ·refine go_rq he fun he => ?_
      refine go_rq he fun he => ?_
      refine go_rq he fun he => ?_
      refine go_rq he fun he => ?_
      exact wkRet [(6, [])] (ok_some he :) (leads_au [(900, 10006000)])
     ·exact wkRet [(6, [])] (ok_some he :) (leads_au [(900, 10006000)])
    ·exact wkRet [(6, [])] (ok_some he :) (leads_au [(900, 10006000)])
   ·skip
    refine go_if2 he (fun he => ?_) fun he => ?_
    ·refine go_if he (fun he => ?_) fun he => ?_
     ·refine wkLoop (spec_l6Some__rsd_l2 a2 i3) (fun (i8, i9) => (envOf [(0, .c (.ptr 0 0)), (2, .c (.int .i64 a2)), (7, .c (.own 10004000 false)), (10, .c (.int .i64 i8))], [(0, .rc [.imm (.int .u8) i3.1, .int .i64 i3.2]), (1, .sl 3 y0_ o1 .shallow), (2, .sl 72 y5_ o2 (.deep true .no)), (10004000, .sl 3 y0_ i9 .shallow)])) he (leads_au [(10004000, 66)]) ?_
      rintro ⟨i8, i9⟩ _ he
      refine go_if he (fun he => ?_) fun he => ?_
      ·refine go_rq he fun he => ?_
       refine go_rq he fun he => ?_
       exact ⟨_, (ok_some he :), (leads_au [(10004000, 75)])⟩
      ·exact ⟨_, (ok_up he :), (leads_au [(10006000, 10004000)])⟩
     ·exact ⟨_, he, (leads_au [(10006000, 10003000)])⟩
    ·refine wkLoop (spec_l6Some__rsd_l1 a2 i3) (fun (i10, i11) => (envOf [(0, .c (.ptr 0 0)), (2, .c (.int .i64 a2)), (7, .c (.own 10005000 false)), (10, .c (.int .i64 i10))], [(0, .rc [.imm (.int .u8) i3.1, .int .i64 i3.2]), (1, .sl 3 y0_ o1 .shallow), (2, .sl 72 y5_ o2 (.deep true .no)), (10005000, .sl 3 y0_ i11 .shallow)])) he (leads_au [(10005000, 66)]) ?_
     rintro ⟨i10, i11⟩ _ he
     refine go_if he (fun he => ?_) fun he => ?_
     ·refine go_rq he fun he => ?_
      refine go_rq he fun he => ?_
      exact ⟨_, (ok_some he :), (leads_au [(10005000, 75)])⟩
     ·exact ⟨_, (ok_up he :), (leads_au [(10006000, 10005000)])⟩
  ·skip
   refine wkLoop (spec_l6Some__rsd_l3 a2 o1 i3) (fun (i5, i6) => (envOf [(0, .c (.ptr 0 0)), (2, .c (.int .i64 a2)), (4, .c (.ptr 10002000 0)), (7, .c (.own 10002001 false)), (9, .c (.int .i64 i5))], [(0, .rc [.imm (.int .u8) i3.1, .int .i64 i3.2]), (1, .sl 3 y0_ o1 .shallow), (2, .sl 72 y5_ o2 (.deep true .no)), (10002000, .rc [.own 1 false, .own 2 false]), (10002001, .sl 3 y0_ i6 .shallow)])) he (leads_au [(10002000, 10001000), (10002001, 10001001)]) ?_
   rintro ⟨i5, i6⟩ _ he
   refine go_if he (fun he => ?_) fun he => ?_
   ·refine go_if he (fun he => ?_) fun he => ?_
    ·refine go_if2 he (fun he => ?_) fun he => ?_
     ·refine go_rq he fun he => ?_
      refine go_rq he fun he => ?_
      refine go_if he (fun he => ?_) fun he => ?_
      ·exact wkz_4
      ·exact wkz_5
     ·exact wkz_4
    ·exact ⟨_, (ok_up he :), (leads_au [(10003000, 10002001)])⟩
   ·exact ⟨_, (ok_up he :), (leads_au [(10003000, 10002001)])⟩
 ·skip
  refine wkLoop (spec_l6Some__rsd_l4 a2 o1) (fun (i, i1, i2) => (envOf [(0, .c (.ptr 0 0)), (2, .c (.int .i64 a2)), (4, .c (.ptr 10000000 0)), (7, .c (.own 10000001 false)), (8, .c (.int .i64 i))], [(0, .rc [.imm (.int .u8) i1.1, .int .i64 i1.2]), (1, .sl 3 y0_ o1 .shallow), (2, .sl 72 y5_ o2 (.deep true .no)), (10000000, .rc [.own 1 false, .own 2 false]), (10000001, .sl 3 y0_ i2 .shallow)])) he (leads_au [(10000000, 4), (10000001, 12)]) ?_
  rintro ⟨i, i1, i2⟩ _ he
  refine go_if he (fun he => ?_) fun he => ?_
  ·refine go_bind he fun r2_ he => ?_
   refine go_if he (fun he => ?_) fun he => ?_
   ·refine go_rq he fun he => ?_
    refine go_rq he fun he => ?_
    exact ⟨_, (ok_some he :), (leads_au [(10000001, 26)])⟩
   ·exact wkz_5
  ·exact ⟨_, (ok_up he :), (leads_au [(10001000, 10000000), (10001001, 10000001)])⟩

noncomputable def c_spec_l6Draw__rsd : Con := fun
  | [.c (.ptr 0 0), .agg [.own 1 false, .own 2 false]], [(0, .rc [.imm (.int .u8) o0_0, .int .i64 o0_1]), (1, .sl 3 (.int .i64) o1 .shallow), (2, .sl 72 (.pair (.int .i64) (.pair (.sl (.int .i64)) (.pair (.sl (.int .i64)) (.pair (.int .i64) (.sl (.sl (.int .i64))))))) o2 (.deep true .no))] => .opt _ (spec_l6Draw__rsd (o0_0, o0_1) o1 o2) (fun r => .ret (.agg [.int .i64 r.2.1, .own 901 false, .own 902 false, .int .i64 r.2.2.1, .own 903 false]) [(0, .rc [.imm (.int .u8) r.1.1, .int .i64 r.1.2]), (1, .sl 3 y0_ o1 .shallow), (2, .sl 72 y5_ o2 (.deep true .no)), (900, .rc [.int .i64 r.2.1, .own 901 false, .own 902 false, .int .i64 r.2.2.1, .own 903 false]), (901, .sl 3 y0_ r.2.2.2.1 .shallow), (902, .sl 3 y0_ r.2.2.2.2.1 .shallow), (903, .sl 22 (.sl y0_) r.2.2.2.2.2 (.deep true .no))])
  | _, _ => .fail

noncomputable def C_spec_l6Draw__rsd_s1 : Sched := .alt 6 (.first 7 (.alt 8 .done .stop)) .stop
noncomputable def C_spec_l6Draw__rsd_s2 : Sched := .alt 5 C_spec_l6Draw__rsd_s1 .stop
noncomputable def C_spec_l6Draw__rsd_s3 : Sched := .alt 4 C_spec_l6Draw__rsd_s2 .stop
noncomputable def C_spec_l6Draw__rsd : Cfg := { y := tys, n := 77, h := 3, tab := [(87, c_spec_l17Rd_pick), (88, c_spec_l17Rd_num), (121, c_spec_l6Some__rsd)], cut := [9, 19], hand := [(121, [1])], deep := [66], sched := [(8, (wkFs [0, 2] (.alt 1 (.alt 3 C_spec_l6Draw__rsd_s3 .stop) (.alt 3 (.alt 1 C_spec_l6Draw__rsd_s3 (.alt 4 (.alt 1 C_spec_l6Draw__rsd_s2 (.alt 5 (.alt 1 C_spec_l6Draw__rsd_s1 .stop) .stop)) .stop)) .stop))))] }

theorem wkz_6 {P : Prop} (h : P := by
  refine And.intro ?_ trivial
  refine And.intro ?_ trivial
  refine And.intro hq2 ?_
  refine And.intro ?_ trivial
  refine go_rq he fun he => ?_
  exact ⟨_, (ok_some he :), (leads_au [(10000003, 35)])⟩) : P := h

theorem k_spec_l6Draw__rsd : Entry Tryz.prog 90 c_spec_l6Draw__rsd := by
 refine wkEnt (C := C_spec_l6Draw__rsd) Tryz.f90 (wkTab k_spec_l17Rd_pick (wkTab k_spec_l17Rd_num (wkTab k_spec_l6Some__rsd wkNil))) fun _ a b k he => ?_
 unfold c_spec_l6Draw__rsd at he; split at he; rotate_left; exact he.elim
 rename_i o0_0 o0_1 o1 o2
 refine wkGo0 he fun he => ?_
 refine go_bind he fun r1_ he => ?_
 refine go_bind he fun r2_ he => ?_
 refine go_if he (fun he => ?_) fun he => ?_
 ·refine wkSeq (spec_l6Draw__rsd_j1 r1_ r2_) (fun (i2, i_21) => (envOf [(0, .c (.ptr 0 0)), (4, .c (.ptr 10001000 0)), (5, .c (.ptr 10001001 0))], [(0, .rc [.imm (.int .u8) i2.1, .int .i64 i2.2]), (1, .sl 3 y0_ o1 .shallow), (2, .sl 72 y5_ o2 (.deep true .no)), (10001000, .rc [.int .i64 (0:Int), .nil, .nil, .int .i64 (0:Int), .nil]), (10001001, .rc [.int .i64 r1_.1, .own 10001002 false, .own 10001003 false, .int .i64 (0:Int), .nil]), (10001002, .sl 3 y0_ r2_.2 .shallow), (10001003, .sl 3 y0_ i_21 .shallow)])) he ?_ ?_
  ·rintro ⟨i2, i_21⟩ he
   refine go_bind he fun r6_ he => ?_
   exact wkRet [(4, [900])] (ok_some he :) (leads_au [(900, 10001000), (901, 10001002), (902, 10001003)])
  ·skip
   refine wkLoop (spec_l6Draw__rsd_l1 r1_ r2_) (fun (i, i1, i_2) => (envOf [(0, .c (.ptr 0 0)), (4, .c (.ptr 10000000 0)), (5, .c (.ptr 10000001 0)), (6, .c (.int .i64 i))], [(0, .rc [.imm (.int .u8) i1.1, .int .i64 i1.2]), (1, .sl 3 y0_ o1 .shallow), (2, .sl 72 y5_ o2 (.deep true .no)), (10000000, .rc [.int .i64 (0:Int), .nil, .nil, .int .i64 (0:Int), .nil]), (10000001, .rc [.int .i64 r1_.1, .own 10000002 false, .own 10000003 false, .int .i64 (0:Int), .nil]), (10000002, .sl 3 y0_ r2_.2 .shallow), (10000003, .sl 3 y0_ i_2 .shallow)])) he (leads_au [(10000000, 4), (10000001, 5), (10000002, 17900)]) ?_
   rintro ⟨i, i1, i_2⟩ _ he
   refine go_if he (fun he => ?_) fun he => ?_
   ·refine And.intro (by kernel_rfl) ?_
    obtain ⟨r5_, hq1, he⟩ := ok_bind he
    obtain ⟨hq2, he⟩ := ok_rq he
    refine And.intro ?_ (And.intro ?_ (trivial))
    ·skip
     refine And.intro ?_ trivial
     refine And.intro ?_ trivial
     refine ⟨r5_, hq1, ?_⟩
     exact wkz_6
    ·skip
     refine And.intro ?_ (And.intro ?_ (trivial))
     ·skip
      refine And.intro ?_ trivial
      refine ⟨r5_, hq1, ?_⟩
      exact wkz_6
     ·skip
      refine ⟨r5_, hq1, ?_⟩
      refine And.intro ?_ (And.intro ?_ (trivial))
      ·skip
       exact wkz_6
      ·skip
       exact wkz_6
   ·exact ⟨_, (ok_up he :), (leads_au [(10001000, 10000000), (10001001, 10000001), (10001002, 10000002), (10001003, 10000003)])⟩
 ·refine go_if he (fun he => ?_) fun he => ?_
  ·refine go_bind he fun r7_ he => ?_
   refine wkLoop (spec_l6Draw__rsd_l2 r1_ r2_) (fun (i3, i9, i_4) => (envOf [(0, .c (.ptr 0 0)), (4, .c (.ptr 10002000 0)), (5, .c (.ptr 10002001 0)), (7, .c (.int .i64 i3))], [(0, .rc [.imm (.int .u8) i9.1, .int .i64 i9.2]), (1, .sl 3 y0_ o1 .shallow), (2, .sl 72 y5_ o2 (.deep true .no)), (10002000, .rc [.int .i64 (0:Int), .nil, .nil, .int .i64 (0:Int), .nil]), (10002001, .rc [.int .i64 r1_.1, .own 10002002 false, .nil, .int .i64 (0:Int), .own 10002003 false]), (10002002, .sl 3 y0_ r2_.2 .shallow), (10002003, .sl 22 (.sl y0_) i_4 (.deep true .no))])) he (leads_au [(10002000, 4), (10002001, 5), (10002002, 17900)]) ?_
   rintro ⟨i3, i9, i_4⟩ _ he
   refine go_if he (fun he => ?_) fun he => ?_
   ·refine wkSeq (spec_l6Draw__rsd_j2 i3 i_4) (fun (i13, i14) => (envOf [(0, .c (.ptr 0 0)), (4, .c (.ptr 10006000 0)), (5, .c (.ptr 10006001 0)), (7, .c (.int .i64 i3)), (8, .c (.own 10006002 false))], [(0, .rc [.imm (.int .u8) i13.1, .int .i64 i13.2]), (1, .sl 3 y0_ o1 .shallow), (2, .sl 72 y5_ o2 (.deep true .no)), (10006000, .rc [.int .i64 (0:Int), .nil, .nil, .int .i64 (0:Int), .nil]), (10006001, .rc [.int .i64 r1_.1, .own 10006003 false, .nil, .int .i64 (0:Int), .own 10006004 false]), (10006002, .sl 3 y0_ i14 .shallow), (10006003, .sl 3 y0_ r2_.2 .shallow), (10006004, .sl 22 (.sl y0_) i_4 (.deep true .no))])) he ?_ ?_
    ·rintro ⟨i13, i14⟩ he
     refine go_rq he fun he => ?_
     refine go_rq he fun he => ?_
     exact ⟨_, (ok_some he :), (leads_au [(10002000, 10006000), (10002001, 10006001), (10002002, 10006003), (10002003, 67)])⟩
    ·skip
     refine wkLoop (spec_l6Draw__rsd_l3 r2_ i3 i_4) (fun (i10, i11, i12) => (envOf [(0, .c (.ptr 0 0)), (4, .c (.ptr 10005000 0)), (5, .c (.ptr 10005001 0)), (7, .c (.int .i64 i3)), (8, .c (.own 10005002 false)), (9, .c (.int .i64 i10))], [(0, .rc [.imm (.int .u8) i11.1, .int .i64 i11.2]), (1, .sl 3 y0_ o1 .shallow), (2, .sl 72 y5_ o2 (.deep true .no)), (10005000, .rc [.int .i64 (0:Int), .nil, .nil, .int .i64 (0:Int), .nil]), (10005001, .rc [.int .i64 r1_.1, .own 10005003 false, .nil, .int .i64 (0:Int), .own 10005004 false]), (10005002, .sl 3 y0_ i12 .shallow), (10005003, .sl 3 y0_ r2_.2 .shallow), (10005004, .sl 22 (.sl y0_) i_4 (.deep true .no))])) he (leads_au [(10005000, 10002000), (10005001, 10002001), (10005002, 50), (10005003, 10002002), (10005004, 10002003)]) ?_
     rintro ⟨i10, i11, i12⟩ _ he
     refine go_if he (fun he => ?_) fun he => ?_
     ·refine go_bind he fun r11_ he => ?_
      refine go_rq he fun he => ?_
      refine go_rq he fun he => ?_
      exact ⟨_, (ok_some he :), (leads_au [(10005002, 62)])⟩
     ·exact ⟨_, (ok_up he :), (leads_au [(10006000, 10005000), (10006001, 10005001), (10006002, 10005002), (10006003, 10005003), (10006004, 10005004)])⟩
   ·exact wkRet [(4, [900])] (ok_some he :) (leads_au [(900, 10002000), (901, 10002002), (903, 10002003)])
  ·refine go_if he (fun he => ?_) fun he => ?_
   ·refine go_bind he fun r12_ he => ?_
    refine go_rq he fun he => ?_
    exact wkRet [(4, [900])] (ok_some he :) (leads_au [(900, 4), (901, 74)])
   ·exact wkRet [(4, [900])] (ok_some he :) (leads_au [(900, 4), (901, 17900)])

noncomputable def c_spec_l6Model : Con := fun
  | [.c (.ptr 0 0)], [(0, .rc [.imm (.int .u8) o0_0, .int .i64 o0_1])] => .opt _ (spec_l6Model (o0_0, o0_1)) (fun r => .ret (.agg [.own 901 false, .own 902 false]) [(0, .rc [.imm (.int .u8) r.1.1, .int .i64 r.1.2]), (900, .rc [.own 901 false, .own 902 false]), (901, .sl 3 y0_ r.2.1 .shallow), (902, .sl 72 y5_ r.2.2 (.deep true .no))])
  | _, _ => .fail

noncomputable def C_spec_l6Model_s1 : Sched := .alt 6 (.first 7 (.alt 8 .done .stop)) .stop
noncomputable def C_spec_l6Model_s2 : Sched := .alt 5 C_spec_l6Model_s1 .stop
noncomputable def C_spec_l6Model_s3 : Sched := .alt 4 C_spec_l6Model_s2 .stop
noncomputable def C_spec_l6Model_s4 : Sched := wkFs [0, 2] (.alt 1 (.alt 3 C_spec_l6Model_s3 .stop) (.alt 3 (.alt 1 C_spec_l6Model_s3 (.alt 4 (.alt 1 C_spec_l6Model_s2 (.alt 5 (.alt 1 C_spec_l6Model_s1 .stop) .stop)) .stop)) .stop))
noncomputable def C_spec_l6Model : Cfg := { y := tys, n := 67, h := 1, tab := [(88, c_spec_l17Rd_num), (90, c_spec_l6Draw__rsd)], cut := [6, 15], hand := [(90, [1])], deep := [63], sched := [(5, C_spec_l6Model_s4), (18, C_spec_l6Model_s4)] }

theorem wkz_7 {P : Prop} (h : P := by
  refine And.intro ?_ trivial
  refine And.intro ?_ trivial
  refine And.intro hq2 ?_
  refine And.intro ?_ trivial
  refine go_rq he fun he => ?_
  exact ⟨_, (ok_some he :), (leads_au [(10006003, 64)])⟩) : P := h

theorem wkz_8 {P : Prop} (h : P := by
  refine go_rq he fun he => ?_
  exact wkz_5) : P := h

theorem wkz_9 {P : Prop} (h : P := by
  refine go_rq he fun he => ?_
  exact wkz_8) : P := h

theorem wkz_10 {P : Prop} (h : P := by
  refine go_rq he fun he => ?_
  exact wkz_9) : P := h

theorem wkz_11 {P : Prop} (h : P := by
  refine And.intro ?_ trivial
  refine And.intro ?_ trivial
  refine And.intro hq2 ?_
  refine And.intro ?_ trivial
  refine go_rq he fun he => ?_
  exact ⟨_, (ok_some he :), (leads_au [(10000002, 22)])⟩) : P := h

theorem k_spec_l6Model : Entry Tryz.prog 89 c_spec_l6Model := by
 refine wkEnt (C := C_spec_l6Model) Tryz.f89 (wkTab k_spec_l17Rd_num (wkTab k_spec_l6Draw__rsd wkNil)) fun _ a b k he => ?_
 unfold c_spec_l6Model at he; split at he; rotate_left; exact he.elim
 rename_i o0_0 o0_1
 refine wkGo0 he fun he => ?_
 refine wkSeq (spec_l6Model_j1) (fun (i2, i_01) => (envOf [(0, .c (.ptr 0 0)), (2, .c (.ptr 10001000 0)), (3, .c (.ptr 10001001 0))], [(0, .rc [.imm (.int .u8) i2.1, .int .i64 i2.2]), (10001000, .rc [.nil, .nil]), (10001001, .rc [.own 10001002 false, .nil]), (10001002, .sl 3 y0_ i_01 .shallow)])) he ?_ ?_
 ·rintro ⟨i2, i_01⟩ he
  refine wkSeq (spec_l6Model_j2 i2) (fun i_03 => (envOf [(0, .c (.ptr 0 0)), (2, .c (.ptr 10005000 0)), (3, .c (.ptr 10005001 0))], [(0, .rc [.imm (.int .u8) i2.1, .int .i64 i2.2]), (10005000, .rc [.nil, .nil]), (10005001, .rc [.own 10005002 false, .nil]), (10005002, .sl 3 y0_ i_03 .shallow)])) he ?_ ?_
  ·rintro i_03 he
   refine go_bind he fun r5_ he => ?_
   refine wkLoop (spec_l6Model_l1 i_03) (fun (i8, i9, i_1) => (envOf [(0, .c (.ptr 0 0)), (2, .c (.ptr 10006000 0)), (3, .c (.ptr 10006001 0)), (7, .c (.int .i64 i8))], [(0, .rc [.imm (.int .u8) i9.1, .int .i64 i9.2]), (10006000, .rc [.nil, .nil]), (10006001, .rc [.own 10006002 false, .own 10006003 false]), (10006002, .sl 3 y0_ i_03 .shallow), (10006003, .sl 72 y5_ i_1 (.deep true .no))])) he (leads_au [(10006000, 10005000), (10006001, 10005001), (10006002, 10005002)]) ?_
   rintro ⟨i8, i9, i_1⟩ _ he
   refine go_if he (fun he => ?_) fun he => ?_
   ·refine And.intro (by kernel_rfl) ?_
    obtain ⟨r8_, hq1, he⟩ := ok_bind he
    obtain ⟨hq2, he⟩ := ok_rq he
    refine And.intro ?_ (And.intro ?_ (trivial))
    ·skip
     refine And.intro ?_ trivial
     refine And.intro ?_ trivial
     refine ⟨r8_, hq1, ?_⟩
     exact wkz_7
    ·skip
     refine And.intro ?_ (And.intro ?_ (trivial))
     ·skip
      refine And.intro ?_ trivial
      refine ⟨r8_, hq1, ?_⟩
      exact wkz_7
     ·skip
      refine ⟨r8_, hq1, ?_⟩
      refine And.intro ?_ (And.intro ?_ (trivial))
      ·skip
       exact wkz_7
      ·skip
       exact wkz_7
   ·exact wkRet [(2, [900])] (ok_some he :) (leads_au [(900, 10006000), (901, 10006002), (902, 10006003)])
  ·skip
   refine wkLoop (spec_l6Model_l2 i2) (fun (i3, i_02) => (envOf [(0, .c (.ptr 0 0)), (2, .c (.ptr 10002000 0)), (3, .c (.ptr 10002001 0)), (5, .c (.int .i64 i3))], [(0, .rc [.imm (.int .u8) i2.1, .int .i64 i2.2]), (10002000, .rc [.nil, .nil]), (10002001, .rc [.own 10002002 false, .nil]), (10002002, .sl 3 y0_ i_02 .shallow)])) he (leads_au [(10002000, 10001000), (10002001, 10001001), (10002002, 10001002)]) ?_
   rintro ⟨i3, i_02⟩ _ he
   refine go_if he (fun he => ?_) fun he => ?_
   ·refine wkLoop (spec_l6Model_l3 i_02) (fun (i6, i7) => (envOf [(0, .c (.ptr 0 0)), (2, .c (.ptr 10004000 0)), (3, .c (.ptr 10004001 0)), (5, .c (.int .i64 i6)), (6, .c (.int .i64 i7))], [(0, .rc [.imm (.int .u8) i2.1, .int .i64 i2.2]), (10004000, .rc [.nil, .nil]), (10004001, .rc [.own 10004002 false, .nil]), (10004002, .sl 3 y0_ i_02 .shallow)])) he (leads_au [(10004000, 10002000), (10004001, 10002001), (10004002, 10002002)]) ?_
    rintro ⟨i6, i7⟩ _ he
    refine go_if he (fun he => ?_) fun he => ?_
    ·exact wkz_10
    ·refine go_if he (fun he => ?_) fun he => ?_
     ·refine go_rq he fun he => ?_
      refine go_rq he fun he => ?_
      exact ⟨_, (ok_some he :), (leads_au [(10002000, 10004000), (10002001, 10004001), (10002002, 49)])⟩
     ·exact ⟨_, (ok_some he :), (leads_au [(10002000, 10004000), (10002001, 10004001), (10002002, 10004002)])⟩
   ·exact ⟨_, (ok_up he :), (leads_au [(10005000, 10002000), (10005001, 10002001), (10005002, 10002002)])⟩
 ·skip
  refine go_bind he fun r1_ he => ?_
  refine wkLoop (spec_l6Model_l4) (fun (i, i1, i_0) => (envOf [(0, .c (.ptr 0 0)), (2, .c (.ptr 10000000 0)), (3, .c (.ptr 10000001 0)), (4, .c (.int .i64 i))], [(0, .rc [.imm (.int .u8) i1.1, .int .i64 i1.2]), (10000000, .rc [.nil, .nil]), (10000001, .rc [.own 10000002 false, .nil]), (10000002, .sl 3 y0_ i_0 .shallow)])) he (leads_au [(10000000, 2), (10000001, 3)]) ?_
  rintro ⟨i, i1, i_0⟩ _ he
  refine go_if he (fun he => ?_) fun he => ?_
  ·refine And.intro (by kernel_rfl) ?_
   obtain ⟨r4_, hq1, he⟩ := ok_bind he
   obtain ⟨hq2, he⟩ := ok_rq he
   refine And.intro ?_ (And.intro ?_ (trivial))
   ·skip
    refine And.intro ?_ trivial
    refine And.intro ?_ trivial
    refine ⟨r4_, hq1, ?_⟩
    exact wkz_11
   ·skip
    refine And.intro ?_ (And.intro ?_ (trivial))
    ·skip
     refine And.intro ?_ trivial
     refine ⟨r4_, hq1, ?_⟩
     exact wkz_11
    ·skip
     refine ⟨r4_, hq1, ?_⟩
     refine And.intro ?_ (And.intro ?_ (trivial))
     ·skip
      exact wkz_11
     ·skip
      exact wkz_11
  ·exact ⟨_, (ok_up he :), (leads_au [(10001000, 10000000), (10001001, 10000001), (10001002, 10000002)])⟩

noncomputable def c_spec_l10Model : Con := fun
  | [.c (.ptr 0 0)], [(0, .rc [.imm (.int .u8) o0_0, .int .i64 o0_1])] => .opt _ (spec_l10Model (o0_0, o0_1)) (fun r => .ret (.agg [.own 901 false, .own 902 false]) [(0, .rc [.imm (.int .u8) r.1.1, .int .i64 r.1.2]), (900, .rc [.own 901 false, .own 902 false]), (901, .sl 3 y0_ r.2.1 .shallow), (902, .sl 72 y5_ r.2.2 (.deep true .no))])
  | _, _ => .fail

noncomputable def C_spec_l10Model_s1 : Sched := .alt 7 (.first 8 (.alt 9 .done .stop)) .stop
noncomputable def C_spec_l10Model_s2 : Sched := .alt 6 C_spec_l10Model_s1 .stop
noncomputable def C_spec_l10Model_s3 : Sched := .alt 5 C_spec_l10Model_s2 .stop
noncomputable def C_spec_l10Model_s4 : Sched := .alt 4 C_spec_l10Model_s3 .stop
noncomputable def C_spec_l10Model_s5 : Sched := .alt 8 (.first 9 (.alt 10 .done .stop)) .stop
noncomputable def C_spec_l10Model_s6 : Sched := .alt 7 C_spec_l10Model_s5 .stop
noncomputable def C_spec_l10Model_s7 : Sched := .alt 6 C_spec_l10Model_s6 .stop
noncomputable def C_spec_l10Model_s8 : Sched := .alt 6 (.first 7 (.alt 8 .done .stop)) .stop
noncomputable def C_spec_l10Model_s9 : Sched := .alt 5 C_spec_l10Model_s8 .stop
noncomputable def C_spec_l10Model_s10 : Sched := .alt 4 C_spec_l10Model_s9 .stop
noncomputable def C_spec_l10Model : Cfg := { y := tys, n := 85, h := 1, tab := [(87, c_spec_l17Rd_pick), (88, c_spec_l17Rd_num), (89, c_spec_l6Model), (90, c_spec_l6Draw__rsd)], cut := [10, 17, 20, 22], hand := [(90, [1])], deep := [46, 57, 70, 81], sched := [(19, (wkFs [0, 3] (.alt 1 (.alt 2 C_spec_l10Model_s4 .stop) (.alt 2 (.alt 1 C_spec_l10Model_s4 (.alt 4 (.alt 1 C_spec_l10Model_s3 (.alt 5 (.alt 1 C_spec_l10Model_s2 (.alt 6 (.alt 1 C_spec_l10Model_s1 .stop) .stop)) .stop)) .stop)) .stop)))), (21, (wkFs [0, 2, 3, 4] (.alt 1 (.alt 5 C_spec_l10Model_s7 .stop) (.alt 5 (.alt 1 C_spec_l10Model_s7 (.alt 6 (.alt 1 C_spec_l10Model_s6 (.alt 7 (.alt 1 C_spec_l10Model_s5 .stop) .stop)) .stop)) .stop)))), (23, (wkFs [0, 2] (.alt 1 (.alt 3 C_spec_l10Model_s10 .stop) (.alt 3 (.alt 1 C_spec_l10Model_s10 (.alt 4 (.alt 1 C_spec_l10Model_s9 (.alt 5 (.alt 1 C_spec_l10Model_s8 .stop) .stop)) .stop)) .stop))))] }

theorem wkz_12 {P : Prop} (h : P := by
  refine And.intro ?_ trivial
  refine And.intro ?_ trivial
  refine And.intro hq2 ?_
  refine And.intro ?_ trivial
  exact wkRet [(2, [900])] (ok_some he :) (leads_au [(900, 10005000), (901, 10005002), (902, 82)])) : P := h

theorem wkz_13 {P : Prop} (h : P := by
  refine And.intro ?_ trivial
  refine And.intro ?_ trivial
  refine And.intro hq2 ?_
  refine And.intro ?_ trivial
  exact ⟨_, he, (leads_au [(10005000, 10004000), (10005001, 10004001), (10005002, 10004004), (10005003, 71)])⟩) : P := h

theorem wkz_14 {P : Prop} (h : P := by
  refine And.intro ?_ trivial
  refine And.intro ?_ trivial
  refine And.intro hq2 ?_
  refine And.intro ?_ trivial
  exact ⟨_, he, (leads_au [(10004000, 10003000), (10004001, 10003001), (10004002, 10003002), (10004003, 10003003), (10004004, 10003004), (10004005, 58)])⟩) : P := h

theorem wkz_15 {P : Prop} (h : P := by
  refine And.intro ?_ trivial
  refine And.intro hq1 ?_
  refine And.intro ?_ trivial
  exact wkz_14) : P := h

theorem k_spec_l10Model : Entry Tryz.prog 51 c_spec_l10Model := by
 refine wkEnt (C := C_spec_l10Model) Tryz.f51 (wkTab k_spec_l17Rd_pick (wkTab k_spec_l17Rd_num (wkTab k_spec_l6Model (wkTab k_spec_l6Draw__rsd wkNil)))) fun _ a b k he => ?_
 unfold c_spec_l10Model at he; split at he; rotate_left; exact he.elim
 rename_i o0_0 o0_1
 refine wkGo0 he fun he => ?_
 refine go_bind he fun r1_ he => ?_
 refine go_bind he fun r2_ he => ?_
 refine go_if he (fun he => ?_) fun he => ?_
 ·exact wkRet [(2, [900])] (ok_some he :) (leads_au [(900, 2), (901, 12901), (902, 12902)])
 ·refine go_bind he fun r3_ he => ?_
  refine wkSeq (spec_l10Model_j1 r1_ r3_) (fun i_01 => (envOf [(0, .c (.ptr 0 0)), (2, .c (.ptr 10001000 0)), (3, .c (.ptr 10001001 0)), (5, .c (.int .i64 (r1_.2.1.length:Int)))], [(0, .rc [.imm (.int .u8) r3_.2.1, .int .i64 r3_.2.2]), (10001000, .rc [.nil, .nil]), (10001001, .rc [.own 10001002 false, .own 10001003 false]), (10001002, .sl 3 y0_ i_01 .shallow), (10001003, .sl 72 y5_ r1_.2.2 (.deep true .no))])) he ?_ ?_
  ·rintro i_01 he
   refine wkSeq (spec_l10Model_j2 r3_ i_01) (fun (i4, i5) => (envOf [(0, .c (.ptr 0 0)), (2, .c (.ptr 10003000 0)), (3, .c (.ptr 10003001 0)), (7, .c (.own 10003002 false)), (8, .c (.own 10003003 false))], [(0, .rc [.imm (.int .u8) r3_.2.1, .int .i64 r3_.2.2]), (10003000, .rc [.nil, .nil]), (10003001, .rc [.own 10003004 false, .own 10003005 false]), (10003002, .sl 3 y0_ i4 .shallow), (10003003, .sl 3 y0_ i5 .shallow), (10003004, .sl 3 y0_ i_01 .shallow), (10003005, .sl 72 y5_ r1_.2.2 (.deep true .no))])) he ?_ ?_
   ·rintro ⟨i4, i5⟩ he
    refine wkSeq (spec_l10Model_j3 i_01 i4 i5) (fun (i6, i_1) => (envOf [(0, .c (.ptr 0 0)), (2, .c (.ptr 10004000 0)), (3, .c (.ptr 10004001 0)), (7, .c (.own 10004002 false)), (8, .c (.own 10004003 false))], [(0, .rc [.imm (.int .u8) i6.1, .int .i64 i6.2]), (10004000, .rc [.nil, .nil]), (10004001, .rc [.own 10004004 false, .own 10004005 false]), (10004002, .sl 3 y0_ i4 .shallow), (10004003, .sl 3 y0_ i5 .shallow), (10004004, .sl 3 y0_ i_01 .shallow), (10004005, .sl 72 y5_ i_1 (.deep true .no))])) he ?_ ?_
    ·rintro ⟨i6, i_1⟩ he
     refine wkSeq (spec_l10Model_j4 i_01) (fun (i7, i_11) => (envOf [(0, .c (.ptr 0 0)), (2, .c (.ptr 10005000 0)), (3, .c (.ptr 10005001 0))], [(0, .rc [.imm (.int .u8) i7.1, .int .i64 i7.2]), (10005000, .rc [.nil, .nil]), (10005001, .rc [.own 10005002 false, .own 10005003 false]), (10005002, .sl 3 y0_ i_01 .shallow), (10005003, .sl 72 y5_ i_11 (.deep true .no))])) he ?_ ?_
     ·rintro ⟨i7, i_11⟩ he
      refine go_bind he fun r8_ he => ?_
      refine go_if he (fun he => ?_) fun he => ?_
      ·refine And.intro (by kernel_rfl) ?_
       obtain ⟨r10_, hq1, he⟩ := ok_bind he
       obtain ⟨hq2, he⟩ := ok_rq he
       refine And.intro ?_ (And.intro ?_ (trivial))
       ·skip
        refine And.intro ?_ trivial
        refine And.intro ?_ trivial
        refine ⟨r10_, hq1, ?_⟩
        exact wkz_12
       ·skip
        refine And.intro ?_ (And.intro ?_ (trivial))
        ·skip
         refine And.intro ?_ trivial
         refine ⟨r10_, hq1, ?_⟩
         exact wkz_12
        ·skip
         refine ⟨r10_, hq1, ?_⟩
         refine And.intro ?_ (And.intro ?_ (trivial))
         ·skip
          exact wkz_12
         ·skip
          exact wkz_12
      ·exact wkRet [(2, [900])] (ok_some he :) (leads_au [(900, 10005000), (901, 10005002), (902, 10005003)])
     ·skip
      refine go_bind he fun r5_ he => ?_
      refine go_if he (fun he => ?_) fun he => ?_
      ·refine And.intro (by kernel_rfl) ?_
       obtain ⟨r7_, hq1, he⟩ := ok_bind he
       obtain ⟨hq2, he⟩ := ok_rq he
       refine And.intro ?_ (And.intro ?_ (trivial))
       ·skip
        refine And.intro ?_ trivial
        refine ⟨r7_, hq1, ?_⟩
        refine And.intro ?_ trivial
        exact wkz_13
       ·skip
        refine ⟨r7_, hq1, ?_⟩
        refine And.intro ?_ (And.intro ?_ (trivial))
        ·skip
         refine And.intro ?_ trivial
         exact wkz_13
        ·skip
         refine And.intro ?_ (And.intro ?_ (trivial))
         ·skip
          exact wkz_13
         ·skip
          exact wkz_13
      ·exact ⟨_, he, (leads_au [(10005000, 10004000), (10005001, 10004001), (10005002, 10004004), (10005003, 10004005)])⟩
    ·skip
     refine go_bind he fun r4_ he => ?_
     refine go_if he (fun he => ?_) fun he => ?_
     ·refine And.intro (by kernel_rfl) ?_
      obtain ⟨hq1, he⟩ := ok_rq he
      obtain ⟨hq2, he⟩ := ok_rq he
      refine And.intro ?_ (And.intro ?_ (trivial))
      ·skip
       refine And.intro ?_ trivial
       exact wkz_15
      ·skip
       refine And.intro ?_ (And.intro ?_ (trivial))
       ·skip
        exact wkz_15
       ·skip
        refine And.intro hq1 ?_
        refine And.intro ?_ (And.intro ?_ (trivial))
        ·skip
         refine And.intro ?_ trivial
         exact wkz_14
        ·skip
         refine And.intro ?_ (And.intro ?_ (trivial))
         ·skip
          exact wkz_14
         ·skip
          exact wkz_14
     ·exact ⟨_, he, (leads_au [(10004000, 10003000), (10004001, 10003001), (10004002, 10003002), (10004003, 10003003), (10004004, 10003004), (10004005, 46)])⟩
   ·skip
    refine wkLoop (spec_l10Model_l1 r1_ r3_ i_01) (fun (i1, i2, i3) => (envOf [(0, .c (.ptr 0 0)), (2, .c (.ptr 10002000 0)), (3, .c (.ptr 10002001 0)), (5, .c (.int .i64 (r1_.2.1.length:Int))), (7, .c (.own 10002002 false)), (8, .c (.own 10002003 false)), (9, .c (.int .i64 i1))], [(0, .rc [.imm (.int .u8) r3_.2.1, .int .i64 r3_.2.2]), (10002000, .rc [.nil, .nil]), (10002001, .rc [.own 10002004 false, .own 10002005 false]), (10002002, .sl 3 y0_ i2 .shallow), (10002003, .sl 3 y0_ i3 .shallow), (10002004, .sl 3 y0_ i_01 .shallow), (10002005, .sl 72 y5_ r1_.2.2 (.deep true .no))])) he (leads_au [(10002000, 10001000), (10002001, 10001001), (10002002, 32), (10002003, 33), (10002004, 10001002), (10002005, 10001003)]) ?_
    rintro ⟨i1, i2, i3⟩ _ he
    refine go_if he (fun he => ?_) fun he => ?_
    ·refine go_rq he fun he => ?_
     refine go_rq he fun he => ?_
     refine go_rq he fun he => ?_
     exact ⟨_, (ok_some he :), (leads_au [(10002002, 42), (10002003, 45)])⟩
    ·exact ⟨_, (ok_up he :), (leads_au [(10003000, 10002000), (10003001, 10002001), (10003002, 10002002), (10003003, 10002003), (10003004, 10002004), (10003005, 10002005)])⟩
  ·skip
   refine wkLoop (spec_l10Model_l2 r1_ r3_) (fun (i, i_0) => (envOf [(0, .c (.ptr 0 0)), (2, .c (.ptr 10000000 0)), (3, .c (.ptr 10000001 0)), (4, .c (.int .i64 r3_.1)), (5, .c (.int .i64 (r1_.2.1.length:Int))), (6, .c (.int .i64 i))], [(0, .rc [.imm (.int .u8) r3_.2.1, .int .i64 r3_.2.2]), (10000000, .rc [.nil, .nil]), (10000001, .rc [.own 10000002 false, .own 10000003 false]), (10000002, .sl 3 y0_ i_0 .shallow), (10000003, .sl 72 y5_ r1_.2.2 (.deep true .no))])) he (leads_au [(10000000, 2), (10000001, 3), (10000002, 12901), (10000003, 12902)]) ?_
   rintro ⟨i, i_0⟩ _ he
   refine go_if he (fun he => ?_) fun he => ?_
   ·exact wkz_8
   ·exact ⟨_, (ok_up he :), (leads_au [(10001000, 10000000), (10001001, 10000001), (10001002, 10000002), (10001003, 10000003)])⟩

noncomputable def c_spec_l6Copy : Con := fun
  | [.agg [.imm (.int .i64) m_0, .imm (.pair (.int .i64) (.pair (.sl (.int .i64)) (.pair (.sl (.int .i64)) (.pair (.int .i64) (.sl (.sl (.int .i64))))))) m_1]], [] => .opt _ (spec_l6Copy (m_0, m_1)) (fun r => .ret (.agg [.own 901 false, .own 902 false]) [(900, .rc [.own 901 false, .own 902 false]), (901, .sl 3 y0_ r.1 .shallow), (902, .sl 72 y5_ r.2 (.deep true .no))])
  | _, _ => .fail

noncomputable def C_spec_l6Copy_s1 : Sched := .alt 14 .done .stop
noncomputable def C_spec_l6Copy_s2 : Sched := .alt 12 C_spec_l6Copy_s1 .stop
noncomputable def C_spec_l6Copy_s3 : Sched := .alt 9 C_spec_l6Copy_s2 .stop
noncomputable def C_spec_l6Copy_s4 : Sched := .alt 9 (.alt 12 (.alt 13 C_spec_l6Copy_s1 .stop) (.alt 13 C_spec_l6Copy_s2 .stop)) (.alt 13 C_spec_l6Copy_s3 .stop)
noncomputable def C_spec_l6Copy_s5 : Sched := .alt 6 C_spec_l6Copy_s3 .stop
noncomputable def C_spec_l6Copy_s6 : Sched := .alt 5 C_spec_l6Copy_s3 .stop
noncomputable def C_spec_l6Copy_s7 : Sched := .alt 5 C_spec_l6Copy_s4 (.alt 13 C_spec_l6Copy_s6 .stop)
noncomputable def C_spec_l6Copy_s8 : Sched := .alt 5 C_spec_l6Copy_s5 (.alt 6 C_spec_l6Copy_s6 .stop)
noncomputable def C_spec_l6Copy_s9 : Sched := .alt 2 C_spec_l6Copy_s6 .stop
noncomputable def C_spec_l6Copy_s10 : Sched := .alt 10 (.first 11 (.alt 12 .done .stop)) .stop
noncomputable def C_spec_l6Copy_s11 : Sched := .alt 9 C_spec_l6Copy_s10 .stop
noncomputable def C_spec_l6Copy_s12 : Sched := .alt 8 C_spec_l6Copy_s11 .stop
noncomputable def C_spec_l6Copy : Cfg := { y := tys, n := 64, h := 0, tab := [], cut := [1, 6, 7, 11], deep := [54, 60], sched := [(6, (wkFs [0, 1, 3, 4, 7, 8, 10, 11] (.alt 2 (.alt 5 (.alt 6 C_spec_l6Copy_s4 (.alt 13 C_spec_l6Copy_s5 .stop)) (.alt 6 C_spec_l6Copy_s7 (.alt 13 C_spec_l6Copy_s8 .stop))) (.alt 6 (.alt 2 C_spec_l6Copy_s7 (.alt 13 C_spec_l6Copy_s9 .stop)) (.alt 13 (.alt 2 C_spec_l6Copy_s8 (.alt 6 C_spec_l6Copy_s9 .stop)) .stop))))), (10, (wkFs [0, 3, 4, 5, 6, 7] (.alt 1 (.alt 2 C_spec_l6Copy_s12 .stop) (.alt 2 (.alt 1 C_spec_l6Copy_s12 (.alt 8 (.alt 1 C_spec_l6Copy_s11 (.alt 9 (.alt 1 C_spec_l6Copy_s10 .stop) .stop)) .stop)) .stop))))] }

theorem wkz_16 {P : Prop} (h : P := by
  refine And.intro ?_ trivial
  refine And.intro ?_ trivial
  refine And.intro hq2 ?_
  refine And.intro ?_ trivial
  refine go_rq he fun he => ?_
  exact ⟨_, (ok_some he :), (leads_au [(10008007, 55)])⟩) : P := h

theorem wkz_17 {P : Prop} (h : P := by
  refine And.intro ?_ trivial
  refine And.intro ?_ trivial
  exact ⟨_, he, (leads_au [(10007000, 10006000), (10007001, 10006001), (10007002, 6), (10007003, 10006002), (10007004, 10006003), (10007005, 30), (10007006, 34)])⟩) : P := h

theorem wkz_18 {P : Prop} (h : P := by
  refine And.intro ?_ trivial
  refine And.intro hq2 ?_
  exact wkz_17) : P := h

theorem wkz_19 {P : Prop} (h : P := by
  refine And.intro ?_ (And.intro ?_ (trivial))
  ·skip
   refine And.intro hq2 ?_
   refine And.intro ?_ (And.intro ?_ (trivial))
   ·skip
    exact wkz_17
   ·skip
    exact wkz_17
  ·skip
   exact wkz_18) : P := h

theorem wkz_20 {P : Prop} (h : P := by
  skip
  refine And.intro ?_ (And.intro ?_ (trivial))
  ·skip
   refine And.intro hq1 ?_
   exact wkz_19
  ·skip
   refine And.intro ?_ trivial
   refine And.intro hq1 ?_
   exact wkz_18) : P := h

theorem wkz_21 {P : Prop} (h : P := by
  skip
  refine And.intro ?_ (And.intro ?_ (trivial))
  ·skip
   refine And.intro hq1 ?_
   refine And.intro ?_ trivial
   exact wkz_18
  ·skip
   refine And.intro ?_ trivial
   refine And.intro hq1 ?_
   exact wkz_18) : P := h

theorem k_spec_l6Copy : Entry Tryz.prog 68 c_spec_l6Copy := by
 refine wkEnt (C := C_spec_l6Copy) Tryz.f68 wkNil fun _ a b k he => ?_
 unfold c_spec_l6Copy at he; split at he; rotate_left; exact he.elim
 rename_i m_0 m_1
 refine wkGo0 he fun he => ?_
 refine wkSeq (spec_l6Copy_j1 (m_0, m_1)) (fun _ => (envOf [(1, .c (.iptr y6_ (m_0, m_1) 0)), (2, .c (.ptr 10000000 0))], [(10000000, .rc [.nil, .nil])])) he ?_ ?_
 ·rintro ⟨⟩ he
  refine go_rq he fun he => ?_
  refine wkLoop (spec_l6Copy_l1 (m_0, m_1)) (fun (i, out_1) => (envOf [(1, .c (.iptr y6_ (m_0, m_1) 0)), (2, .c (.ptr 10001000 0)), (3, .c (.ptr 10001001 0)), (4, .c (.int .i64 i))], [(10001000, .rc [.nil, .nil]), (10001001, .rc [.own 10001002 false, .own 10001003 false]), (10001002, .sl 3 y0_ (([] : List Int) ++ (m_0, m_1).1) .shallow), (10001003, .sl 72 y5_ out_1 (.deep true .no))])) he (leads_au [(10001000, 10000000), (10001001, 3), (10001002, 11)]) ?_
  rintro ⟨i, out_1⟩ _ he
  refine go_if he (fun he => ?_) fun he => ?_
  ·refine wkSeq (spec_l6Copy_j2 (m_0, m_1) i out_1) (fun _ => (envOf [(1, .c (.iptr y6_ (m_0, m_1) 0)), (2, .c (.ptr 10006000 0)), (3, .c (.ptr 10006001 0)), (4, .c (.int .i64 i)), (5, .c (.iptr y5_ ((m_0, m_1).2.getD i.toNat (0, ([], ([], (0, []))))) 0))], [(10006000, .rc [.nil, .nil]), (10006001, .rc [.own 10006002 false, .own 10006003 false]), (10006002, .sl 3 y0_ (([] : List Int) ++ (m_0, m_1).1) .shallow), (10006003, .sl 72 y5_ out_1 (.deep true .no))])) he ?_ ?_
   ·rintro ⟨⟩ he
    refine wkSeq (spec_l6Copy_j3 (m_0, m_1) i out_1) (fun _ => (envOf [(1, .c (.iptr y6_ (m_0, m_1) 0)), (2, .c (.ptr 10007000 0)), (3, .c (.ptr 10007001 0)), (4, .c (.int .i64 i)), (5, .c (.iptr y5_ ((m_0, m_1).2.getD i.toNat (0, ([], ([], (0, []))))) 0)), (6, .c (.ptr 10007002 0))], [(10007000, .rc [.nil, .nil]), (10007001, .rc [.own 10007003 false, .own 10007004 false]), (10007002, .rc [.int .i64 ((m_0, m_1).2.getD i.toNat (0, ([], ([], (0, []))))).1, .own 10007005 false, .own 10007006 false, .int .i64 ((m_0, m_1).2.getD i.toNat (0, ([], ([], (0, []))))).2.2.2.1, .nil]), (10007003, .sl 3 y0_ (([] : List Int) ++ (m_0, m_1).1) .shallow), (10007004, .sl 72 y5_ out_1 (.deep true .no)), (10007005, .sl 3 y0_ (([] : List Int) ++ ((m_0, m_1).2.getD i.toNat (0, ([], ([], (0, []))))).2.1) .shallow), (10007006, .sl 3 y0_ (([] : List Int) ++ ((m_0, m_1).2.getD i.toNat (0, ([], ([], (0, []))))).2.2.1) .shallow)])) he ?_ ?_
    ·rintro ⟨⟩ he
     refine wkSeq (spec_l6Copy_j4 (m_0, m_1) i out_1) (fun y_43 => (envOf [(1, .c (.iptr y6_ (m_0, m_1) 0)), (2, .c (.ptr 10009000 0)), (3, .c (.ptr 10009001 0)), (4, .c (.int .i64 i)), (6, .c (.ptr 10009002 0))], [(10009000, .rc [.nil, .nil]), (10009001, .rc [.own 10009003 false, .own 10009004 false]), (10009002, .rc [.int .i64 ((m_0, m_1).2.getD i.toNat (0, ([], ([], (0, []))))).1, .own 10009005 false, .own 10009006 false, .int .i64 ((m_0, m_1).2.getD i.toNat (0, ([], ([], (0, []))))).2.2.2.1, .own 10009007 false]), (10009003, .sl 3 y0_ (([] : List Int) ++ (m_0, m_1).1) .shallow), (10009004, .sl 72 y5_ out_1 (.deep true .no)), (10009005, .sl 3 y0_ (([] : List Int) ++ ((m_0, m_1).2.getD i.toNat (0, ([], ([], (0, []))))).2.1) .shallow), (10009006, .sl 3 y0_ (([] : List Int) ++ ((m_0, m_1).2.getD i.toNat (0, ([], ([], (0, []))))).2.2.1) .shallow), (10009007, .sl 22 (.sl y0_) y_43 (.deep true .no))])) he ?_ ?_
     ·rintro y_43 he
      refine go_rq he fun he => ?_
      refine go_rq he fun he => ?_
      exact ⟨_, (ok_some he :), (leads_au [(10001000, 10009000), (10001001, 10009001), (10001002, 10009003), (10001003, 61)])⟩
     ·skip
      refine wkLoop (spec_l6Copy_l2 (m_0, m_1) i out_1) (fun (k_1, y_42) => (envOf [(1, .c (.iptr y6_ (m_0, m_1) 0)), (2, .c (.ptr 10008000 0)), (3, .c (.ptr 10008001 0)), (4, .c (.int .i64 i)), (5, .c (.iptr y5_ ((m_0, m_1).2.getD i.toNat (0, ([], ([], (0, []))))) 0)), (6, .c (.ptr 10008002 0)), (7, .c (.int .i64 k_1))], [(10008000, .rc [.nil, .nil]), (10008001, .rc [.own 10008003 false, .own 10008004 false]), (10008002, .rc [.int .i64 ((m_0, m_1).2.getD i.toNat (0, ([], ([], (0, []))))).1, .own 10008005 false, .own 10008006 false, .int .i64 ((m_0, m_1).2.getD i.toNat (0, ([], ([], (0, []))))).2.2.2.1, .own 10008007 false]), (10008003, .sl 3 y0_ (([] : List Int) ++ (m_0, m_1).1) .shallow), (10008004, .sl 72 y5_ out_1 (.deep true .no)), (10008005, .sl 3 y0_ (([] : List Int) ++ ((m_0, m_1).2.getD i.toNat (0, ([], ([], (0, []))))).2.1) .shallow), (10008006, .sl 3 y0_ (([] : List Int) ++ ((m_0, m_1).2.getD i.toNat (0, ([], ([], (0, []))))).2.2.1) .shallow), (10008007, .sl 22 (.sl y0_) y_42 (.deep true .no))])) he (leads_au [(10008000, 10007000), (10008001, 10007001), (10008002, 10007002), (10008003, 10007003), (10008004, 10007004), (10008005, 10007005), (10008006, 10007006)]) ?_
      rintro ⟨k_1, y_42⟩ _ he
      refine go_if he (fun he => ?_) fun he => ?_
      ·refine And.intro (by kernel_rfl) ?_
       refine go_rq he fun he => ?_
       obtain ⟨hq1, he⟩ := ok_rq he
       obtain ⟨hq2, he⟩ := ok_rq he
       refine And.intro ?_ (And.intro ?_ (trivial))
       ·skip
        refine And.intro ?_ trivial
        refine And.intro ?_ trivial
        refine And.intro hq1 ?_
        exact wkz_16
       ·skip
        refine And.intro ?_ (And.intro ?_ (trivial))
        ·skip
         refine And.intro ?_ trivial
         refine And.intro hq1 ?_
         exact wkz_16
        ·skip
         refine And.intro hq1 ?_
         refine And.intro ?_ (And.intro ?_ (trivial))
         ·skip
          exact wkz_16
         ·skip
          exact wkz_16
      ·exact ⟨_, (ok_up he :), (leads_au [(10009000, 10008000), (10009001, 10008001), (10009002, 10008002), (10009003, 10008003), (10009004, 10008004), (10009005, 10008005), (10009006, 10008006), (10009007, 10008007)])⟩
    ·skip
     refine And.intro (by kernel_rfl) ?_
     obtain ⟨hq1, he⟩ := ok_rq he
     obtain ⟨hq2, he⟩ := ok_rq he
     refine And.intro ?_ (And.intro ?_ (And.intro ?_ (trivial)))
     ·skip
      refine And.intro ?_ (And.intro ?_ (And.intro ?_ (trivial)))
      ·skip
       refine And.intro hq1 ?_
       refine And.intro ?_ (And.intro ?_ (trivial))
       ·skip
        exact wkz_19
       ·skip
        refine And.intro ?_ trivial
        exact wkz_18
      ·exact wkz_20
      ·exact wkz_21
     ·skip
      refine And.intro ?_ (And.intro ?_ (trivial))
      ·exact wkz_20
      ·skip
       refine And.intro ?_ trivial
       refine And.intro ?_ trivial
       refine And.intro hq1 ?_
       exact wkz_18
     ·skip
      refine And.intro ?_ (And.intro ?_ (trivial))
      ·exact wkz_21
      ·skip
       refine And.intro ?_ trivial
       refine And.intro ?_ trivial
       refine And.intro hq1 ?_
       exact wkz_18
   ·skip
    refine go_rq he fun he => ?_
    exact ⟨_, he, (leads_ren [(10006000, 10001000), (10006001, 10001001), (10006002, 10001002), (10006003, 10001003)] rfl rfl ⟨⟨rfl, rfl, trivial⟩, ⟨⟨⟨rfl, rfl⟩, trivial⟩, ⟨⟨rfl, rfl⟩, trivial⟩, trivial⟩, ⟨rfl, rfl⟩, ⟨rfl, rfl⟩, trivial⟩ ⟨.inl rfl, ⟨⟨rfl, rfl⟩, rfl⟩, ⟨⟨rfl, rfl⟩, rfl⟩, rfl, .inr ⟨5, rfl, ⟨rfl, by repeat (first | exact trivial | refine And.intro trivial ?_)⟩, rfl⟩, trivial⟩)⟩
  ·exact wkRet [(2, [900])] (ok_some he :) (leads_au [(900, 10001000), (901, 10001002), (902, 10001003)])
 ·skip
  exact ⟨_, he, (leads_ren [(10000000, 2)] rfl rfl ⟨⟨rfl, rfl, trivial⟩, trivial⟩ ⟨.inr ⟨1, rfl, ⟨rfl, by repeat (first | exact trivial | refine And.intro trivial ?_)⟩, rfl⟩, ⟨⟨rfl, rfl⟩, rfl⟩, trivial⟩)⟩

noncomputable def c_spec_l6Mutate : Con := fun
  | [.c (.ptr 0 0), .agg [.imm (.int .i64) a1_0, .imm (.pair (.int .i64) (.pair (.sl (.int .i64)) (.pair (.sl (.int .i64)) (.pair (.int .i64) (.sl (.sl (.int .i64))))))) a1_1]], [(0, .rc [.imm (.int .u8) o0_0, .int .i64 o0_1])] => .opt _ (spec_l6Mutate (a1_0, a1_1) (o0_0, o0_1)) (fun r => .ret (.agg [.own 901 false, .own 902 false]) [(0, .rc [.imm (.int .u8) r.1.1, .int .i64 r.1.2]), (900, .rc [.own 901 false, .own 902 false]), (901, .sl 3 y0_ r.2.1 .shallow), (902, .sl 72 y5_ r.2.2 (.deep true .no))])
  | _, _ => .fail

noncomputable def C_spec_l6Mutate_s1 : Sched := .first 5 (.alt 6 .done .stop)
noncomputable def C_spec_l6Mutate_s2 : Sched := .alt 4 C_spec_l6Mutate_s1 .stop
noncomputable def C_spec_l6Mutate_s3 : Sched := wkFs [5, 6] (.alt 7 .done .stop)
noncomputable def C_spec_l6Mutate_s4 : Sched := .alt 4 C_spec_l6Mutate_s3 .stop
noncomputable def C_spec_l6Mutate_s5 : Sched := wkFs [0, 2] (.alt 1 (.alt 3 C_spec_l6Mutate_s4 .stop) (.alt 3 (.alt 1 C_spec_l6Mutate_s4 (.alt 4 (.alt 1 C_spec_l6Mutate_s3 .stop) .stop)) .stop))
noncomputable def C_spec_l6Mutate_s6 : Sched := .first 10 (.alt 11 .done .stop)
noncomputable def C_spec_l6Mutate_s7 : Sched := .alt 9 C_spec_l6Mutate_s6 .stop
noncomputable def C_spec_l6Mutate_s8 : Sched := .alt 6 C_spec_l6Mutate_s6 .stop
noncomputable def C_spec_l6Mutate_s9 : Sched := .alt 6 C_spec_l6Mutate_s7 (.alt 9 C_spec_l6Mutate_s8 .stop)
noncomputable def C_spec_l6Mutate : Cfg := { y := tys, n := 89, h := 1, tab := [(68, c_spec_l6Copy), (87, c_spec_l17Rd_pick), (88, c_spec_l17Rd_num)], sched := [(6, (wkFs [0, 2] (.alt 1 (.alt 3 C_spec_l6Mutate_s2 .stop) (.alt 3 (.alt 1 C_spec_l6Mutate_s2 (.alt 4 (.alt 1 C_spec_l6Mutate_s1 .stop) .stop)) .stop)))), (12, C_spec_l6Mutate_s5), (15, (wkFs [0, 2, 3, 7] (.alt 1 (wkFs [4, 5] (.alt 6 (.alt 8 C_spec_l6Mutate_s7 .stop) (.alt 8 C_spec_l6Mutate_s9 .stop))) (.alt 8 (.alt 1 (wkFs [4, 5] C_spec_l6Mutate_s9) (.alt 9 (.alt 1 (wkFs [4, 5] C_spec_l6Mutate_s8) .stop) .stop)) .stop)))), (18, C_spec_l6Mutate_s5)] }

theorem wkz_22 {P : Prop} (h : P := by
  exact wkRet [(4, [900])] (ok_some he :) (leads_au [(900, 4), (901, 9901), (902, 9902)])) : P := h

theorem wkz_23 {P : Prop} (h : P := by
  refine And.intro hq2 ?_
  refine And.intro ?_ trivial
  exact wkz_22) : P := h

theorem wkz_24 {P : Prop} (h : P := by
  refine And.intro ?_ trivial
  exact wkz_23) : P := h

theorem wkz_25 {P : Prop} (h : P := by
  refine And.intro hq3 ?_
  refine And.intro ?_ trivial
  exact wkRet [(4, [900])] (ok_some he :) ((leads_close [9902] rfl).trans (leads_ren [(900, 4), (901, 9901), (902, 9902)] (l := [(4, .c (.ptr 900 0))]) (st' := [(0, .rc [.imm (.int .u8) r8_.2.1, .int .i64 r8_.2.2]), (900, .rc [.own 901 false, .own 902 false]), (901, .sl 3 y0_ r1_.1 .shallow), (902, .sl 72 y5_ ((r1_.2.set ((r1_.2.length:Int) - (1:Int)).toNat (r1_.2.getD ((r1_.2.length:Int) - (1:Int)).toNat (0, ([], ([], (0, [])))))).set ((r1_.2.length:Int) - (1:Int)).toNat (((r1_.2.set ((r1_.2.length:Int) - (1:Int)).toNat (r1_.2.getD ((r1_.2.length:Int) - (1:Int)).toNat (0, ([], ([], (0, [])))))).getD ((r1_.2.length:Int) - (1:Int)).toNat (0, ([], ([], (0, []))))).1, ((((r1_.2.set ((r1_.2.length:Int) - (1:Int)).toNat (r1_.2.getD ((r1_.2.length:Int) - (1:Int)).toNat (0, ([], ([], (0, [])))))).getD ((r1_.2.length:Int) - (1:Int)).toNat (0, ([], ([], (0, []))))).2.1.set (0:Int).toNat r8_.1), ((r1_.2.set ((r1_.2.length:Int) - (1:Int)).toNat (r1_.2.getD ((r1_.2.length:Int) - (1:Int)).toNat (0, ([], ([], (0, [])))))).getD ((r1_.2.length:Int) - (1:Int)).toNat (0, ([], ([], (0, []))))).2.2))) (.deep true .no))]) rfl rfl (by exact ⟨⟨.inl rfl, rfl, trivial⟩, ⟨⟨⟨rfl, rfl⟩, trivial⟩, ⟨⟨rfl, rfl⟩, trivial⟩, trivial⟩, ⟨rfl, rfl⟩, ⟨rfl, rfl⟩, trivial⟩) (by exact ⟨⟨⟨rfl, rfl⟩, rfl⟩, trivial⟩)))) : P := h

theorem wkz_26 {P : Prop} (h : P := by
  refine And.intro ?_ (And.intro ?_ (trivial))
  ·skip
   refine And.intro ?_ trivial
   refine ⟨r8_, hq2, ?_⟩
   exact wkz_25
  ·skip
   refine ⟨r8_, hq2, ?_⟩
   refine And.intro ?_ trivial
   exact wkz_25) : P := h

theorem k_spec_l6Mutate : Entry Tryz.prog 50 c_spec_l6Mutate := by
 refine wkEnt (C := C_spec_l6Mutate) Tryz.f50 (wkTab k_spec_l6Copy (wkTab k_spec_l17Rd_pick (wkTab k_spec_l17Rd_num wkNil))) fun _ a b k he => ?_
 unfold c_spec_l6Mutate at he; split at he; rotate_left; exact he.elim
 rename_i a1_0 a1_1 o0_0 o0_1
 refine wkGo0 he fun he => ?_
 refine go_bind he fun r1_ he => ?_
 refine go_bind he fun r2_ he => ?_
 refine go_if he (fun he => ?_) fun he => ?_
 ·refine go_if he (fun he => ?_) fun he => ?_
  ·refine And.intro (by kernel_rfl) ?_
   obtain ⟨r4_, hq1, he⟩ := ok_bind he
   obtain ⟨hq2, he⟩ := ok_rq he
   refine And.intro ?_ (And.intro ?_ (trivial))
   ·skip
    refine And.intro ?_ trivial
    refine And.intro ?_ trivial
    refine ⟨r4_, hq1, ?_⟩
    exact wkz_23
   ·skip
    refine And.intro ?_ (And.intro ?_ (trivial))
    ·skip
     refine And.intro ?_ trivial
     refine ⟨r4_, hq1, ?_⟩
     exact wkz_23
    ·skip
     refine ⟨r4_, hq1, ?_⟩
     exact wkz_24
  ·exact wkz_22
 ·refine go_if he (fun he => ?_) fun he => ?_
  ·refine wkLoop (spec_l6Mutate_l1 r1_ r2_) (fun i_0 => (envOf [(4, .c (.ptr 10000000 0)), (5, .c (.ptr 10000001 0))], [(0, .rc [.imm (.int .u8) r2_.2.1, .int .i64 r2_.2.2]), (10000000, .rc [.nil, .nil]), (10000001, .rc [.own 10000002 false, .own 10000003 false]), (10000002, .sl 3 y0_ i_0 .shallow), (10000003, .sl 72 y5_ r1_.2 (.deep true .no))])) he (leads_au [(10000000, 4), (10000001, 5), (10000002, 9901), (10000003, 9902)]) ?_
   rintro i_0 _ he
   refine go_if he (fun he => ?_) fun he => ?_
   ·refine go_rq he fun he => ?_
    exact ⟨_, (ok_some he :), (leads_au [(10000002, 35)])⟩
   ·exact wkRet [(4, [900])] (ok_some he :) (leads_au [(900, 10000000), (901, 10000002), (902, 10000003)])
  ·refine go_if he (fun he => ?_) fun he => ?_
   ·refine go_if he (fun he => ?_) fun he => ?_
    ·refine And.intro (by kernel_rfl) ?_
     obtain ⟨r6_, hq1, he⟩ := ok_bind he
     obtain ⟨hq2, he⟩ := ok_rq he
     refine And.intro ?_ (And.intro ?_ (trivial))
     ·skip
      refine And.intro ?_ trivial
      refine And.intro ?_ trivial
      refine ⟨r6_, hq1, ?_⟩
      exact wkz_23
     ·skip
      refine And.intro ?_ (And.intro ?_ (trivial))
      ·skip
       refine And.intro ?_ trivial
       refine ⟨r6_, hq1, ?_⟩
       exact wkz_23
      ·skip
       refine ⟨r6_, hq1, ?_⟩
       exact wkz_24
    ·exact wkz_22
   ·refine go_if he (fun he => ?_) fun he => ?_
    ·refine go_if he (fun he => ?_) fun he => ?_
     ·refine go_rq he fun he => ?_
      refine go_rq he fun he => ?_
      refine go_if he (fun he => ?_) fun he => ?_
      ·refine And.intro (by kernel_rfl) ?_
       refine go_rq he fun he => ?_
       obtain ⟨hq1, he⟩ := ok_rq he
       obtain ⟨r8_, hq2, he⟩ := ok_bind he
       obtain ⟨hq3, he⟩ := ok_rq he
       refine And.intro ?_ (And.intro ?_ (trivial))
       ·skip
        refine And.intro hq1 ?_
        refine And.intro ?_ (And.intro ?_ (trivial))
        ·skip
         refine And.intro ?_ trivial
         refine And.intro ?_ trivial
         refine ⟨r8_, hq2, ?_⟩
         exact wkz_25
        ·skip
         exact wkz_26
       ·skip
        refine And.intro ?_ (And.intro ?_ (trivial))
        ·skip
         refine And.intro hq1 ?_
         exact wkz_26
        ·skip
         refine ⟨r8_, hq2, ?_⟩
         refine And.intro ?_ trivial
         refine And.intro hq1 ?_
         refine And.intro ?_ trivial
         exact wkz_25
      ·exact wkRet [(4, [900])] (ok_some he :) ((leads_close [9902] rfl).trans (leads_ren [(900, 4), (901, 9901), (902, 9902)] (l := [(4, .c (.ptr 900 0))]) (st' := [(0, .rc [.imm (.int .u8) r2_.2.1, .int .i64 r2_.2.2]), (900, .rc [.own 901 false, .own 902 false]), (901, .sl 3 y0_ r1_.1 .shallow), (902, .sl 72 y5_ (r1_.2.set ((r1_.2.length:Int) - (1:Int)).toNat (r1_.2.getD ((r1_.2.length:Int) - (1:Int)).toNat (0, ([], ([], (0, [])))))) (.deep true .no))]) rfl rfl (by exact ⟨⟨.inl rfl, rfl, trivial⟩, ⟨⟨⟨rfl, rfl⟩, trivial⟩, ⟨⟨rfl, rfl⟩, trivial⟩, trivial⟩, ⟨rfl, rfl⟩, ⟨rfl, rfl⟩, trivial⟩) (by exact ⟨⟨⟨rfl, rfl⟩, rfl⟩, trivial⟩)))
     ·exact wkz_22
    ·refine go_if he (fun he => ?_) fun he => ?_
     ·refine go_if he (fun he => ?_) fun he => ?_
      ·refine And.intro (by kernel_rfl) ?_
       obtain ⟨r10_, hq1, he⟩ := ok_bind he
       obtain ⟨hq2, he⟩ := ok_rq he
       refine And.intro ?_ (And.intro ?_ (trivial))
       ·skip
        refine And.intro ?_ trivial
        refine And.intro ?_ trivial
        refine ⟨r10_, hq1, ?_⟩
        exact wkz_23
       ·skip
        refine And.intro ?_ (And.intro ?_ (trivial))
        ·skip
         refine And.intro ?_ trivial
         refine ⟨r10_, hq1, ?_⟩
         exact wkz_23
        ·skip
         refine ⟨r10_, hq1, ?_⟩
         exact wkz_24
      ·exact wkz_22
     ·refine go_if he (fun he => ?_) fun he => ?_
      ·exact wkRet [(4, [900])] (ok_some he :) (leads_au [(900, 4)])
      ·exact wkz_22

noncomputable def c_spec_DrawFindSwaps : Con := fun
  | [.c (.imm (.int .u8) code)], [] => .opt _ (spec_DrawFindSwaps code) (fun r => .ret (.agg [.own 901 false, .own 902 false]) [(900, .rc [.own 901 false, .own 902 false]), (901, .sl 3 y0_ r.1 .shallow), (902, .sl 72 y5_ r.2 (.deep true .no))])
  | _, _ => .fail

noncomputable def C_spec_DrawFindSwaps : Cfg := { y := tys, n := 10, h := 0, tab := [(49, c_spec_l17Open), (50, c_spec_l6Mutate), (51, c_spec_l10Model)] }

theorem k_spec_DrawFindSwaps : Entry Tryz.prog 19 c_spec_DrawFindSwaps := by
 refine wkEnt (C := C_spec_DrawFindSwaps) Tryz.f19 (wkTab k_spec_l17Open (wkTab k_spec_l6Mutate (wkTab k_spec_l10Model wkNil))) fun _ a b k he => ?_
 unfold c_spec_DrawFindSwaps at he; split at he; rotate_left; exact he.elim
 rename_i code
 refine wkGo0 he fun he => ?_
 refine go_bind he fun r1_ he => ?_
 refine go_bind he fun r2_ he => ?_
 refine go_bind he fun r3_ he => ?_
 exact wkRet [(2, [900])] (ok_some he :) (leads_au [(900, 2), (901, 10901), (902, 10902)])

noncomputable def c_spec_DrawBreakSwaps : Con := fun
  | [.c (.imm (.int .u8) code)], [] => .opt _ (spec_DrawBreakSwaps code) (fun r => .ret (.agg [.own 901 false, .own 902 false]) [(900, .rc [.own 901 false, .own 902 false]), (901, .sl 3 y0_ r.1 .shallow), (902, .sl 72 y5_ r.2 (.deep true .no))])
  | _, _ => .fail

noncomputable def C_spec_DrawBreakSwaps : Cfg := { y := tys, n := 5, h := 0, tab := [(19, c_spec_DrawFindSwaps)] }

theorem k_spec_DrawBreakSwaps : Entry Tryz.prog 32 c_spec_DrawBreakSwaps := by
 refine wkEnt (C := C_spec_DrawBreakSwaps) Tryz.f32 (wkTab k_spec_DrawFindSwaps wkNil) fun _ a b k he => ?_
 unfold c_spec_DrawBreakSwaps at he; split at he; rotate_left; exact he.elim
 rename_i code
 refine wkGo0 he fun he => ?_
 refine go_bind he fun r1_ he => ?_
 exact wkRet [(2, [900])] (ok_some he :) (leads_au [(900, 2), (901, 5901), (902, 5902)])

noncomputable def c_impl_within : Con := fun
  | [.c (.int .i64 n), .c (.int .i64 low), .c (.int .i64 high)], [] => .opt _ (impl_within n low high) (fun r => .ret (.c (.bool r)) [])
  | _, _ => .fail

noncomputable def C_impl_within : Cfg := { y := tys, n := 15, h := 0, tab := [] }

theorem wkz_27 {P : Prop} (h : P := by
  exact wkRet0 he) : P := h

theorem k_impl_within : Entry Tryz.prog 54 c_impl_within := by
 refine wkEnt (C := C_impl_within) Tryz.f54 wkNil fun _ a b k he => ?_
 unfold c_impl_within at he; split at he; rotate_left; exact he.elim
 rename_i n low high
 refine wkGo0 he fun he => ?_
 refine go_if he (fun he => ?_) fun he => ?_
 ·exact wkz_27
 ·exact wkz_27

noncomputable def c_slices_Index_int : Con := fun
  | [.c (.imm (.int .i64) s_), .c (.int .i64 v)], [] => .opt _ (slices_Index_int s_ v) (fun r => .ret (.c (.int .i64 r)) [])
  | _, _ => .fail

noncomputable def C_slices_Index_int : Cfg := { y := tys, n := 19, h := 0, tab := [] }

theorem wkz_28 {P : Prop} (h : P := by
  refine go_if he (fun he => ?_) fun he => ?_
  ·exact wkz_27
  ·exact wkz_5) : P := h

theorem k_slices_Index_int : Entry Tryz.prog 109 c_slices_Index_int := by
 refine wkEnt (C := C_slices_Index_int) Tryz.f109 wkNil fun _ a b k he => ?_
 unfold c_slices_Index_int at he; split at he; rotate_left; exact he.elim
 rename_i s_ v
 refine wkGo0 he fun he => ?_
 refine wkLoop (slices_Index_int_l1 s_ v) (fun i => (envOf [(0, .c (.imm y0_ s_)), (1, .c (.int .i64 v)), (7, .c (.int .i64 (s_.length:Int))), (8, .c (.int .i64 i))], [])) he (leads_au []) ?_
 rintro i _ he
 refine go_if he (fun he => ?_) fun he => ?_
 ·refine go_rq he fun he => ?_
  exact wkz_28
 ·exact wkz_27

noncomputable def c_slices_Contains_int : Con := fun
  | [.c (.imm (.int .i64) s_), .c (.int .i64 v)], [] => .opt _ (slices_Contains_int s_ v) (fun r => .ret (.c (.bool r)) [])
  | _, _ => .fail

noncomputable def C_slices_Contains_int : Cfg := { y := tys, n := 9, h := 0, tab := [(109, c_slices_Index_int)] }

theorem k_slices_Contains_int : Entry Tryz.prog 80 c_slices_Contains_int := by
 refine wkEnt (C := C_slices_Contains_int) Tryz.f80 (wkTab k_slices_Index_int wkNil) fun _ a b k he => ?_
 unfold c_slices_Contains_int at he; split at he; rotate_left; exact he.elim
 rename_i s_ v
 refine wkGo0 he fun he => ?_
 refine go_bind he fun r1_ he => ?_
 exact wkz_27

noncomputable def c_impl_ruleValid_1 : Con := fun
  | [.c (.int .i64 n)], [] => .opt _ (impl_ruleValid_1 n) (fun r => .ret (.c (.bool r)) [])
  | _, _ => .fail

noncomputable def C_impl_ruleValid_1 : Cfg := { y := tys, n := 10, h := 0, tab := [(54, c_impl_within)] }

theorem wkz_29 {P : Prop} (h : P := by
  refine go_bind he fun r1_ he => ?_
  exact wkz_27) : P := h

theorem k_impl_ruleValid_1 : Entry Tryz.prog 94 c_impl_ruleValid_1 := by
 refine wkEnt (C := C_impl_ruleValid_1) Tryz.f94 (wkTab k_impl_within wkNil) fun _ a b k he => ?_
 unfold c_impl_ruleValid_1 at he; split at he; rotate_left; exact he.elim
 rename_i n
 refine wkGo0 he fun he => ?_
 refine go_if2 he (fun he => ?_) fun he => ?_
 ·exact wkz_29
 ·exact wkz_27

noncomputable def c_slices_IndexFunc_int__impl_ruleValid_1 : Con := fun
  | [.c (.imm (.int .i64) s_), .c (.fn 94 [])], [] => .opt _ (slices_IndexFunc_int__impl_ruleValid_1 s_) (fun r => .ret (.c (.int .i64 r)) [])
  | _, _ => .fail

noncomputable def C_slices_IndexFunc_int__impl_ruleValid_1 : Cfg := { y := tys, n := 19, h := 0, tab := [(94, c_impl_ruleValid_1)] }

theorem wkz_30 {P : Prop} (h : P := by
  refine go_rq he fun he => ?_
  refine go_bind he fun r1_ he => ?_
  exact wkz_28) : P := h

theorem wkz_31 {P : Prop} (h : P := by
  rintro i _ he
  refine go_if he (fun he => ?_) fun he => ?_
  ·exact wkz_30
  ·exact wkz_27) : P := h

theorem k_slices_IndexFunc_int__impl_ruleValid_1 : Entry Tryz.prog 124 c_slices_IndexFunc_int__impl_ruleValid_1 := by
 refine wkEnt (C := C_slices_IndexFunc_int__impl_ruleValid_1) Tryz.f124 (wkTab k_impl_ruleValid_1 wkNil) fun _ a b k he => ?_
 unfold c_slices_IndexFunc_int__impl_ruleValid_1 at he; split at he; rotate_left; exact he.elim
 rename_i s_
 refine wkGo0 he fun he => ?_
 refine wkLoop (slices_IndexFunc_int__impl_ruleValid_1_l1 s_) (fun i => (envOf [(0, .c (.imm y0_ s_)), (1, .c (.fn 94 [])), (7, .c (.int .i64 (s_.length:Int))), (8, .c (.int .i64 i))], [])) he (leads_au []) ?_
 exact wkz_31

noncomputable def c_slices_ContainsFunc_int__impl_ruleValid_1 : Con := fun
  | [.c (.imm (.int .i64) s_), .c (.fn 94 [])], [] => .opt _ (slices_ContainsFunc_int__impl_ruleValid_1 s_) (fun r => .ret (.c (.bool r)) [])
  | _, _ => .fail

noncomputable def C_slices_ContainsFunc_int__impl_ruleValid_1 : Cfg := { y := tys, n := 9, h := 0, tab := [(124, c_slices_IndexFunc_int__impl_ruleValid_1)] }

theorem k_slices_ContainsFunc_int__impl_ruleValid_1 : Entry Tryz.prog 93 c_slices_ContainsFunc_int__impl_ruleValid_1 := by
 refine wkEnt (C := C_slices_ContainsFunc_int__impl_ruleValid_1) Tryz.f93 (wkTab k_slices_IndexFunc_int__impl_ruleValid_1 wkNil) fun _ a b k he => ?_
 unfold c_slices_ContainsFunc_int__impl_ruleValid_1 at he; split at he; rotate_left; exact he.elim
 rename_i s_
 refine wkGo0 he fun he => ?_
 refine go_bind he fun r1_ he => ?_
 exact wkz_27

noncomputable def c_impl_ruleValid_2_1 : Con := fun
  | [.c (.int .i64 n)], [] => .opt _ (impl_ruleValid_2_1 n) (fun r => .ret (.c (.bool r)) [])
  | _, _ => .fail

noncomputable def C_impl_ruleValid_2_1 : Cfg := { y := tys, n := 6, h := 0, tab := [(54, c_impl_within)] }

theorem k_impl_ruleValid_2_1 : Entry Tryz.prog 97 c_impl_ruleValid_2_1 := by
 refine wkEnt (C := C_impl_ruleValid_2_1) Tryz.f97 (wkTab k_impl_within wkNil) fun _ a b k he => ?_
 unfold c_impl_ruleValid_2_1 at he; split at he; rotate_left; exact he.elim
 rename_i n
 refine wkGo0 he fun he => ?_
 refine go_bind he fun r1_ he => ?_
 exact wkz_27

noncomputable def c_slices_IndexFunc_int__impl_ruleValid_2_1 : Con := fun
  | [.c (.imm (.int .i64) s_), .c (.fn 97 [])], [] => .opt _ (slices_IndexFunc_int__impl_ruleValid_2_1 s_) (fun r => .ret (.c (.int .i64 r)) [])
  | _, _ => .fail

noncomputable def C_slices_IndexFunc_int__impl_ruleValid_2_1 : Cfg := { y := tys, n := 19, h := 0, tab := [(97, c_impl_ruleValid_2_1)] }

theorem k_slices_IndexFunc_int__impl_ruleValid_2_1 : Entry Tryz.prog 124 c_slices_IndexFunc_int__impl_ruleValid_2_1 := by
 refine wkEnt (C := C_slices_IndexFunc_int__impl_ruleValid_2_1) Tryz.f124 (wkTab k_impl_ruleValid_2_1 wkNil) fun _ a b k he => ?_
 unfold c_slices_IndexFunc_int__impl_ruleValid_2_1 at he; split at he; rotate_left; exact he.elim
 rename_i s_
 refine wkGo0 he fun he => ?_
 refine wkLoop (slices_IndexFunc_int__impl_ruleValid_2_1_l1 s_) (fun i => (envOf [(0, .c (.imm y0_ s_)), (1, .c (.fn 97 [])), (7, .c (.int .i64 (s_.length:Int))), (8, .c (.int .i64 i))], [])) he (leads_au []) ?_
 exact wkz_31

noncomputable def c_slices_ContainsFunc_int__impl_ruleValid_2_1 : Con := fun
  | [.c (.imm (.int .i64) s_), .c (.fn 97 [])], [] => .opt _ (slices_ContainsFunc_int__impl_ruleValid_2_1 s_) (fun r => .ret (.c (.bool r)) [])
  | _, _ => .fail

noncomputable def C_slices_ContainsFunc_int__impl_ruleValid_2_1 : Cfg := { y := tys, n := 9, h := 0, tab := [(124, c_slices_IndexFunc_int__impl_ruleValid_2_1)] }

theorem k_slices_ContainsFunc_int__impl_ruleValid_2_1 : Entry Tryz.prog 93 c_slices_ContainsFunc_int__impl_ruleValid_2_1 := by
 refine wkEnt (C := C_slices_ContainsFunc_int__impl_ruleValid_2_1) Tryz.f93 (wkTab k_slices_IndexFunc_int__impl_ruleValid_2_1 wkNil) fun _ a b k he => ?_
 unfold c_slices_ContainsFunc_int__impl_ruleValid_2_1 at he; split at he; rotate_left; exact he.elim
 rename_i s_
 refine wkGo0 he fun he => ?_
 refine go_bind he fun r1_ he => ?_
 exact wkz_27

end Go.AE.Y
