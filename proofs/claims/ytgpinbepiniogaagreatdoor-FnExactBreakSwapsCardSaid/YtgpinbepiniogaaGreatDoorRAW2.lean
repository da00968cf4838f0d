/-
  Walks: each function keeps the contract that its model gives. No conditions.
-/
import Derived.Test.YtgpinbepiniogaaGreatDoorRATab
import Derived.Test.YtgpinbepiniogaaGreatDoorRAW1
import Derived.Test.YtgpinbepiniogaaGreatDoorRAS
namespace Go.AE.Y
open Go Go.AE Go.Proofs
set_option linter.unusedVariables false
set_option maxHeartbeats 2000000
set_option maxRecDepth 100000

noncomputable def c_spec_l10Swap : Con := fun
  | [.c (.int .i64 n), .c (.int .i64 a), .c (.int .i64 b)], [] => .opt _ (spec_l10Swap n a b) (fun r => .ret (.c (.own 900 false)) [(900, .sl 3 y0_ r .shallow)])
  | _, _ => .fail

noncomputable def C_spec_l10Swap : Cfg := { y := tys, n := 35, h := 0, tab := [] }

theorem wkz_26 {P : Prop} (h : P := by
  refine go_rq he fun he => ?_
  refine go_rq he fun he => ?_
  exact ⟨_, (ok_some he :), (leads_au [(10000000, 19)])⟩) : P := h

theorem k_spec_l10Swap : Entry Tryz.prog 53 c_spec_l10Swap := by
 refine wkEnt (C := C_spec_l10Swap) Tryz.f53 wkNil fun _ a b k he => ?_
 unfold c_spec_l10Swap at he; split at he; rotate_left; exact he.elim
 rename_i n a b
 refine wkGo0 he fun he => ?_
 refine wkLoop (spec_l10Swap_l1 n a b) (fun (i, out) => (envOf [(0, .c (.int .i64 n)), (1, .c (.int .i64 a)), (2, .c (.int .i64 b)), (7, .c (.own 10000000 false)), (8, .c (.int .i64 i))], [(10000000, .sl 3 y0_ out .shallow)])) he (leads_au [(10000000, 9)]) ?_
 rintro ⟨i, out⟩ _ he
 refine go_if he (fun he => ?_) fun he => ?_
 ·refine go_if he (fun he => ?_) fun he => ?_
  ·refine go_rq he fun he => ?_
   refine go_rq he fun he => ?_
   exact ⟨_, (ok_some he :), (leads_au [(10000000, 26)])⟩
  ·refine go_if he (fun he => ?_) fun he => ?_
   ·refine go_rq he fun he => ?_
    refine go_rq he fun he => ?_
    exact ⟨_, (ok_some he :), (leads_au [(10000000, 33)])⟩
   ·exact wkz_26
 ·exact wkRet [(6, [])] (ok_some he :) (leads_au [(900, 10000000)])

noncomputable def c_spec_PermValid : Con := fun
  | [.agg [.imm (.int .i64) m_0, .imm (.pair (.int .i64) (.pair (.sl (.int .i64)) (.pair (.sl (.int .i64)) (.pair (.int .i64) (.sl (.sl (.int .i64))))))) m_1], .c (.imm (.int .i64) perm)], [] => .opt _ (spec_PermValid (m_0, m_1) perm) (fun r => .ret (.c (.bool r)) [])
  | _, _ => .fail

noncomputable def C_spec_PermValid : Cfg := { y := tys, n := 43, h := 0, tab := [(52, c_spec_ModelValid), (104, c_spec_l6Vars)] }

theorem k_spec_PermValid : Entry Tryz.prog 75 c_spec_PermValid := by
 refine wkEnt (C := C_spec_PermValid) Tryz.f75 (wkTab k_spec_ModelValid (wkTab k_spec_l6Vars wkNil)) fun _ a b k he => ?_
 unfold c_spec_PermValid at he; split at he; rotate_left; exact he.elim
 rename_i m_0 m_1 perm
 refine wkGo0 he fun he => ?_
 refine go_bind he fun r1_ he => ?_
 refine go_if2 he (fun he => ?_) fun he => ?_
 ·refine go_if2 he (fun he => ?_) fun he => ?_
  ·refine go_bind he fun r2_ he => ?_
   refine go_if he (fun he => ?_) fun he => ?_
   ·exact wkz_7
   ·refine wkLoop (spec_PermValid_l1 (m_0, m_1) perm) (fun i => (envOf [(1, .c (.imm y0_ perm)), (2, .c (.ptr 10000000 0)), (5, .c (.int .i64 i))], [(10000000, .rc [.imm y0_ (m_0, m_1).1, .imm y4_ (m_0, m_1).2])])) he (leads_au [(10000000, 2)]) ?_
    rintro i _ he
    refine go_if he (fun he => ?_) fun he => ?_
    ·refine And.intro (by kernel_rfl) ?_
     refine go_rq he fun he => ?_
     exact wkz_15
    ·exact wkz_7
  ·exact wkz_7
 ·exact wkz_7

noncomputable def c_spec_l10Rename : Con := fun
  | [.agg [.int .i64 r__0, .imm (.int .i64) r__1, .imm (.int .i64) r__2, .int .i64 r__3, .imm (.sl (.int .i64)) r__4], .c (.imm (.int .i64) perm)], [] => .opt _ (spec_l10Rename (r__0, (r__1, (r__2, (r__3, r__4)))) perm) (fun r => .ret (.agg [.int .i64 r.1, .own 901 false, .own 902 false, .int .i64 r.2.1, .own 903 false]) [(900, .rc [.int .i64 r.1, .own 901 false, .own 902 false, .int .i64 r.2.1, .own 903 false]), (901, .sl 3 y0_ r.2.2.1 .shallow), (902, .sl 3 y0_ r.2.2.2.1 .shallow), (903, .sl 22 (.sl y0_) r.2.2.2.2 (.deep true .no))])
  | _, _ => .fail

noncomputable def C_spec_l10Rename_s1 : Sched := .alt 10 .done .stop
noncomputable def C_spec_l10Rename_s2 : Sched := .alt 8 C_spec_l10Rename_s1 .stop
noncomputable def C_spec_l10Rename_s3 : Sched := .alt 5 C_spec_l10Rename_s2 .stop
noncomputable def C_spec_l10Rename_s4 : Sched := .alt 11 (.first 12 (.alt 13 .done .stop)) .stop
noncomputable def C_spec_l10Rename_s5 : Sched := .alt 10 (.first 11 (.alt 12 .done .stop)) .stop
noncomputable def C_spec_l10Rename_s6 : Sched := .alt 9 C_spec_l10Rename_s5 .stop
noncomputable def C_spec_l10Rename_s7 : Sched := .alt 8 C_spec_l10Rename_s6 .stop
noncomputable def C_spec_l10Rename : Cfg := { y := tys, n := 57, h := 0, tab := [], cut := [1, 2, 6], deep := [53], sched := [(1, (wkFs [0, 1, 3, 4, 6, 7] (.alt 2 (.alt 5 (.alt 8 (.alt 9 C_spec_l10Rename_s1 .stop) (.alt 9 C_spec_l10Rename_s2 .stop)) (.alt 9 C_spec_l10Rename_s3 .stop)) (.alt 9 (.alt 2 C_spec_l10Rename_s3 .stop) .stop)))), (5, (wkFs [0, 2, 3, 4, 5, 6, 7, 8, 9] (.alt 1 (.alt 10 C_spec_l10Rename_s4 .stop) (.alt 10 (.alt 1 C_spec_l10Rename_s4 .stop) .stop)))), (9, (wkFs [0, 3, 4, 5, 6, 7] (.alt 1 (.alt 2 C_spec_l10Rename_s7 .stop) (.alt 2 (.alt 1 C_spec_l10Rename_s7 (.alt 8 (.alt 1 C_spec_l10Rename_s6 (.alt 9 (.alt 1 C_spec_l10Rename_s5 .stop) .stop)) .stop)) .stop))))] }

theorem wkz_27 {P : Prop} (h : P := by
  refine And.intro ?_ trivial
  refine And.intro ?_ trivial
  refine And.intro hq2 ?_
  refine And.intro ?_ trivial
  refine go_rq he fun he => ?_
  exact ⟨_, (ok_some he :), (leads_au [(10004004, 54)])⟩) : P := h

theorem wkz_28 {P : Prop} (h : P := by
  skip
  refine And.intro ?_ trivial
  refine And.intro ?_ trivial
  refine And.intro hq1 ?_
  refine And.intro ?_ trivial
  refine go_rq he fun he => ?_
  exact ⟨_, (ok_some he :), (leads_au [(10002002, 35)])⟩) : P := h

theorem wkz_29 {P : Prop} (h : P := by
  refine And.intro ?_ trivial
  refine And.intro ?_ trivial
  exact ⟨_, he, (leads_au [(10001000, 10000000), (10001001, 5), (10001002, 13)])⟩) : P := h

theorem k_spec_l10Rename : Entry Tryz.prog 76 c_spec_l10Rename := by
 refine wkEnt (C := C_spec_l10Rename) Tryz.f76 wkNil fun _ a b k he => ?_
 unfold c_spec_l10Rename at he; split at he; rotate_left; exact he.elim
 rename_i r__0 r__1 r__2 r__3 r__4 perm
 refine wkGo0 he fun he => ?_
 refine wkSeq (spec_l10Rename_j1 (r__0, (r__1, (r__2, (r__3, r__4)))) perm) (fun _ => (envOf [(1, .c (.imm y0_ perm)), (2, .c (.iptr y4_ (r__0, (r__1, (r__2, (r__3, r__4)))) 0)), (4, .c (.ptr 10000000 0))], [(10000000, .rc [.int .i64 (0:Int), .nil, .nil, .int .i64 (0:Int), .nil])])) he ?_ ?_
 ·rintro ⟨⟩ he
  refine wkSeq (spec_l10Rename_j2 (r__0, (r__1, (r__2, (r__3, r__4)))) perm) (fun _ => (envOf [(1, .c (.imm y0_ perm)), (2, .c (.iptr y4_ (r__0, (r__1, (r__2, (r__3, r__4)))) 0)), (4, .c (.ptr 10001000 0)), (5, .c (.ptr 10001001 0))], [(10001000, .rc [.int .i64 (0:Int), .nil, .nil, .int .i64 (0:Int), .nil]), (10001001, .rc [.int .i64 (r__0, (r__1, (r__2, (r__3, r__4)))).1, .nil, .own 10001002 false, .int .i64 (r__0, (r__1, (r__2, (r__3, r__4)))).2.2.2.1, .nil]), (10001002, .sl 3 y0_ (([] : List Int) ++ (r__0, (r__1, (r__2, (r__3, r__4)))).2.2.1) .shallow)])) he ?_ ?_
  ·rintro ⟨⟩ he
   refine wkSeq (spec_l10Rename_j3 (r__0, (r__1, (r__2, (r__3, r__4))))) (fun out_11 => (envOf [(2, .c (.iptr y4_ (r__0, (r__1, (r__2, (r__3, r__4)))) 0)), (4, .c (.ptr 10003000 0)), (5, .c (.ptr 10003001 0))], [(10003000, .rc [.int .i64 (0:Int), .nil, .nil, .int .i64 (0:Int), .nil]), (10003001, .rc [.int .i64 (r__0, (r__1, (r__2, (r__3, r__4)))).1, .own 10003002 false, .own 10003003 false, .int .i64 (r__0, (r__1, (r__2, (r__3, r__4)))).2.2.2.1, .nil]), (10003002, .sl 3 y0_ out_11 .shallow), (10003003, .sl 3 y0_ (([] : List Int) ++ (r__0, (r__1, (r__2, (r__3, r__4)))).2.2.1) .shallow)])) he ?_ ?_
   ·rintro out_11 he
    refine wkLoop (spec_l10Rename_l1 (r__0, (r__1, (r__2, (r__3, r__4)))) out_11) (fun (i1, out_4) => (envOf [(2, .c (.iptr y4_ (r__0, (r__1, (r__2, (r__3, r__4)))) 0)), (4, .c (.ptr 10004000 0)), (5, .c (.ptr 10004001 0)), (7, .c (.int .i64 i1))], [(10004000, .rc [.int .i64 (0:Int), .nil, .nil, .int .i64 (0:Int), .nil]), (10004001, .rc [.int .i64 (r__0, (r__1, (r__2, (r__3, r__4)))).1, .own 10004002 false, .own 10004003 false, .int .i64 (r__0, (r__1, (r__2, (r__3, r__4)))).2.2.2.1, .own 10004004 false]), (10004002, .sl 3 y0_ out_11 .shallow), (10004003, .sl 3 y0_ (([] : List Int) ++ (r__0, (r__1, (r__2, (r__3, r__4)))).2.2.1) .shallow), (10004004, .sl 22 (.sl y0_) out_4 (.deep true .no))])) he (leads_au [(10004000, 10003000), (10004001, 10003001), (10004002, 10003002), (10004003, 10003003)]) ?_
    rintro ⟨i1, out_4⟩ _ he
    refine go_if he (fun he => ?_) fun he => ?_
    ·refine And.intro (by kernel_rfl) ?_
     refine go_rq he fun he => ?_
     obtain ⟨hq1, he⟩ := ok_rq he
     obtain ⟨hq2, he⟩ := ok_rq he
     refine And.intro ?_ (And.intro ?_ (trivial))
     ·skip
      refine And.intro ?_ trivial
      refine And.intro ?_ trivial
      refine And.intro hq1 ?_
      exact wkz_27
     ·skip
      refine And.intro ?_ (And.intro ?_ (trivial))
      ·skip
       refine And.intro ?_ trivial
       refine And.intro hq1 ?_
       exact wkz_27
      ·skip
       refine And.intro hq1 ?_
       refine And.intro ?_ (And.intro ?_ (trivial))
       ·skip
        exact wkz_27
       ·skip
        exact wkz_27
    ·exact wkRet [(4, [900])] (ok_some he :) (leads_au [(900, 10004000), (901, 10004002), (902, 10004003), (903, 10004004)])
   ·skip
    refine wkLoop (spec_l10Rename_l2 (r__0, (r__1, (r__2, (r__3, r__4)))) perm) (fun (i, out_1) => (envOf [(1, .c (.imm y0_ perm)), (2, .c (.iptr y4_ (r__0, (r__1, (r__2, (r__3, r__4)))) 0)), (4, .c (.ptr 10002000 0)), (5, .c (.ptr 10002001 0)), (6, .c (.int .i64 i))], [(10002000, .rc [.int .i64 (0:Int), .nil, .nil, .int .i64 (0:Int), .nil]), (10002001, .rc [.int .i64 (r__0, (r__1, (r__2, (r__3, r__4)))).1, .own 10002002 false, .own 10002003 false, .int .i64 (r__0, (r__1, (r__2, (r__3, r__4)))).2.2.2.1, .nil]), (10002002, .sl 3 y0_ out_1 .shallow), (10002003, .sl 3 y0_ (([] : List Int) ++ (r__0, (r__1, (r__2, (r__3, r__4)))).2.2.1) .shallow)])) he (leads_au [(10002000, 10001000), (10002001, 10001001), (10002003, 10001002)]) ?_
    rintro ⟨i, out_1⟩ _ he
    refine go_if he (fun he => ?_) fun he => ?_
    ·refine And.intro (by kernel_rfl) ?_
     refine go_rq he fun he => ?_
     refine go_rq he fun he => ?_
     obtain ⟨hq1, he⟩ := ok_rq he
     refine And.intro ?_ (And.intro ?_ (trivial))
     ·exact wkz_28
     ·exact wkz_28
    ·exact ⟨_, (ok_up he :), (leads_au [(10003000, 10002000), (10003001, 10002001), (10003002, 10002002), (10003003, 10002003)])⟩
  ·skip
   refine And.intro (by kernel_rfl) ?_
   obtain ⟨hq1, he⟩ := ok_rq he
   refine And.intro ?_ (And.intro ?_ (trivial))
   ·skip
    refine And.intro ?_ (And.intro ?_ (trivial))
    ·skip
     refine And.intro hq1 ?_
     refine And.intro ?_ (And.intro ?_ (trivial))
     ·skip
      exact wkz_29
     ·skip
      exact wkz_29
    ·skip
     refine And.intro ?_ trivial
     refine And.intro hq1 ?_
     exact wkz_29
   ·skip
    refine And.intro ?_ trivial
    refine And.intro ?_ trivial
    refine And.intro hq1 ?_
    exact wkz_29
 ·skip
  exact ⟨_, he, (leads_ren [(10000000, 4)] rfl rfl ⟨⟨rfl, rfl, rfl, rfl, rfl, trivial⟩, trivial⟩ ⟨.inl rfl, .inr ⟨2, rfl, ⟨rfl, by repeat (first | exact trivial | refine And.intro trivial ?_)⟩, rfl⟩, ⟨⟨rfl, rfl⟩, rfl⟩, trivial⟩)⟩

noncomputable def c_spec_PermuteModel : Con := fun
  | [.agg [.imm (.int .i64) m_0, .imm (.pair (.int .i64) (.pair (.sl (.int .i64)) (.pair (.sl (.int .i64)) (.pair (.int .i64) (.sl (.sl (.int .i64))))))) m_1], .c (.imm (.int .i64) perm)], [] => .opt _ (spec_PermuteModel (m_0, m_1) perm) (fun r => .ret (.tup [.agg [.own 901 false, .own 902 false], .c (.bool r.1)]) [(900, .rc [.own 901 false, .own 902 false]), (901, .sl 3 y0_ r.2.1 .shallow), (902, .sl 72 y4_ r.2.2 (.deep true .no))])
  | _, _ => .fail

noncomputable def C_spec_PermuteModel_s1 : Sched := .alt 10 (.first 11 (.alt 12 .done .stop)) .stop
noncomputable def C_spec_PermuteModel_s2 : Sched := .alt 9 C_spec_PermuteModel_s1 .stop
noncomputable def C_spec_PermuteModel_s3 : Sched := .alt 8 C_spec_PermuteModel_s2 .stop
noncomputable def C_spec_PermuteModel : Cfg := { y := tys, n := 38, h := 0, tab := [(75, c_spec_PermValid), (76, c_spec_l10Rename)], deep := [34], sched := [(7, (wkFs [0, 2, 4, 7] (.alt 1 (.alt 3 (wkFs [5, 6] C_spec_PermuteModel_s3) .stop) (.alt 3 (wkFs [5, 6] (.alt 1 C_spec_PermuteModel_s3 (.alt 8 (.alt 1 C_spec_PermuteModel_s2 (.alt 9 (.alt 1 C_spec_PermuteModel_s1 .stop) .stop)) .stop))) .stop))))] }

theorem wkz_30 {P : Prop} (h : P := by
  refine And.intro ?_ trivial
  refine And.intro ?_ trivial
  refine And.intro hq3 ?_
  refine And.intro ?_ trivial
  refine go_rq he fun he => ?_
  exact ⟨_, (ok_some he :), (leads_au [(10000004, 35)])⟩) : P := h

theorem k_spec_PermuteModel : Entry Tryz.prog 40 c_spec_PermuteModel := by
 refine wkEnt (C := C_spec_PermuteModel) Tryz.f40 (wkTab k_spec_PermValid (wkTab k_spec_l10Rename wkNil)) fun _ a b k he => ?_
 unfold c_spec_PermuteModel at he; split at he; rotate_left; exact he.elim
 rename_i m_0 m_1 perm
 refine wkGo0 he fun he => ?_
 refine go_bind he fun r1_ he => ?_
 refine go_if he (fun he => ?_) fun he => ?_
 ·exact wkRet [(4, [900]), (5, [])] (ok_some he :) (leads_au [(900, 4)])
 ·refine go_rq he fun he => ?_
  refine wkLoop (spec_PermuteModel_l1 (m_0, m_1) perm) (fun (i, out_1) => (envOf [(1, .c (.imm y0_ perm)), (2, .c (.ptr 10000000 0)), (4, .c (.ptr 10000001 0)), (6, .c (.ptr 10000002 0)), (7, .c (.int .i64 i))], [(10000000, .rc [.imm y0_ (m_0, m_1).1, .imm y4_ (m_0, m_1).2]), (10000001, .rc [.nil, .nil]), (10000002, .rc [.own 10000003 false, .own 10000004 false]), (10000003, .sl 3 y0_ (([] : List Int) ++ (m_0, m_1).1) .shallow), (10000004, .sl 72 y4_ out_1 (.deep true .no))])) he (leads_au [(10000000, 2), (10000001, 4), (10000002, 6), (10000003, 16)]) ?_
  rintro ⟨i, out_1⟩ _ he
  refine go_if he (fun he => ?_) fun he => ?_
  ·refine And.intro (by kernel_rfl) ?_
   obtain ⟨hq1, he⟩ := ok_rq he
   obtain ⟨r4_, hq2, he⟩ := ok_bind he
   obtain ⟨hq3, he⟩ := ok_rq he
   refine And.intro ?_ (And.intro ?_ (trivial))
   ·skip
    refine And.intro ?_ trivial
    refine And.intro hq1 ?_
    refine And.intro ?_ trivial
    refine ⟨r4_, hq2, ?_⟩
    exact wkz_30
   ·skip
    refine And.intro hq1 ?_
    refine And.intro ?_ (And.intro ?_ (trivial))
    ·skip
     refine And.intro ?_ trivial
     refine ⟨r4_, hq2, ?_⟩
     exact wkz_30
    ·skip
     refine ⟨r4_, hq2, ?_⟩
     refine And.intro ?_ (And.intro ?_ (trivial))
     ·skip
      exact wkz_30
     ·skip
      exact wkz_30
  ·exact wkRet [(4, [900]), (5, [])] (ok_some he :) (leads_au [(900, 10000001), (901, 10000003), (902, 10000004)])

noncomputable def c_spec_l10Order : Con := fun
  | [.c (.imm (.int .i64) list_)], [] => .opt _ (spec_l10Order list_) (fun r => .ret (.c (.own 900 false)) [(900, .sl 3 y0_ r .shallow)])
  | _, _ => .fail

noncomputable def C_spec_l10Order : Cfg := { y := tys, n := 49, h := 0, tab := [], cut := [8] }

theorem k_spec_l10Order : Entry Tryz.prog 106 c_spec_l10Order := by
 refine wkEnt (C := C_spec_l10Order) Tryz.f106 wkNil fun _ a b k he => ?_
 unfold c_spec_l10Order at he; split at he; rotate_left; exact he.elim
 rename_i list_
 refine wkGo0 he fun he => ?_
 refine wkLoop (spec_l10Order_l1 list_) (fun (i, out) => (envOf [(0, .c (.imm y0_ list_)), (3, .c (.own 10000000 false)), (4, .c (.int .i64 i))], [(10000000, .sl 3 y0_ out .shallow)])) he (leads_au [(10000000, 7)]) ?_
 rintro ⟨i, out⟩ _ he
 refine go_if he (fun he => ?_) fun he => ?_
 ·refine wkSeq (spec_l10Order_j1 i out) (fun k_3 => (envOf [(0, .c (.imm y0_ list_)), (3, .c (.own 10004000 false)), (4, .c (.int .i64 i)), (5, .c (.int .i64 k_3))], [(10004000, .sl 3 y0_ out .shallow)])) he ?_ ?_
  ·rintro k_3 he
   refine go_rq he fun he => ?_
   refine go_rq he fun he => ?_
   refine go_rq he fun he => ?_
   refine go_rq he fun he => ?_
   refine go_rq he fun he => ?_
   refine go_rq he fun he => ?_
   exact ⟨_, (ok_some he :), (leads_au [(10000000, 47)])⟩
  ·skip
   refine wkLoop (spec_l10Order_l2 list_ i out) (fun k_2 => (envOf [(0, .c (.imm y0_ list_)), (3, .c (.own 10003000 false)), (4, .c (.int .i64 i)), (5, .c (.int .i64 k_2))], [(10003000, .sl 3 y0_ out .shallow)])) he (leads_au [(10003000, 10000000)]) ?_
   rintro k_2 _ he
   refine And.intro (by kernel_rfl) ?_
   refine go_if he (fun he => ?_) fun he => ?_
   ·refine go_rq he fun he => ?_
    refine go_rq he fun he => ?_
    refine go_rq he fun he => ?_
    refine go_rq he fun he => ?_
    refine go_if he (fun he => ?_) fun he => ?_
    ·exact wkz_3
    ·exact ⟨_, (ok_up he :), (leads_au [(10004000, 10003000)])⟩
   ·exact ⟨_, (ok_up he :), (leads_au [(10004000, 10003000)])⟩
 ·exact wkRet [(2, [])] (ok_some he :) (leads_au [(900, 10000000)])

noncomputable def c_spec_l6Ints : Con := fun
  | [.c (.imm (.int .i64) a), .c (.imm (.int .i64) b)], [] => .opt _ (spec_l6Ints a b) (fun r => .ret (.c (.bool r)) [])
  | _, _ => .fail

noncomputable def C_spec_l6Ints : Cfg := { y := tys, n := 26, h := 0, tab := [] }

theorem wkz_31 {P : Prop} (h : P := by
  rintro i _ he
  refine go_if he (fun he => ?_) fun he => ?_
  ·refine And.intro (by kernel_rfl) ?_
   refine go_rq he fun he => ?_
   refine go_rq he fun he => ?_
   exact wkz_4
  ·exact wkz_1) : P := h

theorem k_spec_l6Ints : Entry Tryz.prog 105 c_spec_l6Ints := by
 refine wkEnt (C := C_spec_l6Ints) Tryz.f105 wkNil fun _ a b k he => ?_
 unfold c_spec_l6Ints at he; split at he; rotate_left; exact he.elim
 rename_i a b
 refine wkGo0 he fun he => ?_
 refine go_if he (fun he => ?_) fun he => ?_
 ·exact wkz_1
 ·refine wkLoop (spec_l6Ints_l1 a b) (fun i => (envOf [(0, .c (.imm y0_ a)), (1, .c (.imm y0_ b)), (5, .c (.int .i64 i))], [])) he (leads_au []) ?_
  exact wkz_31

noncomputable def c_spec_l10Less : Con := fun
  | [.c (.imm (.int .i64) a), .c (.imm (.int .i64) b)], [] => .opt _ (spec_l10Less a b) (fun r => .ret (.c (.bool r)) [])
  | _, _ => .fail

noncomputable def C_spec_l10Less : Cfg := { y := tys, n := 36, h := 0, tab := [] }

theorem wkz_32 {P : Prop} (h : P := by
  refine go_rq he fun he => ?_
  refine go_rq he fun he => ?_
  exact wkz_1) : P := h

theorem k_spec_l10Less : Entry Tryz.prog 129 c_spec_l10Less := by
 refine wkEnt (C := C_spec_l10Less) Tryz.f129 wkNil fun _ a b k he => ?_
 unfold c_spec_l10Less at he; split at he; rotate_left; exact he.elim
 rename_i a b
 refine wkGo0 he fun he => ?_
 refine wkLoop (spec_l10Less_l1 a b) (fun i => (envOf [(0, .c (.imm y0_ a)), (1, .c (.imm y0_ b)), (5, .c (.int .i64 i))], [])) he (leads_au []) ?_
 rintro i _ he
 refine go_if he (fun he => ?_) fun he => ?_
 ·refine go_if he (fun he => ?_) fun he => ?_
  ·refine And.intro (by kernel_rfl) ?_
   refine go_rq he fun he => ?_
   refine go_rq he fun he => ?_
   refine go_if he (fun he => ?_) fun he => ?_
   ·refine And.intro (by kernel_rfl) ?_
    exact wkz_32
   ·exact wkz_3
  ·exact wkz_1
 ·exact wkz_1

noncomputable def c_spec_l10Insert : Con := fun
  | [.c (.imm (.sl (.int .i64)) rows), .c (.imm (.int .i64) row)], [] => .opt _ (spec_l10Insert rows row) (fun r => .ret (.c (.imm (.sl y0_) r)) [])
  | _, _ => .fail

noncomputable def C_spec_l10Insert : Cfg := { y := tys, n := 50, h := 0, tab := [(105, c_spec_l6Ints), (129, c_spec_l10Less)], cut := [11, 12] }

theorem k_spec_l10Insert : Entry Tryz.prog 107 c_spec_l10Insert := by
 refine wkEnt (C := C_spec_l10Insert) Tryz.f107 (wkTab k_spec_l6Ints (wkTab k_spec_l10Less wkNil)) fun _ a b k he => ?_
 unfold c_spec_l10Insert at he; split at he; rotate_left; exact he.elim
 rename_i rows row
 refine wkGo0 he fun he => ?_
 refine wkSeq (spec_l10Insert_j1 row) (fun (done3, out3) => (envOf [(1, .c (.imm y0_ row)), (5, .c (.own 10003000 false)), (6, .c (.bool done3))], [(10003000, .sl 22 (.sl y0_) out3 .shallow)])) he ?_ ?_
 ·rintro ⟨done3, out3⟩ he
  refine go_if he (fun he => ?_) fun he => ?_
  ·refine go_rq he fun he => ?_
   exact wkRet [(4, [])] (ok_some he :) ((leads_freeze [48]).trans (leads_au [] (l := [(4, .c (.imm (.sl y0_) (out3 ++ [row])))]) (st' := [])))
  ·exact wkRet [(4, [])] (ok_some he :) ((leads_freeze [10003000]).trans (leads_au [] (l := [(4, .c (.imm (.sl y0_) out3))]) (st' := [])))
 ·skip
  refine wkLoop (spec_l10Insert_l1 rows row) (fun (done, i, out1) => (envOf [(0, .c (.imm (.sl y0_) rows)), (1, .c (.imm y0_ row)), (5, .c (.own 10000000 false)), (6, .c (.bool done)), (7, .c (.int .i64 i))], [(10000000, .sl 22 (.sl y0_) out1 .shallow)])) he (leads_au [(10000000, 8)]) ?_
  rintro ⟨done, i, out1⟩ _ he
  refine go_if he (fun he => ?_) fun he => ?_
  ·refine go_rq he fun he => ?_
   refine go_bind he fun r3_ he => ?_
   refine go_if he (fun he => ?_) fun he => ?_
   ·exact wkz_7
   ·refine wkSeq (spec_l10Insert_j2 rows i) (fun (done2, out2) => (envOf [(0, .c (.imm (.sl y0_) rows)), (1, .c (.imm y0_ row)), (5, .c (.own 10002000 false)), (6, .c (.bool done2)), (7, .c (.int .i64 i))], [(10002000, .sl 22 (.sl y0_) out2 .shallow)])) he ?_ ?_
    ·rintro ⟨done2, out2⟩ he
     refine go_rq he fun he => ?_
     refine go_rq he fun he => ?_
     refine go_rq he fun he => ?_
     exact ⟨_, (ok_some he :), (leads_au [(10000000, 42)])⟩
    ·skip
     refine go_if he (fun he => ?_) fun he => ?_
     ·refine go_rq he fun he => ?_
      refine go_bind he fun r4_ he => ?_
      refine go_if he (fun he => ?_) fun he => ?_
      ·refine go_rq he fun he => ?_
       exact ⟨_, he, (leads_au [(10002000, 35)])⟩
      ·exact ⟨_, he, (leads_au [(10002000, 10000000)])⟩
     ·exact ⟨_, he, (leads_au [(10002000, 10000000)])⟩
  ·exact ⟨_, (ok_up he :), (leads_au [(10003000, 10000000)])⟩

noncomputable def c_spec_l10Canonical : Con := fun
  | [.agg [.int .i64 a0_0, .imm (.int .i64) a0_1, .imm (.int .i64) a0_2, .int .i64 a0_3, .imm (.sl (.int .i64)) a0_4]], [] => .opt _ (spec_l10Canonical (a0_0, (a0_1, (a0_2, (a0_3, a0_4))))) (fun r => .ret (.agg [.int .i64 r.1, .own 901 false, .own 902 false, .int .i64 r.2.1, .imm (.sl y0_) r.2.2.1]) [(900, .rc [.int .i64 r.1, .own 901 false, .own 902 false, .int .i64 r.2.1, .imm (.sl y0_) r.2.2.1]), (901, .sl 3 y0_ r.2.2.2.1 .shallow), (902, .sl 3 y0_ r.2.2.2.2 .shallow)])
  | _, _ => .fail

noncomputable def C_spec_l10Canonical_s1 : Sched := .alt 11 (.first 12 (.alt 13 .done .stop)) .stop
noncomputable def C_spec_l10Canonical_s2 : Sched := .alt 10 C_spec_l10Canonical_s1 .stop
noncomputable def C_spec_l10Canonical_s3 : Sched := wkFs [8, 9] C_spec_l10Canonical_s2
noncomputable def C_spec_l10Canonical_s4 : Sched := .alt 7 C_spec_l10Canonical_s3 .stop
noncomputable def C_spec_l10Canonical_s5 : Sched := .alt 3 C_spec_l10Canonical_s3 .stop
noncomputable def C_spec_l10Canonical_s6 : Sched := wkFs [8, 9] (.alt 1 C_spec_l10Canonical_s2 (.alt 10 (.alt 1 C_spec_l10Canonical_s1 .stop) .stop))
noncomputable def C_spec_l10Canonical_s7 : Sched := wkFs [0, 2, 4, 5, 6] (.alt 1 (.alt 3 C_spec_l10Canonical_s4 (.alt 7 C_spec_l10Canonical_s5 .stop)) (.alt 3 (.alt 1 C_spec_l10Canonical_s4 (.alt 7 C_spec_l10Canonical_s6 .stop)) (.alt 7 (.alt 1 C_spec_l10Canonical_s5 (.alt 3 C_spec_l10Canonical_s6 .stop)) .stop)))
noncomputable def C_spec_l10Canonical_s8 : Sched := wkFs [10, 11] (.alt 12 (.alt 13 (.first 14 .done) .stop) .stop)
noncomputable def C_spec_l10Canonical : Cfg := { y := tys, n := 90, h := 0, tab := [(106, c_spec_l10Order), (107, c_spec_l10Insert)], cut := [5, 9, 11, 19], good := [107], sched := [(8, C_spec_l10Canonical_s7), (10, C_spec_l10Canonical_s7), (18, (wkFs [0, 1, 3, 6, 7, 8] (.alt 2 (wkFs [4, 5] (.alt 9 C_spec_l10Canonical_s8 .stop)) (.alt 9 (.alt 2 (wkFs [4, 5] C_spec_l10Canonical_s8) .stop) .stop))))] }

theorem wkz_33 {P : Prop} (h : P := by
  refine And.intro hq2 ?_
  refine And.intro ?_ trivial
  refine And.intro ?_ trivial
  refine And.intro hq3 ?_
  refine go_rq he fun he => ?_
  exact ⟨_, (ok_some he :), (leads_au [(10008004, 83)])⟩) : P := h

theorem wkz_34 {P : Prop} (h : P := by
  refine And.intro ?_ trivial
  refine And.intro ?_ trivial
  refine And.intro hq2 ?_
  refine And.intro ?_ trivial
  refine go_rq he fun he => ?_
  exact ⟨_, (ok_some he :), (leads_au [(10001000, 10003000), (10001001, 10003001), (10001002, 10003002), (10001003, 10003003), (10001004, 10003004), (10001005, 54)])⟩) : P := h

theorem wkz_35 {P : Prop} (h : P := by
  skip
  refine And.intro ?_ trivial
  refine And.intro hq1 ?_
  exact wkz_34) : P := h

theorem wkz_36 {P : Prop} (h : P := by
  skip
  refine And.intro ?_ (And.intro ?_ (trivial))
  ·exact wkz_35
  ·skip
   refine And.intro hq1 ?_
   refine And.intro ?_ (And.intro ?_ (trivial))
   ·skip
    exact wkz_34
   ·skip
    exact wkz_34) : P := h

theorem wkz_37 {P : Prop} (h : P := by
  refine And.intro ?_ trivial
  refine And.intro ?_ trivial
  refine And.intro hq2 ?_
  refine And.intro ?_ trivial
  exact ⟨_, he, (leads_au [(10003000, 10001000), (10003001, 10001001), (10003002, 10001002), (10003003, 10001003), (10003004, 38), (10003005, 10001005)])⟩) : P := h

theorem wkz_38 {P : Prop} (h : P := by
  skip
  refine And.intro ?_ trivial
  refine And.intro hq1 ?_
  exact wkz_37) : P := h

theorem wkz_39 {P : Prop} (h : P := by
  skip
  refine And.intro ?_ (And.intro ?_ (trivial))
  ·exact wkz_38
  ·skip
   refine And.intro hq1 ?_
   refine And.intro ?_ (And.intro ?_ (trivial))
   ·skip
    exact wkz_37
   ·skip
    exact wkz_37) : P := h

theorem k_spec_l10Canonical : Entry Tryz.prog 78 c_spec_l10Canonical := by
 refine wkEnt (C := C_spec_l10Canonical) Tryz.f78 (wkTab k_spec_l10Order (wkTab k_spec_l10Insert wkNil)) fun _ a b k he => ?_
 unfold c_spec_l10Canonical at he; split at he; rotate_left; exact he.elim
 rename_i a0_0 a0_1 a0_2 a0_3 a0_4
 refine wkGo0 he fun he => ?_
 refine go_bind he fun r1_ he => ?_
 refine wkSeq (spec_l10Canonical_j1 (a0_0, (a0_1, (a0_2, (a0_3, a0_4))))) (fun i => (envOf [(1, .c (.ptr 10000000 0)), (2, .c (.ptr 10000001 0)), (3, .c (.ptr 10000002 0)), (4, .c (.own 10000003 false))], [(10000000, .rc [.int .i64 (a0_0, (a0_1, (a0_2, (a0_3, a0_4)))).1, .imm y0_ (a0_0, (a0_1, (a0_2, (a0_3, a0_4)))).2.1, .imm y0_ (a0_0, (a0_1, (a0_2, (a0_3, a0_4)))).2.2.1, .int .i64 (a0_0, (a0_1, (a0_2, (a0_3, a0_4)))).2.2.2.1, .imm (.sl y0_) (a0_0, (a0_1, (a0_2, (a0_3, a0_4)))).2.2.2.2]), (10000001, .rc [.int .i64 (0:Int), .nil, .nil, .int .i64 (0:Int), .nil]), (10000002, .rc [.int .i64 (a0_0, (a0_1, (a0_2, (a0_3, a0_4)))).1, .nil, .nil, .int .i64 (a0_0, (a0_1, (a0_2, (a0_3, a0_4)))).2.2.2.1, .nil]), (10000003, .sl 3 y0_ i .shallow)])) he ?_ ?_
 ·rintro i he
  refine wkSeq (spec_l10Canonical_j2 (a0_0, (a0_1, (a0_2, (a0_3, a0_4)))) i) (fun (i_11, i_21) => (envOf [(1, .c (.ptr 10004000 0)), (2, .c (.ptr 10004001 0)), (3, .c (.ptr 10004002 0)), (4, .c (.own 10004003 false))], [(10004000, .rc [.int .i64 (a0_0, (a0_1, (a0_2, (a0_3, a0_4)))).1, .imm y0_ (a0_0, (a0_1, (a0_2, (a0_3, a0_4)))).2.1, .imm y0_ (a0_0, (a0_1, (a0_2, (a0_3, a0_4)))).2.2.1, .int .i64 (a0_0, (a0_1, (a0_2, (a0_3, a0_4)))).2.2.2.1, .imm (.sl y0_) (a0_0, (a0_1, (a0_2, (a0_3, a0_4)))).2.2.2.2]), (10004001, .rc [.int .i64 (0:Int), .nil, .nil, .int .i64 (0:Int), .nil]), (10004002, .rc [.int .i64 (a0_0, (a0_1, (a0_2, (a0_3, a0_4)))).1, .own 10004004 false, .own 10004005 false, .int .i64 (a0_0, (a0_1, (a0_2, (a0_3, a0_4)))).2.2.2.1, .nil]), (10004003, .sl 3 y0_ i .shallow), (10004004, .sl 3 y0_ i_11 .shallow), (10004005, .sl 3 y0_ i_21 .shallow)])) he ?_ ?_
  ·rintro ⟨i_11, i_21⟩ he
   refine wkLoop (spec_l10Canonical_l1 (a0_0, (a0_1, (a0_2, (a0_3, a0_4)))) i i_11 i_21) (fun (i2, i_4) => (envOf [(1, .c (.ptr 10005000 0)), (2, .c (.ptr 10005001 0)), (3, .c (.ptr 10005002 0)), (4, .c (.own 10005003 false)), (6, .c (.int .i64 i2))], [(10005000, .rc [.int .i64 (a0_0, (a0_1, (a0_2, (a0_3, a0_4)))).1, .imm y0_ (a0_0, (a0_1, (a0_2, (a0_3, a0_4)))).2.1, .imm y0_ (a0_0, (a0_1, (a0_2, (a0_3, a0_4)))).2.2.1, .int .i64 (a0_0, (a0_1, (a0_2, (a0_3, a0_4)))).2.2.2.1, .imm (.sl y0_) (a0_0, (a0_1, (a0_2, (a0_3, a0_4)))).2.2.2.2]), (10005001, .rc [.int .i64 (0:Int), .nil, .nil, .int .i64 (0:Int), .nil]), (10005002, .rc [.int .i64 (a0_0, (a0_1, (a0_2, (a0_3, a0_4)))).1, .own 10005004 false, .own 10005005 false, .int .i64 (a0_0, (a0_1, (a0_2, (a0_3, a0_4)))).2.2.2.1, .imm (.sl y0_) i_4]), (10005003, .sl 3 y0_ i .shallow), (10005004, .sl 3 y0_ i_11 .shallow), (10005005, .sl 3 y0_ i_21 .shallow)])) he (leads_ren [(10005000, 10004000), (10005001, 10004001), (10005002, 10004002), (10005003, 10004003), (10005004, 10004004), (10005005, 10004005)] rfl rfl ⟨⟨rfl, .inl rfl, .inl rfl, rfl, .inl rfl, trivial⟩, ⟨rfl, rfl, rfl, rfl, rfl, trivial⟩, ⟨rfl, ⟨⟨rfl, rfl⟩, trivial⟩, ⟨⟨rfl, rfl⟩, trivial⟩, rfl, .inr (.inl ⟨rfl, rfl⟩), trivial⟩, ⟨rfl, rfl⟩, ⟨rfl, rfl⟩, ⟨rfl, rfl⟩, trivial⟩ ⟨⟨⟨rfl, rfl⟩, rfl⟩, ⟨⟨rfl, rfl⟩, rfl⟩, ⟨⟨rfl, rfl⟩, rfl⟩, ⟨⟨rfl, rfl⟩, trivial⟩, rfl, trivial⟩) ?_
   rintro ⟨i2, i_4⟩ _ he
   refine go_if he (fun he => ?_) fun he => ?_
   ·refine wkSeq (spec_l10Canonical_j3 i2 i_4) (fun i8 => (envOf [(1, .c (.ptr 10009000 0)), (2, .c (.ptr 10009001 0)), (3, .c (.ptr 10009002 0)), (4, .c (.own 10009003 false)), (6, .c (.int .i64 i2)), (7, .c (.own 10009004 false))], [(10009000, .rc [.int .i64 (a0_0, (a0_1, (a0_2, (a0_3, a0_4)))).1, .imm y0_ (a0_0, (a0_1, (a0_2, (a0_3, a0_4)))).2.1, .imm y0_ (a0_0, (a0_1, (a0_2, (a0_3, a0_4)))).2.2.1, .int .i64 (a0_0, (a0_1, (a0_2, (a0_3, a0_4)))).2.2.2.1, .imm (.sl y0_) (a0_0, (a0_1, (a0_2, (a0_3, a0_4)))).2.2.2.2]), (10009001, .rc [.int .i64 (0:Int), .nil, .nil, .int .i64 (0:Int), .nil]), (10009002, .rc [.int .i64 (a0_0, (a0_1, (a0_2, (a0_3, a0_4)))).1, .own 10009005 false, .own 10009006 false, .int .i64 (a0_0, (a0_1, (a0_2, (a0_3, a0_4)))).2.2.2.1, .imm (.sl y0_) i_4]), (10009003, .sl 3 y0_ i .shallow), (10009004, .sl 3 y0_ i8 .shallow), (10009005, .sl 3 y0_ i_11 .shallow), (10009006, .sl 3 y0_ i_21 .shallow)])) he ?_ ?_
    ·rintro i8 he
     refine go_bind he fun r3_ he => ?_
     refine go_rq he fun he => ?_
     exact ⟨_, (ok_some he :), (leads_au [(10005000, 10009000), (10005001, 10009001), (10005002, 10009002), (10005003, 10009003), (10005004, 10009005), (10005005, 10009006)])⟩
    ·skip
     refine wkLoop (spec_l10Canonical_l2 (a0_0, (a0_1, (a0_2, (a0_3, a0_4)))) i i2 i_4) (fun (i6, i7) => (envOf [(1, .c (.ptr 10008000 0)), (2, .c (.ptr 10008001 0)), (3, .c (.ptr 10008002 0)), (4, .c (.own 10008003 false)), (6, .c (.int .i64 i2)), (7, .c (.own 10008004 false)), (8, .c (.int .i64 i6))], [(10008000, .rc [.int .i64 (a0_0, (a0_1, (a0_2, (a0_3, a0_4)))).1, .imm y0_ (a0_0, (a0_1, (a0_2, (a0_3, a0_4)))).2.1, .imm y0_ (a0_0, (a0_1, (a0_2, (a0_3, a0_4)))).2.2.1, .int .i64 (a0_0, (a0_1, (a0_2, (a0_3, a0_4)))).2.2.2.1, .imm (.sl y0_) (a0_0, (a0_1, (a0_2, (a0_3, a0_4)))).2.2.2.2]), (10008001, .rc [.int .i64 (0:Int), .nil, .nil, .int .i64 (0:Int), .nil]), (10008002, .rc [.int .i64 (a0_0, (a0_1, (a0_2, (a0_3, a0_4)))).1, .own 10008005 false, .own 10008006 false, .int .i64 (a0_0, (a0_1, (a0_2, (a0_3, a0_4)))).2.2.2.1, .imm (.sl y0_) i_4]), (10008003, .sl 3 y0_ i .shallow), (10008004, .sl 3 y0_ i7 .shallow), (10008005, .sl 3 y0_ i_11 .shallow), (10008006, .sl 3 y0_ i_21 .shallow)])) he (leads_au [(10008000, 10005000), (10008001, 10005001), (10008002, 10005002), (10008003, 10005003), (10008004, 63), (10008005, 10005004), (10008006, 10005005)]) ?_
     rintro ⟨i6, i7⟩ _ he
     refine go_if he (fun he => ?_) fun he => ?_
     ·refine And.intro (by kernel_rfl) ?_
      refine go_rq he fun he => ?_
      obtain ⟨hq1, he⟩ := ok_rq he
      obtain ⟨hq2, he⟩ := ok_rq he
      obtain ⟨hq3, he⟩ := ok_rq he
      refine And.intro ?_ (And.intro ?_ (trivial))
      ·skip
       refine And.intro hq1 ?_
       refine And.intro ?_ trivial
       exact wkz_33
      ·skip
       refine And.intro ?_ trivial
       refine And.intro hq1 ?_
       exact wkz_33
     ·exact ⟨_, (ok_up he :), (leads_au [(10009000, 10008000), (10009001, 10008001), (10009002, 10008002), (10009003, 10008003), (10009004, 10008004), (10009005, 10008005), (10009006, 10008006)])⟩
   ·exact wkRet [(2, [900])] (ok_some he :) (leads_au [(900, 10005001), (901, 10005004), (902, 10005005)])
  ·skip
   refine wkLoop (spec_l10Canonical_l3 (a0_0, (a0_1, (a0_2, (a0_3, a0_4)))) i) (fun (i1, i_1, i_2) => (envOf [(1, .c (.ptr 10001000 0)), (2, .c (.ptr 10001001 0)), (3, .c (.ptr 10001002 0)), (4, .c (.own 10001003 false)), (5, .c (.int .i64 i1))], [(10001000, .rc [.int .i64 (a0_0, (a0_1, (a0_2, (a0_3, a0_4)))).1, .imm y0_ (a0_0, (a0_1, (a0_2, (a0_3, a0_4)))).2.1, .imm y0_ (a0_0, (a0_1, (a0_2, (a0_3, a0_4)))).2.2.1, .int .i64 (a0_0, (a0_1, (a0_2, (a0_3, a0_4)))).2.2.2.1, .imm (.sl y0_) (a0_0, (a0_1, (a0_2, (a0_3, a0_4)))).2.2.2.2]), (10001001, .rc [.int .i64 (0:Int), .nil, .nil, .int .i64 (0:Int), .nil]), (10001002, .rc [.int .i64 (a0_0, (a0_1, (a0_2, (a0_3, a0_4)))).1, .own 10001004 false, .own 10001005 false, .int .i64 (a0_0, (a0_1, (a0_2, (a0_3, a0_4)))).2.2.2.1, .nil]), (10001003, .sl 3 y0_ i .shallow), (10001004, .sl 3 y0_ i_1 .shallow), (10001005, .sl 3 y0_ i_2 .shallow)])) he (leads_au [(10001000, 10000000), (10001001, 10000001), (10001002, 10000002), (10001003, 10000003)]) ?_
   rintro ⟨i1, i_1, i_2⟩ _ he
   refine go_if he (fun he => ?_) fun he => ?_
   ·refine wkSeq (spec_l10Canonical_j4 (a0_0, (a0_1, (a0_2, (a0_3, a0_4)))) i i1 i_1 i_2) (fun _ => (envOf [(1, .c (.ptr 10003000 0)), (2, .c (.ptr 10003001 0)), (3, .c (.ptr 10003002 0)), (4, .c (.own 10003003 false)), (5, .c (.int .i64 i1))], [(10003000, .rc [.int .i64 (a0_0, (a0_1, (a0_2, (a0_3, a0_4)))).1, .imm y0_ (a0_0, (a0_1, (a0_2, (a0_3, a0_4)))).2.1, .imm y0_ (a0_0, (a0_1, (a0_2, (a0_3, a0_4)))).2.2.1, .int .i64 (a0_0, (a0_1, (a0_2, (a0_3, a0_4)))).2.2.2.1, .imm (.sl y0_) (a0_0, (a0_1, (a0_2, (a0_3, a0_4)))).2.2.2.2]), (10003001, .rc [.int .i64 (0:Int), .nil, .nil, .int .i64 (0:Int), .nil]), (10003002, .rc [.int .i64 (a0_0, (a0_1, (a0_2, (a0_3, a0_4)))).1, .own 10003004 false, .own 10003005 false, .int .i64 (a0_0, (a0_1, (a0_2, (a0_3, a0_4)))).2.2.2.1, .nil]), (10003003, .sl 3 y0_ i .shallow), (10003004, .sl 3 y0_ (i_1 ++ [((a0_0, (a0_1, (a0_2, (a0_3, a0_4)))).2.1.getD (i.getD i1.toNat 0).toNat 0)]) .shallow), (10003005, .sl 3 y0_ i_2 .shallow)])) he ?_ ?_
    ·rintro ⟨⟩ he
     refine go_if he (fun he => ?_) fun he => ?_
     ·refine And.intro (by kernel_rfl) ?_
      refine go_rq he fun he => ?_
      obtain ⟨hq1, he⟩ := ok_rq he
      obtain ⟨hq2, he⟩ := ok_rq he
      refine And.intro ?_ (And.intro ?_ (And.intro ?_ (trivial)))
      ·skip
       refine And.intro ?_ (And.intro ?_ (trivial))
       ·exact wkz_35
       ·exact wkz_35
      ·exact wkz_36
      ·exact wkz_36
     ·refine go_rq he fun he => ?_
      exact ⟨_, (ok_some he :), (leads_au [(10001000, 10003000), (10001001, 10003001), (10001002, 10003002), (10001003, 10003003), (10001004, 10003004), (10001005, 10003005)])⟩
    ·skip
     refine And.intro (by kernel_rfl) ?_
     refine go_rq he fun he => ?_
     obtain ⟨hq1, he⟩ := ok_rq he
     obtain ⟨hq2, he⟩ := ok_rq he
     refine And.intro ?_ (And.intro ?_ (And.intro ?_ (trivial)))
     ·skip
      refine And.intro ?_ (And.intro ?_ (trivial))
      ·exact wkz_38
      ·exact wkz_38
     ·exact wkz_39
     ·exact wkz_39
   ·exact ⟨_, (ok_up he :), (leads_au [(10004000, 10001000), (10004001, 10001001), (10004002, 10001002), (10004003, 10001003), (10004004, 10001004), (10004005, 10001005)])⟩
 ·skip
  refine go_if he (fun he => ?_) fun he => ?_
  ·exact ⟨_, he, (leads_au [(10000000, 1), (10000001, 2), (10000002, 3), (10000003, 20)])⟩
  ·exact ⟨_, he, (leads_au [(10000000, 1), (10000001, 2), (10000002, 3), (10000003, 17900)])⟩

noncomputable def c_spec_l6SameRule : Con := fun
  | [.agg [.int .i64 a_0, .imm (.int .i64) a_1, .imm (.int .i64) a_2, .int .i64 a_3, .imm (.sl (.int .i64)) a_4], .agg [.int .i64 b_0, .imm (.int .i64) b_1, .imm (.int .i64) b_2, .int .i64 b_3, .imm (.sl (.int .i64)) b_4]], [] => .opt _ (spec_l6SameRule (a_0, (a_1, (a_2, (a_3, a_4)))) (b_0, (b_1, (b_2, (b_3, b_4))))) (fun r => .ret (.c (.bool r)) [])
  | _, _ => .fail

noncomputable def C_spec_l6SameRule_s1 : Sched := .alt 10 (.first 11 .done) .stop
noncomputable def C_spec_l6SameRule : Cfg := { y := tys, n := 62, h := 0, tab := [(105, c_spec_l6Ints)], sched := [(6, (wkFs [0, 2, 5, 7] (.alt 1 (wkFs [3, 4] (.alt 6 (wkFs [8, 9] C_spec_l6SameRule_s1) .stop)) (.alt 6 (wkFs [8, 9] (.alt 1 (wkFs [3, 4] C_spec_l6SameRule_s1) .stop)) .stop))))] }

theorem k_spec_l6SameRule : Entry Tryz.prog 77 c_spec_l6SameRule := by
 refine wkEnt (C := C_spec_l6SameRule) Tryz.f77 (wkTab k_spec_l6Ints wkNil) fun _ a b k he => ?_
 unfold c_spec_l6SameRule at he; split at he; rotate_left; exact he.elim
 rename_i a_0 a_1 a_2 a_3 a_4 b_0 b_1 b_2 b_3 b_4
 refine wkGo0 he fun he => ?_
 refine go_if2 he (fun he => ?_) fun he => ?_
 ·refine go_if2 he (fun he => ?_) fun he => ?_
  ·refine go_bind he fun r1_ he => ?_
   refine go_if2 he (fun he => ?_) fun he => ?_
   ·refine go_bind he fun r2_ he => ?_
    refine go_if2 he (fun he => ?_) fun he => ?_
    ·refine go_if he (fun he => ?_) fun he => ?_
     ·exact wkz_7
     ·refine wkLoop (spec_l6SameRule_l1 (a_0, (a_1, (a_2, (a_3, a_4)))) (b_0, (b_1, (b_2, (b_3, b_4))))) (fun i => (envOf [(2, .c (.ptr 10000000 0)), (3, .c (.ptr 10000001 0)), (5, .c (.int .i64 i))], [(10000000, .rc [.int .i64 (a_0, (a_1, (a_2, (a_3, a_4)))).1, .imm y0_ (a_0, (a_1, (a_2, (a_3, a_4)))).2.1, .imm y0_ (a_0, (a_1, (a_2, (a_3, a_4)))).2.2.1, .int .i64 (a_0, (a_1, (a_2, (a_3, a_4)))).2.2.2.1, .imm (.sl y0_) (a_0, (a_1, (a_2, (a_3, a_4)))).2.2.2.2]), (10000001, .rc [.int .i64 (b_0, (b_1, (b_2, (b_3, b_4)))).1, .imm y0_ (b_0, (b_1, (b_2, (b_3, b_4)))).2.1, .imm y0_ (b_0, (b_1, (b_2, (b_3, b_4)))).2.2.1, .int .i64 (b_0, (b_1, (b_2, (b_3, b_4)))).2.2.2.1, .imm (.sl y0_) (b_0, (b_1, (b_2, (b_3, b_4)))).2.2.2.2])])) he (leads_au [(10000000, 2), (10000001, 3)]) ?_
      rintro i _ he
      refine go_if he (fun he => ?_) fun he => ?_
      ·refine And.intro (by kernel_rfl) ?_
       obtain ⟨hq1, he⟩ := ok_rq he
       obtain ⟨hq2, he⟩ := ok_rq he
       obtain ⟨r4_, hq3, he⟩ := ok_bind he
       refine And.intro ?_ (And.intro ?_ (trivial))
       ·skip
        refine And.intro hq1 ?_
        refine And.intro ?_ trivial
        refine And.intro hq2 ?_
        refine And.intro ?_ trivial
        refine ⟨r4_, hq3, ?_⟩
        exact wkz_14
       ·skip
        refine And.intro hq2 ?_
        refine And.intro ?_ trivial
        refine And.intro hq1 ?_
        refine And.intro ?_ trivial
        refine ⟨r4_, hq3, ?_⟩
        exact wkz_14
      ·exact wkz_7
    ·exact wkz_7
   ·exact wkz_7
  ·exact wkz_7
 ·exact wkz_7

noncomputable def c_spec_l10Within : Con := fun
  | [.agg [.imm (.int .i64) a_0, .imm (.pair (.int .i64) (.pair (.sl (.int .i64)) (.pair (.sl (.int .i64)) (.pair (.int .i64) (.sl (.sl (.int .i64))))))) a_1], .agg [.imm (.int .i64) b_0, .imm (.pair (.int .i64) (.pair (.sl (.int .i64)) (.pair (.sl (.int .i64)) (.pair (.int .i64) (.sl (.sl (.int .i64))))))) b_1]], [] => .opt _ (spec_l10Within (a_0, a_1) (b_0, b_1)) (fun r => .ret (.c (.bool r)) [])
  | _, _ => .fail

noncomputable def C_spec_l10Within_s1 : Sched := .alt 13 (.alt 14 (wkFs [15, 16] .done) .stop) .stop
noncomputable def C_spec_l10Within_s2 : Sched := .alt 7 C_spec_l10Within_s1 .stop
noncomputable def C_spec_l10Within : Cfg := { y := tys, n := 40, h := 0, tab := [(77, c_spec_l6SameRule), (78, c_spec_l10Canonical)], sched := [(8, (wkFs [0, 1, 2, 4, 8, 10] (.alt 3 (wkFs [5, 6] (.alt 7 (.alt 9 (wkFs [11, 12] C_spec_l10Within_s1) .stop) (.alt 9 (wkFs [11, 12] C_spec_l10Within_s2) .stop))) (.alt 9 (wkFs [11, 12] (.alt 3 (wkFs [5, 6] C_spec_l10Within_s2) .stop)) .stop))))] }

theorem wkz_40 {P : Prop} (h : P := by
  refine And.intro ?_ trivial
  refine ⟨r5_, hq4, ?_⟩
  refine And.intro ?_ trivial
  refine ⟨r6_, hq5, ?_⟩
  exact wkz_3) : P := h

theorem wkz_41 {P : Prop} (h : P := by
  refine And.intro ?_ trivial
  refine And.intro ?_ trivial
  refine And.intro ?_ trivial
  exact wkz_3) : P := h

theorem k_spec_l10Within : Entry Tryz.prog 41 c_spec_l10Within := by
 refine wkEnt (C := C_spec_l10Within) Tryz.f41 (wkTab k_spec_l6SameRule (wkTab k_spec_l10Canonical wkNil)) fun _ a b k he => ?_
 unfold c_spec_l10Within at he; split at he; rotate_left; exact he.elim
 rename_i a_0 a_1 b_0 b_1
 refine wkGo0 he fun he => ?_
 refine wkLoop (spec_l10Within_l1 (a_0, a_1) (b_0, b_1)) (fun i => (envOf [(2, .c (.ptr 10000000 0)), (3, .c (.ptr 10000001 0)), (5, .c (.int .i64 i))], [(10000000, .rc [.imm y0_ (a_0, a_1).1, .imm y4_ (a_0, a_1).2]), (10000001, .rc [.imm y0_ (b_0, b_1).1, .imm y4_ (b_0, b_1).2])])) he (leads_au [(10000000, 2), (10000001, 3)]) ?_
 rintro i _ he
 refine go_if he (fun he => ?_) fun he => ?_
 ·refine wkLoop (spec_l10Within_l2 (a_0, a_1) (b_0, b_1) i) (fun (some_, k_) => (envOf [(2, .c (.ptr 10001000 0)), (3, .c (.ptr 10001001 0)), (5, .c (.int .i64 i)), (6, .c (.bool some_)), (7, .c (.int .i64 k_))], [(10001000, .rc [.imm y0_ (a_0, a_1).1, .imm y4_ (a_0, a_1).2]), (10001001, .rc [.imm y0_ (b_0, b_1).1, .imm y4_ (b_0, b_1).2])])) he (leads_au [(10001000, 10000000), (10001001, 10000001)]) ?_
  rintro ⟨some_, k_⟩ _ he
  refine go_if he (fun he => ?_) fun he => ?_
  ·refine And.intro (by kernel_rfl) ?_
   refine go_if2 he (fun he => ?_) fun he => ?_
   ·obtain ⟨hq1, he⟩ := ok_rq he
    obtain ⟨r4_, hq2, he⟩ := ok_bind he
    obtain ⟨hq3, he⟩ := ok_rq he
    obtain ⟨r5_, hq4, he⟩ := ok_bind he
    obtain ⟨r6_, hq5, he⟩ := ok_bind he
    refine And.intro ?_ (And.intro ?_ (trivial))
    ·skip
     refine And.intro hq1 ?_
     refine And.intro ?_ (And.intro ?_ (trivial))
     ·skip
      refine ⟨r4_, hq2, ?_⟩
      refine And.intro ?_ trivial
      refine And.intro hq3 ?_
      exact wkz_40
     ·skip
      refine And.intro hq3 ?_
      refine And.intro ?_ trivial
      refine ⟨r4_, hq2, ?_⟩
      exact wkz_40
    ·skip
     refine And.intro hq3 ?_
     refine And.intro ?_ trivial
     refine And.intro hq1 ?_
     refine And.intro ?_ trivial
     refine ⟨r4_, hq2, ?_⟩
     exact wkz_40
   ·refine And.intro ?_ (And.intro ?_ (trivial))
    ·skip
     refine And.intro ?_ (And.intro ?_ (trivial))
     ·skip
      exact wkz_41
     ·skip
      exact wkz_41
    ·skip
     refine And.intro ?_ trivial
     exact wkz_41
  ·refine go_if he (fun he => ?_) fun he => ?_
   ·exact wkz_7
   ·refine go_rq he fun he => ?_
    exact ⟨_, (ok_some he :), (leads_au [(10000000, 10001000), (10000001, 10001001)])⟩
 ·exact wkz_7

noncomputable def c_spec_SymmetryValid : Con := fun
  | [.agg [.imm (.int .i64) m_0, .imm (.pair (.int .i64) (.pair (.sl (.int .i64)) (.pair (.sl (.int .i64)) (.pair (.int .i64) (.sl (.sl (.int .i64))))))) m_1], .c (.imm (.int .i64) perm)], [] => .opt _ (spec_SymmetryValid (m_0, m_1) perm) (fun r => .ret (.c (.bool r)) [])
  | _, _ => .fail

noncomputable def C_spec_SymmetryValid : Cfg := { y := tys, n := 24, h := 0, tab := [(40, c_spec_PermuteModel), (41, c_spec_l10Within)] }

theorem k_spec_SymmetryValid : Entry Tryz.prog 11 c_spec_SymmetryValid := by
 refine wkEnt (C := C_spec_SymmetryValid) Tryz.f11 (wkTab k_spec_PermuteModel (wkTab k_spec_l10Within wkNil)) fun _ a b k he => ?_
 unfold c_spec_SymmetryValid at he; split at he; rotate_left; exact he.elim
 rename_i m_0 m_1 perm
 refine wkGo0 he fun he => ?_
 refine go_bind he fun r1_ he => ?_
 refine go_if he (fun he => ?_) fun he => ?_
 ·refine go_bind he fun r2_ he => ?_
  refine go_if he (fun he => ?_) fun he => ?_
  ·refine go_bind he fun r3_ he => ?_
   exact wkz_7
  ·exact wkz_7
 ·exact wkz_7

noncomputable def c_spec_FindSwaps : Con := fun
  | [.agg [.imm (.int .i64) m_0, .imm (.pair (.int .i64) (.pair (.sl (.int .i64)) (.pair (.sl (.int .i64)) (.pair (.int .i64) (.sl (.sl (.int .i64))))))) m_1]], [] => .opt _ (spec_FindSwaps (m_0, m_1)) (fun r => .ret (.c (.own 900 false)) [(900, .sl 22 (.sl y0_) r (.deep true .no))])
  | _, _ => .fail

noncomputable def C_spec_FindSwaps_s1 : Sched := .alt 7 .done .stop
noncomputable def C_spec_FindSwaps_s2 : Sched := .alt 6 C_spec_FindSwaps_s1 .stop
noncomputable def C_spec_FindSwaps : Cfg := { y := tys, n := 42, h := 0, tab := [(11, c_spec_SymmetryValid), (52, c_spec_ModelValid), (53, c_spec_l10Swap)], deep := [6, 39], sched := [(8, (wkFs [1, 4, 5] (.alt 0 (.alt 2 (.first 3 C_spec_FindSwaps_s2) .stop) (.alt 2 (.first 3 (.alt 0 C_spec_FindSwaps_s2 (.alt 6 (.alt 0 C_spec_FindSwaps_s1 .stop) .stop))) .stop))))] }

theorem wkz_42 {P : Prop} (h : P := by
  refine And.intro ?_ trivial
  refine ⟨r12_, hq2, ?_⟩
  refine go_if he (fun he => ?_) fun he => ?_
  ·refine go_rq he fun he => ?_
   refine go_rq he fun he => ?_
   exact ⟨_, (ok_some he :), (leads_au [(10002001, 40)])⟩
  ·exact wkz_3) : P := h

theorem k_spec_FindSwaps : Entry Tryz.prog 21 c_spec_FindSwaps := by
 refine wkEnt (C := C_spec_FindSwaps) Tryz.f21 (wkTab k_spec_SymmetryValid (wkTab k_spec_ModelValid (wkTab k_spec_l10Swap wkNil))) fun _ a b k he => ?_
 unfold c_spec_FindSwaps at he; split at he; rotate_left; exact he.elim
 rename_i m_0 m_1
 refine wkGo0 he fun he => ?_
 refine wkLoop (spec_FindSwaps_l1 (m_0, m_1)) (fun (i, out1) => (envOf [(1, .c (.ptr 10000000 0)), (3, .c (.own 10000001 false)), (4, .c (.int .i64 i))], [(10000000, .rc [.imm y0_ (m_0, m_1).1, .imm y4_ (m_0, m_1).2]), (10000001, .sl 22 (.sl y0_) out1 (.deep true .no))])) he (leads_au [(10000000, 1), (10000001, 6)]) ?_
 rintro ⟨i, out1⟩ _ he
 refine go_if he (fun he => ?_) fun he => ?_
 ·refine go_bind he fun r8_ he => ?_
  refine go_if he (fun he => ?_) fun he => ?_
  ·refine go_rq he fun he => ?_
   refine wkLoop (spec_FindSwaps_l2 (m_0, m_1) i) (fun (k_1, out2) => (envOf [(1, .c (.ptr 10002000 0)), (3, .c (.own 10002001 false)), (4, .c (.int .i64 i)), (5, .c (.int .i64 k_1))], [(10002000, .rc [.imm y0_ (m_0, m_1).1, .imm y4_ (m_0, m_1).2]), (10002001, .sl 22 (.sl y0_) out2 (.deep true .no))])) he (leads_au [(10002000, 10000000), (10002001, 10000001)]) ?_
   rintro ⟨k_1, out2⟩ _ he
   refine go_if he (fun he => ?_) fun he => ?_
   ·refine And.intro (by kernel_rfl) ?_
    obtain ⟨r11_, hq1, he⟩ := ok_bind he
    obtain ⟨r12_, hq2, he⟩ := ok_bind he
    refine And.intro ?_ (And.intro ?_ (trivial))
    ·skip
     refine And.intro ?_ trivial
     refine And.intro ?_ trivial
     refine ⟨r11_, hq1, ?_⟩
     exact wkz_42
    ·skip
     refine And.intro ?_ (And.intro ?_ (trivial))
     ·skip
      refine And.intro ?_ trivial
      refine ⟨r11_, hq1, ?_⟩
      exact wkz_42
     ·skip
      refine ⟨r11_, hq1, ?_⟩
      refine And.intro ?_ trivial
      exact wkz_42
   ·refine go_rq he fun he => ?_
    exact ⟨_, (ok_some he :), (leads_au [(10000000, 10002000), (10000001, 10002001)])⟩
  ·exact wkRet [(2, [])] (ok_some he :) (leads_au [(900, 10000001)])
 ·exact wkRet [(2, [])] (ok_some he :) (leads_au [(900, 10000001)])

noncomputable def c_spec_BreakSwaps : Con := fun
  | [.agg [.imm (.int .i64) m_0, .imm (.pair (.int .i64) (.pair (.sl (.int .i64)) (.pair (.sl (.int .i64)) (.pair (.int .i64) (.sl (.sl (.int .i64))))))) m_1]], [] => .opt _ (spec_BreakSwaps (m_0, m_1)) (fun r => .ret (.tup [.agg [.own 901 false, .own 902 false], .c (.bool r.1)]) [(900, .rc [.own 901 false, .own 902 false]), (901, .sl 3 y0_ r.2.1 .shallow), (902, .sl 72 y4_ r.2.2 (.deep true .no))])
  | _, _ => .fail

noncomputable def C_spec_BreakSwaps_s1 : Sched := .alt 18 (.first 19 (.alt 20 .done .stop)) .stop
noncomputable def C_spec_BreakSwaps_s2 : Sched := .alt 17 C_spec_BreakSwaps_s1 .stop
noncomputable def C_spec_BreakSwaps_s3 : Sched := .alt 16 C_spec_BreakSwaps_s2 .stop
noncomputable def C_spec_BreakSwaps_s4 : Sched := .alt 15 C_spec_BreakSwaps_s3 .stop
noncomputable def C_spec_BreakSwaps_s5 : Sched := .alt 14 C_spec_BreakSwaps_s3 .stop
noncomputable def C_spec_BreakSwaps_s6 : Sched := .alt 1 C_spec_BreakSwaps_s3 (.alt 16 (.alt 1 C_spec_BreakSwaps_s2 (.alt 17 (.alt 1 C_spec_BreakSwaps_s1 .stop) .stop)) .stop)
noncomputable def C_spec_BreakSwaps : Cfg := { y := tys, n := 48, h := 0, tab := [(21, c_spec_FindSwaps), (52, c_spec_ModelValid), (67, c_spec_l17OwnModel), (68, c_spec_l6Copy)], cut := [10], deep := [40], sched := [(9, (wkFs [0, 2, 3, 4, 5, 6, 7, 8, 9, 10, 11, 12, 13] (.alt 1 (.alt 14 C_spec_BreakSwaps_s4 (.alt 15 C_spec_BreakSwaps_s5 .stop)) (.alt 14 (.alt 1 C_spec_BreakSwaps_s4 (.alt 15 C_spec_BreakSwaps_s6 .stop)) (.alt 15 (.alt 1 C_spec_BreakSwaps_s5 (.alt 14 C_spec_BreakSwaps_s6 .stop)) .stop)))))] }

theorem wkz_43 {P : Prop} (h : P := by
  exact wkRet [(2, [900]), (3, [])] (ok_some he :) (leads_au [(900, 2)])) : P := h

theorem wkz_44 {P : Prop} (h : P := by
  refine go_if he (fun he => ?_) fun he => ?_
  ·exact wkRet [(2, [900]), (3, [])] (ok_some he :) (leads_au [(900, 10001000)])
  ·exact wkRet [(2, [900]), (3, [])] (ok_some he :) (leads_au [(900, 10001000), (901, 10001002), (902, 10001003)])) : P := h

theorem wkz_45 {P : Prop} (h : P := by
  refine And.intro ?_ trivial
  refine And.intro ?_ trivial
  refine And.intro hq1 ?_
  refine And.intro ?_ trivial
  refine go_rq he fun he => ?_
  exact ⟨_, (ok_some he :), (leads_au [(10000003, 41)])⟩) : P := h

theorem wkz_46 {P : Prop} (h : P := by
  skip
  refine And.intro ?_ trivial
  refine And.intro ?_ trivial
  exact wkz_45) : P := h

theorem wkz_47 {P : Prop} (h : P := by
  skip
  refine And.intro ?_ (And.intro ?_ (trivial))
  ·exact wkz_46
  ·skip
   refine And.intro ?_ (And.intro ?_ (trivial))
   ·skip
    refine And.intro ?_ trivial
    exact wkz_45
   ·skip
    refine And.intro ?_ (And.intro ?_ (trivial))
    ·skip
     exact wkz_45
    ·skip
     exact wkz_45) : P := h

theorem k_spec_BreakSwaps : Entry Tryz.prog 34 c_spec_BreakSwaps := by
 refine wkEnt (C := C_spec_BreakSwaps) Tryz.f34 (wkTab k_spec_FindSwaps (wkTab k_spec_ModelValid (wkTab k_spec_l17OwnModel (wkTab k_spec_l6Copy wkNil)))) fun _ a b k he => ?_
 unfold c_spec_BreakSwaps at he; split at he; rotate_left; exact he.elim
 rename_i m_0 m_1
 refine wkGo0 he fun he => ?_
 refine go_bind he fun r1_ he => ?_
 refine go_bind he fun r2_ he => ?_
 refine go_if he (fun he => ?_) fun he => ?_
 ·exact wkz_43
 ·refine go_bind he fun r3_ he => ?_
  refine go_bind he fun r4_ he => ?_
  refine wkSeq (spec_BreakSwaps_j1 r3_) (fun out_11 => (envOf [(2, .c (.ptr 10001000 0)), (4, .c (.ptr 10001001 0))], [(10001000, .rc [.nil, .nil]), (10001001, .rc [.own 10001002 false, .own 10001003 false]), (10001002, .sl 3 y0_ r3_.1 .shallow), (10001003, .sl 72 y4_ out_11 (.deep true .no))])) he ?_ ?_
  ·rintro out_11 he
   refine go_bind he fun r5_ he => ?_
   exact wkz_44
  ·skip
   refine wkLoop (spec_BreakSwaps_l1 r3_ r4_) (fun (i, out_1) => (envOf [(2, .c (.ptr 10000000 0)), (4, .c (.ptr 10000001 0)), (5, .c (.imm (.sl y0_) r4_)), (6, .c (.int .i64 i))], [(10000000, .rc [.nil, .nil]), (10000001, .rc [.own 10000002 false, .own 10000003 false]), (10000002, .sl 3 y0_ r3_.1 .shallow), (10000003, .sl 72 y4_ out_1 (.deep true .no))])) he ((leads_freeze [17900]).trans (leads_au [(10000000, 2), (10000001, 4), (10000002, 15901), (10000003, 15902)] (l := [(2, .c (.ptr 10000000 0)), (4, .c (.ptr 10000001 0)), (5, .c (.imm (.sl y0_) r4_)), (6, .c (.int .i64 (0:Int)))]) (st' := [(10000000, .rc [.nil, .nil]), (10000001, .rc [.own 10000002 false, .own 10000003 false]), (10000002, .sl 3 y0_ r3_.1 .shallow), (10000003, .sl 72 y4_ r3_.2 (.deep true .no))]))) ?_
   rintro ⟨i, out_1⟩ _ he
   refine go_if he (fun he => ?_) fun he => ?_
   ·refine And.intro (by kernel_rfl) ?_
    refine go_rq he fun he => ?_
    refine go_rq he fun he => ?_
    refine go_rq he fun he => ?_
    refine go_rq he fun he => ?_
    obtain ⟨hq1, he⟩ := ok_rq he
    refine And.intro ?_ (And.intro ?_ (And.intro ?_ (trivial)))
    ·skip
     refine And.intro ?_ (And.intro ?_ (trivial))
     ·exact wkz_46
     ·exact wkz_46
    ·exact wkz_47
    ·exact wkz_47
   ·exact ⟨_, (ok_up he :), (leads_au [(10001000, 10000000), (10001001, 10000001), (10001002, 10000002), (10001003, 10000003)])⟩

noncomputable def c_impl_within : Con := fun
  | [.c (.int .i64 n), .c (.int .i64 low), .c (.int .i64 high)], [] => .opt _ (impl_within n low high) (fun r => .ret (.c (.bool r)) [])
  | _, _ => .fail

noncomputable def C_impl_within : Cfg := { y := tys, n := 15, h := 0, tab := [] }

theorem k_impl_within : Entry Tryz.prog 54 c_impl_within := by
 refine wkEnt (C := C_impl_within) Tryz.f54 wkNil fun _ a b k he => ?_
 unfold c_impl_within at he; split at he; rotate_left; exact he.elim
 rename_i n low high
 refine wkGo0 he fun he => ?_
 refine go_if he (fun he => ?_) fun he => ?_
 ·exact wkz_1
 ·exact wkz_1

noncomputable def c_slices_Index_int : Con := fun
  | [.c (.imm (.int .i64) s_), .c (.int .i64 v)], [] => .opt _ (slices_Index_int s_ v) (fun r => .ret (.c (.int .i64 r)) [])
  | _, _ => .fail

noncomputable def C_slices_Index_int : Cfg := { y := tys, n := 19, h := 0, tab := [] }

theorem k_slices_Index_int : Entry Tryz.prog 109 c_slices_Index_int := by
 refine wkEnt (C := C_slices_Index_int) Tryz.f109 wkNil fun _ a b k he => ?_
 unfold c_slices_Index_int at he; split at he; rotate_left; exact he.elim
 rename_i s_ v
 refine wkGo0 he fun he => ?_
 refine wkLoop (slices_Index_int_l1 s_ v) (fun i => (envOf [(0, .c (.imm y0_ s_)), (1, .c (.int .i64 v)), (7, .c (.int .i64 (s_.length:Int))), (8, .c (.int .i64 i))], [])) he (leads_au []) ?_
 rintro i _ he
 refine go_if he (fun he => ?_) fun he => ?_
 ·refine go_rq he fun he => ?_
  exact wkz_4
 ·exact wkz_1

noncomputable def c_slices_Contains_int : Con := fun
  | [.c (.imm (.int .i64) s_), .c (.int .i64 v)], [] => .opt _ (slices_Contains_int s_ v) (fun r => .ret (.c (.bool r)) [])
  | _, _ => .fail

noncomputable def C_slices_Contains_int : Cfg := { y := tys, n := 9, h := 0, tab := [(109, c_slices_Index_int)] }

theorem k_slices_Contains_int : Entry Tryz.prog 80 c_slices_Contains_int := by
 refine wkEnt (C := C_slices_Contains_int) Tryz.f80 (wkTab k_slices_Index_int wkNil) fun _ a b k he => ?_
 unfold c_slices_Contains_int at he; split at he; rotate_left; exact he.elim
 rename_i s_ v
 refine wkGo0 he fun he => ?_
 refine go_bind he fun r1_ he => ?_
 exact wkz_1

noncomputable def c_impl_ruleValid_1 : Con := fun
  | [.c (.int .i64 n)], [] => .opt _ (impl_ruleValid_1 n) (fun r => .ret (.c (.bool r)) [])
  | _, _ => .fail

noncomputable def C_impl_ruleValid_1 : Cfg := { y := tys, n := 10, h := 0, tab := [(54, c_impl_within)] }

theorem wkz_48 {P : Prop} (h : P := by
  refine go_bind he fun r1_ he => ?_
  exact wkz_1) : P := h

theorem k_impl_ruleValid_1 : Entry Tryz.prog 94 c_impl_ruleValid_1 := by
 refine wkEnt (C := C_impl_ruleValid_1) Tryz.f94 (wkTab k_impl_within wkNil) fun _ a b k he => ?_
 unfold c_impl_ruleValid_1 at he; split at he; rotate_left; exact he.elim
 rename_i n
 refine wkGo0 he fun he => ?_
 refine go_if2 he (fun he => ?_) fun he => ?_
 ·exact wkz_48
 ·exact wkz_1

noncomputable def c_slices_IndexFunc_int__impl_ruleValid_1 : Con := fun
  | [.c (.imm (.int .i64) s_), .c (.fn 94 [])], [] => .opt _ (slices_IndexFunc_int__impl_ruleValid_1 s_) (fun r => .ret (.c (.int .i64 r)) [])
  | _, _ => .fail

noncomputable def C_slices_IndexFunc_int__impl_ruleValid_1 : Cfg := { y := tys, n := 19, h := 0, tab := [(94, c_impl_ruleValid_1)] }

theorem k_slices_IndexFunc_int__impl_ruleValid_1 : Entry Tryz.prog 124 c_slices_IndexFunc_int__impl_ruleValid_1 := by
 refine wkEnt (C := C_slices_IndexFunc_int__impl_ruleValid_1) Tryz.f124 (wkTab k_impl_ruleValid_1 wkNil) fun _ a b k he => ?_
 unfold c_slices_IndexFunc_int__impl_ruleValid_1 at he; split at he; rotate_left; exact he.elim
 rename_i s_
 refine wkGo0 he fun he => ?_
 refine wkLoop (slices_IndexFunc_int__impl_ruleValid_1_l1 s_) (fun i => (envOf [(0, .c (.imm y0_ s_)), (1, .c (.fn 94 [])), (7, .c (.int .i64 (s_.length:Int))), (8, .c (.int .i64 i))], [])) he (leads_au []) ?_
 rintro i _ he
 exact wkz_6

noncomputable def c_slices_ContainsFunc_int__impl_ruleValid_1 : Con := fun
  | [.c (.imm (.int .i64) s_), .c (.fn 94 [])], [] => .opt _ (slices_ContainsFunc_int__impl_ruleValid_1 s_) (fun r => .ret (.c (.bool r)) [])
  | _, _ => .fail

noncomputable def C_slices_ContainsFunc_int__impl_ruleValid_1 : Cfg := { y := tys, n := 9, h := 0, tab := [(124, c_slices_IndexFunc_int__impl_ruleValid_1)] }

theorem k_slices_ContainsFunc_int__impl_ruleValid_1 : Entry Tryz.prog 93 c_slices_ContainsFunc_int__impl_ruleValid_1 := by
 refine wkEnt (C := C_slices_ContainsFunc_int__impl_ruleValid_1) Tryz.f93 (wkTab k_slices_IndexFunc_int__impl_ruleValid_1 wkNil) fun _ a b k he => ?_
 unfold c_slices_ContainsFunc_int__impl_ruleValid_1 at he; split at he; rotate_left; exact he.elim
 rename_i s_
 refine wkGo0 he fun he => ?_
 refine go_bind he fun r1_ he => ?_
 exact wkz_1

end Go.AE.Y
