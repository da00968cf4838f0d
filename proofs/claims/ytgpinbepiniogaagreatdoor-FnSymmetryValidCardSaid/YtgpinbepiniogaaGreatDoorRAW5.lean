/-
  Walks: each function keeps the contract that its model gives. No conditions.
-/
import Derived.Test.YtgpinbepiniogaaGreatDoorRATab
import Derived.Test.YtgpinbepiniogaaGreatDoorRAW4
import Derived.Test.YtgpinbepiniogaaGreatDoorRAS
namespace Go.AE.Y
open Go Go.AE Go.Proofs
set_option linter.unusedVariables false
set_option maxHeartbeats 2000000
set_option maxRecDepth 100000

noncomputable def c_impl_NextModel_1__rRNss : Con := fun
  | [.c (.own 2 false), .c (.ptr 0 0), .c (.ptr 1 0)], [(0, .rc [.imm (.int .i64) o0_0, .imm (.pair (.int .i64) (.pair (.sl (.int .i64)) (.pair (.sl (.int .i64)) (.pair (.int .i64) (.sl (.sl (.int .i64))))))) o0_1]), (1, .rc [.own 3 true]), (2, .sl 3 (.int .i64) cells .shallow), (3, .sl 3 (.int .i64) o3 .shallow)] => .opt _ (impl_NextModel_1__rRNss (o0_0, o0_1) cells o3) (fun r => .ret (.c (.bool r.1)) [(0, .rc [.imm y0_ o0_0, .imm y5_ o0_1]), (1, .rc [.own 900 true]), (2, .sl 3 y0_ cells .shallow), (3, .dead), (900, .sl 3 y0_ r.2 .shallow)])
  | _, _ => .fail

noncomputable def C_impl_NextModel_1__rRNss : Cfg := { y := tys, n := 12, h := 4, tab := [(64, c_impl_Model_solves), (65, c_slices_Clone_int)] }

theorem k_impl_NextModel_1__rRNss : Entry Tryz.prog 63 c_impl_NextModel_1__rRNss := by
 refine wkEnt (C := C_impl_NextModel_1__rRNss) Tryz.f63 (wkTab k_impl_Model_solves (wkTab k_slices_Clone_int wkNil)) fun _ a b k he => ?_
 unfold c_impl_NextModel_1__rRNss at he; split at he; rotate_left; exact he.elim
 rename_i o0_0 o0_1 cells o3
 refine wkGo0 he fun he => ?_
 refine go_bind he fun r1_ he => ?_
 refine go_if he (fun he => ?_) fun he => ?_
 ·refine go_bind he fun r2_ he => ?_
  obtain ⟨hnn, he⟩ := ok_rq he
  refine fun bn1_ hbn1_ => ?_
  have hbb : bn1_ = false := by
   cases bn1_
   ·rfl
   ·exact absurd (hbn1_ rfl) hnn
  subst hbb
  obtain ⟨hne0, he⟩ := ok_rq he
  exact wkRet [(4, [])] (ok_some he :) (leads_ren [(900, 10900)] rfl rfl ⟨⟨.inl rfl, .inl rfl, trivial⟩, ⟨⟨⟨rfl, rfl⟩, hne0⟩, trivial⟩, ⟨rfl, rfl⟩, trivial, ⟨rfl, rfl⟩, trivial⟩ ⟨.inl rfl, trivial⟩)
 ·exact wkRet [(4, [])] (ok_some he :) (leads_au [(900, 3)])

noncomputable def c_impl_each__impl_NextModel_1__rR0 : Con := fun
  | [.c (.imm (.int .i64) sizes), .c (.imm (.int .i64) from_), .c (.fn 63 [0, 1])], [(0, .rc [.imm (.int .i64) o0_0, .imm (.pair (.int .i64) (.pair (.sl (.int .i64)) (.pair (.sl (.int .i64)) (.pair (.int .i64) (.sl (.sl (.int .i64))))))) o0_1]), (1, .rc [.nil])] => .opt _ (impl_each__impl_NextModel_1__rR0 sizes from_ (o0_0, o0_1)) (fun r => .ret (.tup []) [(0, .rc [.imm y0_ o0_0, .imm y5_ o0_1]), (1, .rc [.own 900 true]), (900, .sl 3 y0_ r .shallow)])
  | _, _ => .fail

noncomputable def C_impl_each__impl_NextModel_1__rR0 : Cfg := { y := tys, n := 42, h := 2, tab := [(63, c_impl_NextModel_1__rRNss), (65, c_slices_Clone_int)], cut := [6], hand := [(63, [0])] }

theorem k_impl_each__impl_NextModel_1__rR0 : Entry Tryz.prog 62 c_impl_each__impl_NextModel_1__rR0 := by
 refine wkEnt (C := C_impl_each__impl_NextModel_1__rR0) Tryz.f62 (wkTab k_impl_NextModel_1__rRNss (wkTab k_slices_Clone_int wkNil)) fun _ a b k he => ?_
 unfold c_impl_each__impl_NextModel_1__rR0 at he; split at he; rotate_left; exact he.elim
 rename_i sizes from_ o0_0 o0_1
 refine wkGo0 he fun he => ?_
 refine go_bind he fun r1_ he => ?_
 refine wkLoop (impl_each__impl_NextModel_1__rR0_l1 sizes (o0_0, o0_1)) (fun (cells2, cap) => (envOf [(0, .c (.imm y0_ sizes)), (2, .c (.fn 63 [0, 1])), (6, .c (.own 10000000 false))], [(0, .rc [.imm y0_ (o0_0, o0_1).1, .imm y5_ (o0_0, o0_1).2]), (1, .rc [.own 10000001 true]), (10000000, .sl 3 y0_ cells2 .shallow), (10000001, .sl 3 y0_ cap .shallow)])) he (leads_au [(10000000, 10900)]) ?_
 rintro ⟨cells2, cap⟩ _ he
 refine go_bind he fun r3_ he => ?_
 refine go_if he (fun he => ?_) fun he => ?_
 ·refine go_rq he fun he => ?_
  refine wkSeq (impl_each__impl_NextModel_1__rR0_j1 r3_) (fun (i3, cells4) => (envOf [(0, .c (.imm y0_ sizes)), (2, .c (.fn 63 [0, 1])), (6, .c (.own 10004000 false)), (7, .c (.int .i64 i3))], [(0, .rc [.imm y0_ (o0_0, o0_1).1, .imm y5_ (o0_0, o0_1).2]), (1, .rc [.own 10004001 true]), (10004000, .sl 3 y0_ cells4 .shallow), (10004001, .sl 3 y0_ r3_.2 .shallow)])) he ?_ ?_
  ·rintro ⟨i3, cells4⟩ he
   refine go_if he (fun he => ?_) fun he => ?_
   ·exact wkRet [] (ok_some he :) (leads_au [(900, 10004001)] (l := []) (st' := [(0, .rc [.imm y0_ o0_0, .imm y5_ o0_1]), (1, .rc [.own 900 true]), (900, .sl 3 y0_ r3_.2 .shallow)]))
   ·refine go_rq he fun he => ?_
    refine go_rq he fun he => ?_
    refine go_rq he fun he => ?_
    exact ⟨_, (ok_some he :), (leads_au [(10000000, 10004000), (10000001, 10004001)])⟩
  ·skip
   refine wkLoop (impl_each__impl_NextModel_1__rR0_l2 sizes r3_) (fun (i2, cells3) => (envOf [(0, .c (.imm y0_ sizes)), (2, .c (.fn 63 [0, 1])), (6, .c (.own 10003000 false)), (7, .c (.int .i64 i2))], [(0, .rc [.imm y0_ (o0_0, o0_1).1, .imm y5_ (o0_0, o0_1).2]), (1, .rc [.own 10003001 true]), (10003000, .sl 3 y0_ cells3 .shallow), (10003001, .sl 3 y0_ r3_.2 .shallow)])) he (leads_au [(10003000, 10000000), (10003001, 13900)]) ?_
   rintro ⟨i2, cells3⟩ _ he
   refine And.intro (by kernel_rfl) ?_
   refine go_if he (fun he => ?_) fun he => ?_
   ·refine go_rq he fun he => ?_
    refine go_rq he fun he => ?_
    refine go_if he (fun he => ?_) fun he => ?_
    ·exact wkz_7
    ·exact ⟨_, (ok_up he :), (leads_au [(10004000, 10003000), (10004001, 10003001)])⟩
   ·exact ⟨_, (ok_up he :), (leads_au [(10004000, 10003000), (10004001, 10003001)])⟩
 ·exact wkRet [] (ok_some he :) (leads_au [(900, 13900)] (l := []) (st' := [(0, .rc [.imm y0_ o0_0, .imm y5_ o0_1]), (1, .rc [.own 900 true]), (900, .sl 3 y0_ r3_.2 .shallow)]))

noncomputable def c_impl_NextModel : Con := fun
  | [.agg [.imm (.int .i64) m_0, .imm (.pair (.int .i64) (.pair (.sl (.int .i64)) (.pair (.sl (.int .i64)) (.pair (.int .i64) (.sl (.sl (.int .i64))))))) m_1], .c (.imm (.int .i64) cells)], [] => .opt _ (impl_NextModel (m_0, m_1) cells) (fun r => .ret (.tup [.c (.own 900 false), .c (.bool r.1)]) [(900, .sl 3 y0_ r.2 .shallow)])
  | _, _ => .fail

noncomputable def C_impl_NextModel : Cfg := { y := tys, n := 19, h := 0, tab := [(61, c_impl_CellsValid), (62, c_impl_each__impl_NextModel_1__rR0)] }

theorem k_impl_NextModel : Entry Tryz.prog 28 c_impl_NextModel := by
 refine wkEnt (C := C_impl_NextModel) Tryz.f28 (wkTab k_impl_CellsValid (wkTab k_impl_each__impl_NextModel_1__rR0 wkNil)) fun _ a b k he => ?_
 unfold c_impl_NextModel at he; split at he; rotate_left; exact he.elim
 rename_i m_0 m_1 cells
 refine wkGo0 he fun he => ?_
 refine go_bind he fun r1_ he => ?_
 refine go_if he (fun he => ?_) fun he => ?_
 ·exact wkRet [(4, []), (5, [])] (ok_some he :) (leads_au [])
 ·refine go_bind he fun r2_ he => ?_
  refine And.intro (by kernel_rfl) ?_
  exact wkRet [(4, []), (5, [])] (ok_some he :) (leads_au [(900, 16900)])

noncomputable def c_impl_PermuteCells : Con := fun
  | [.agg [.imm (.int .i64) m_0, .imm (.pair (.int .i64) (.pair (.sl (.int .i64)) (.pair (.sl (.int .i64)) (.pair (.int .i64) (.sl (.sl (.int .i64))))))) m_1], .c (.imm (.int .i64) perm), .c (.imm (.int .i64) cells)], [] => .opt _ (impl_PermuteCells (m_0, m_1) perm cells) (fun r => .ret (.tup [.c (.own 900 false), .c (.bool r.1)]) [(900, .sl 3 y0_ r.2 .shallow)])
  | _, _ => .fail

noncomputable def C_impl_PermuteCells : Cfg := { y := tys, n := 40, h := 0, tab := [(43, c_impl_PermValid), (61, c_impl_CellsValid)] }

theorem k_impl_PermuteCells : Entry Tryz.prog 30 c_impl_PermuteCells := by
 refine wkEnt (C := C_impl_PermuteCells) Tryz.f30 (wkTab k_impl_PermValid (wkTab k_impl_CellsValid wkNil)) fun _ a b k he => ?_
 unfold c_impl_PermuteCells at he; split at he; rotate_left; exact he.elim
 rename_i m_0 m_1 perm cells
 refine wkGo0 he fun he => ?_
 refine go_bind he fun r1_ he => ?_
 refine go_if2 he (fun he => ?_) fun he => ?_
 ·refine go_bind he fun r2_ he => ?_
  refine go_if he (fun he => ?_) fun he => ?_
  ·exact wkRet [(6, []), (7, [])] (ok_some he :) (leads_au [])
  ·refine go_rq he fun he => ?_
   refine wkLoop (impl_PermuteCells_l1 perm cells) (fun (i, out) => (envOf [(1, .c (.imm y0_ perm)), (8, .c (.own 10000000 false)), (24, .c (.imm y0_ cells)), (25, .c (.int .i64 (cells.length:Int))), (26, .c (.int .i64 i))], [(10000000, .sl 3 y0_ out .shallow)])) he (leads_au [(10000000, 23)]) ?_
   rintro ⟨i, out⟩ _ he
   refine go_if he (fun he => ?_) fun he => ?_
   ·exact wkz_9
   ·exact wkRet [(6, []), (7, [])] (ok_some he :) (leads_au [(900, 10000000)])
 ·exact wkRet [(6, []), (7, [])] (ok_some he :) (leads_au [])

noncomputable def c_impl_SolvesModel : Con := fun
  | [.agg [.imm (.int .i64) m_0, .imm (.pair (.int .i64) (.pair (.sl (.int .i64)) (.pair (.sl (.int .i64)) (.pair (.int .i64) (.sl (.sl (.int .i64))))))) m_1], .c (.imm (.int .i64) cells)], [] => .opt _ (impl_SolvesModel (m_0, m_1) cells) (fun r => .ret (.c (.bool r)) [])
  | _, _ => .fail

noncomputable def C_impl_SolvesModel : Cfg := { y := tys, n := 13, h := 0, tab := [(61, c_impl_CellsValid), (64, c_impl_Model_solves)] }

theorem k_impl_SolvesModel : Entry Tryz.prog 31 c_impl_SolvesModel := by
 refine wkEnt (C := C_impl_SolvesModel) Tryz.f31 (wkTab k_impl_CellsValid (wkTab k_impl_Model_solves wkNil)) fun _ a b k he => ?_
 unfold c_impl_SolvesModel at he; split at he; rotate_left; exact he.elim
 rename_i m_0 m_1 cells
 refine wkGo0 he fun he => ?_
 refine go_bind he fun r1_ he => ?_
 refine go_if he (fun he => ?_) fun he => ?_
 ·exact wkz_76
 ·exact wkz_1

noncomputable def c_laws_cpAfter : Con := fun
  | [.agg [.imm (.int .i64) m_0, .imm (.pair (.int .i64) (.pair (.sl (.int .i64)) (.pair (.sl (.int .i64)) (.pair (.int .i64) (.sl (.sl (.int .i64))))))) m_1], .c (.imm (.int .i64) cells)], [] => .opt _ (laws_cpAfter (m_0, m_1) cells) (fun r => .ret (.tup [.c (.own 900 false), .c (.bool r.1)]) [(900, .sl 3 y0_ r.2 .shallow)])
  | _, _ => .fail

noncomputable def C_laws_cpAfter : Cfg := { y := tys, n := 45, h := 0, tab := [(28, c_impl_NextModel)] }

theorem k_laws_cpAfter : Entry Tryz.prog 29 c_laws_cpAfter := by
 refine wkEnt (C := C_laws_cpAfter) Tryz.f29 (wkTab k_impl_NextModel wkNil) fun _ a b k he => ?_
 unfold c_laws_cpAfter at he; split at he; rotate_left; exact he.elim
 rename_i m_0 m_1 cells
 refine wkGo0 he fun he => ?_
 refine go_rq he fun he => ?_
 refine go_rq he fun he => ?_
 refine wkLoop (laws_cpAfter_l1 (m_0, m_1)) (fun (i, next) => (envOf [(2, .c (.ptr 10000000 0)), (6, .c (.own 10000001 false)), (7, .c (.int .i64 i))], [(10000000, .rc [.imm y0_ (m_0, m_1).1, .imm y5_ (m_0, m_1).2]), (10000001, .sl 3 y0_ next .shallow)])) he (leads_au [(10000000, 2), (10000001, 10)]) ?_
 rintro ⟨i, next⟩ _ he
 refine go_if he (fun he => ?_) fun he => ?_
 ·refine And.intro (by kernel_rfl) ?_
  refine go_rq he fun he => ?_
  refine go_rq he fun he => ?_
  refine go_if he (fun he => ?_) fun he => ?_
  ·refine go_rq he fun he => ?_
   refine go_rq he fun he => ?_
   refine go_rq he fun he => ?_
   refine go_bind he fun r2_ he => ?_
   exact wkRet [(4, []), (5, [])] (ok_some he :) (leads_au [(900, 39900)])
  ·exact wkz_7
 ·exact wkRet [(4, []), (5, [])] (ok_some he :) (leads_au [(900, 44)])

noncomputable def c_laws_FnSymmetryValid : Con := fun
  | [.c (.imm (.int .u8) a0)], [] => .opt _ (laws_FnSymmetryValid a0) (fun r => .ret (.c (.bool r)) [])
  | _, _ => .fail

noncomputable def C_laws_FnSymmetryValid_s1 : Sched := .alt 8 (wkFs [9, 10] .done) .stop
noncomputable def C_laws_FnSymmetryValid_s2 : Sched := .alt 5 C_laws_FnSymmetryValid_s1 .stop
noncomputable def C_laws_FnSymmetryValid : Cfg := { y := tys, n := 75, h := 0, tab := [(11, c_spec_SymmetryValid), (14, c_impl_SymmetryValid), (17, c_spec_DrawSymmetryValid), (28, c_impl_NextModel), (29, c_laws_cpAfter), (30, c_impl_PermuteCells), (31, c_impl_SolvesModel)], cut := [11], sched := [(13, (wkFs [0, 1, 2, 4, 7] (.alt 3 (.alt 5 (.alt 6 C_laws_FnSymmetryValid_s1 .stop) (.alt 6 C_laws_FnSymmetryValid_s2 .stop)) (.alt 6 (.alt 3 C_laws_FnSymmetryValid_s2 .stop) .stop))))] }

theorem wkz_92 {P : Prop} (h : P := by
  refine And.intro ?_ trivial
  refine ⟨r15_, hq2, ?_⟩
  refine go_if he (fun he => ?_) fun he => ?_
  ·exact wkz_38
  ·exact ⟨_, he, (leads_au [(10002000, 10000000), (10002001, 10000001), (10002002, 10000002), (10002003, 10000003), (10002004, 10000004), (10002005, 10000005)])⟩) : P := h

theorem wkz_93 {P : Prop} (h : P := by
  refine And.intro ?_ trivial
  refine And.intro ?_ trivial
  exact wkz_38) : P := h

theorem k_laws_FnSymmetryValid : Entry Tryz.prog 7 c_laws_FnSymmetryValid := by
 refine wkEnt (C := C_laws_FnSymmetryValid) Tryz.f7 (wkTab k_spec_SymmetryValid (wkTab k_impl_SymmetryValid (wkTab k_spec_DrawSymmetryValid (wkTab k_impl_NextModel (wkTab k_laws_cpAfter (wkTab k_impl_PermuteCells (wkTab k_impl_SolvesModel wkNil))))))) fun _ a b k he => ?_
 unfold c_laws_FnSymmetryValid at he; split at he; rotate_left; exact he.elim
 rename_i a0
 refine wkGo0 he fun he => ?_
 refine go_if he (fun he => ?_) fun he => ?_
 ·exact wkz_27
 ·refine go_bind he fun r1_ he => ?_
  refine go_bind he fun r2_ he => ?_
  refine go_bind he fun r3_ he => ?_
  refine go_if2 he (fun he => ?_) fun he => ?_
  ·refine go_if he (fun he => ?_) fun he => ?_
   ·refine go_bind he fun r4_ he => ?_
    exact wkz_38
   ·refine go_rq he fun he => ?_
    refine go_bind he fun r6_ he => ?_
    refine wkLoop (laws_FnSymmetryValid_l1 r1_) (fun (i, i1) => (envOf [(3, .c (.ptr 10000000 0)), (4, .c (.own 10000001 false)), (6, .c (.ptr 10000002 0)), (8, .c (.own 10000003 false)), (9, .c (.bool i))], [(10000000, .rc [.own 10000004 false, .own 10000005 false]), (10000001, .sl 3 y0_ r1_.1 .shallow), (10000002, .rc [.own 10000004 false, .nil]), (10000003, .sl 3 y0_ i1 .shallow), (10000004, .sl 3 y0_ r1_.2.1 .shallow), (10000005, .sl 72 y5_ r1_.2.2 (.deep true .no))])) he (leads_au [(10000000, 3), (10000001, 18901), (10000002, 6), (10000003, 48900), (10000004, 18902), (10000005, 18903)]) ?_
    rintro ⟨i, i1⟩ _ he
    refine go_if he (fun he => ?_) fun he => ?_
    ·refine wkSeq (laws_FnSymmetryValid_j1 r1_ i1) (fun _ => (envOf [(3, .c (.ptr 10002000 0)), (4, .c (.own 10002001 false)), (6, .c (.ptr 10002002 0)), (8, .c (.own 10002003 false))], [(10002000, .rc [.own 10002004 false, .own 10002005 false]), (10002001, .sl 3 y0_ r1_.1 .shallow), (10002002, .rc [.own 10002004 false, .nil]), (10002003, .sl 3 y0_ i1 .shallow), (10002004, .sl 3 y0_ r1_.2.1 .shallow), (10002005, .sl 72 y5_ r1_.2.2 (.deep true .no))])) he ?_ ?_
     ·rintro ⟨⟩ he
      refine go_bind he fun r16_ he => ?_
      exact ⟨_, (ok_some he :), (leads_au [(10000000, 10002000), (10000001, 10002001), (10000002, 10002002), (10000003, 55900), (10000004, 10002004), (10000005, 10002005)])⟩
     ·skip
      refine go_bind he fun r13_ he => ?_
      refine And.intro (by kernel_rfl) ?_
      refine go_if2 he (fun he => ?_) fun he => ?_
      ·obtain ⟨r14_, hq1, he⟩ := ok_bind he
       obtain ⟨r15_, hq2, he⟩ := ok_bind he
       refine And.intro ?_ (And.intro ?_ (trivial))
       ·skip
        refine And.intro ?_ (And.intro ?_ (trivial))
        ·skip
         refine ⟨r14_, hq1, ?_⟩
         refine And.intro ?_ trivial
         exact wkz_92
        ·skip
         refine And.intro ?_ trivial
         refine ⟨r14_, hq1, ?_⟩
         exact wkz_92
       ·skip
        refine And.intro ?_ trivial
        refine And.intro ?_ trivial
        refine ⟨r14_, hq1, ?_⟩
        exact wkz_92
      ·refine And.intro ?_ (And.intro ?_ (trivial))
       ·skip
        refine And.intro ?_ (And.intro ?_ (trivial))
        ·skip
         exact wkz_93
        ·skip
         exact wkz_93
       ·skip
        refine And.intro ?_ trivial
        exact wkz_93
    ·exact wkz_38
  ·refine go_bind he fun r5_ he => ?_
   exact wkz_38

end Go.AE.Y
