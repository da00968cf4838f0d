/-
  Walks: each function keeps the contract that its model gives. No conditions.
-/
import Derived.Test.YtgpinbepiniogaaGreatDoorRATab
import Derived.Test.YtgpinbepiniogaaGreatDoorRAW4
import Derived.Test.YtgpinbepiniogaaGreatDoorRAS
namespace Go.AE.Y
open Go Go.AE Go.Proofs
set_option linter.unusedVariables false
set_option maxHeartbeats 2000000
set_option maxRecDepth 100000

noncomputable def c_laws_markModel : Con := fun
  | [.agg [.own 0 false, .own 1 false], .c (.int .i64 k_)], [(0, .sl 3 (.int .i64) o0 .shallow), (1, .sl 72 (.pair (.int .i64) (.pair (.sl (.int .i64)) (.pair (.sl (.int .i64)) (.pair (.int .i64) (.sl (.sl (.int .i64))))))) o1 (.deep true .no))] => .opt _ (laws_markModel k_ o0 o1) (fun r => .ret (.c (.int .i64 r.1)) [(0, .sl 3 y0_ r.2.1 .shallow), (1, .sl 72 y4_ r.2.2 (.deep true .no))])
  | _, _ => .fail

noncomputable def C_laws_markModel : Cfg := { y := tys, n := 14, h := 2, tab := [(58, c_laws_markIntS), (59, c_laws_markRuleS)], hand := [(58, [0]), (59, [0])] }

theorem k_laws_markModel : Entry Tryz.prog 25 c_laws_markModel := by
 refine wkEnt (C := C_laws_markModel) Tryz.f25 (wkTab k_laws_markIntS (wkTab k_laws_markRuleS wkNil)) fun _ a b k he => ?_
 unfold c_laws_markModel at he; split at he; rotate_left; exact he.elim
 rename_i k_ o0 o1
 refine wkGo0 he fun he => ?_
 refine go_bind he fun r1_ he => ?_
 refine go_bind he fun r2_ he => ?_
 exact wkz_7

noncomputable def c_laws_markIntSS_2 : Con := fun
  | [.c (.own 0 false), .c (.int .i64 k_)], [(0, .sl 22 (.sl (.int .i64)) a (.deep true .no))] => .opt _ (laws_markIntSS_2 k_ a) (fun r => .ret (.c (.int .i64 r.1)) [(0, .sl 22 (.sl y0_) r.2 (.deep true .no))])
  | _, _ => .fail

noncomputable def C_laws_markIntSS_2 : Cfg := { y := tys, n := 19, h := 1, tab := [(58, c_laws_markIntS__d)], hand := [(58, [0])] }

theorem k_laws_markIntSS_2 : Entry Tryz.prog 26 c_laws_markIntSS_2 := by
 refine wkEnt (C := C_laws_markIntSS_2) Tryz.f26 (wkTab k_laws_markIntS__d wkNil) fun _ a b k he => ?_
 unfold c_laws_markIntSS_2 at he; split at he; rotate_left; exact he.elim
 rename_i k_ a
 refine wkGo0 he fun he => ?_
 refine wkLoop (laws_markIntSS_2_l1) (fun (k_1, i, a1) => (envOf [(0, .c (.own 0 false)), (1, .c (.int .i64 k_1)), (5, .c (.int .i64 i))], [(0, .sl 22 (.sl y0_) a1 (.deep true .no))])) he (leads_au []) ?_
 rintro ⟨k_1, i, a1⟩ _ he
 refine go_if he (fun he => ?_) fun he => ?_
 ·refine go_rq he fun he => ?_
  refine go_bind he fun r2_ he => ?_
  refine go_rq he fun he => ?_
  exact ⟨_, (ok_some he :), ((leads_close [0] rfl).trans (leads_ren [] (l := [(0, .c (.own 0 false)), (1, .c (.int .i64 r2_.1)), (5, .c (.int .i64 (i + (1:Int))))]) (st' := [(0, .sl 22 (.sl y0_) (a1.set i.toNat r2_.2) (.deep true .no))]) rfl rfl (by exact ⟨⟨rfl, rfl⟩, trivial⟩) (by exact ⟨⟨⟨rfl, rfl⟩, trivial⟩, rfl, rfl, trivial⟩)))⟩
 ·exact wkz_7

noncomputable def c_laws_heldIntS : Con := fun
  | [.c (.imm (.int .i64) a), .c (.int .i64 k_)], [] => .opt _ (laws_heldIntS a k_) (fun r => .ret (.c (.int .i64 r)) [])
  | _, _ => .fail

noncomputable def C_laws_heldIntS : Cfg := { y := tys, n := 21, h := 0, tab := [] }

theorem k_laws_heldIntS : Entry Tryz.prog 60 c_laws_heldIntS := by
 refine wkEnt (C := C_laws_heldIntS) Tryz.f60 wkNil fun _ a b k he => ?_
 unfold c_laws_heldIntS at he; split at he; rotate_left; exact he.elim
 rename_i a k_
 refine wkGo0 he fun he => ?_
 refine wkLoop (laws_heldIntS_l1 a) (fun (k_1, i) => (envOf [(0, .c (.imm y0_ a)), (1, .c (.int .i64 k_1)), (5, .c (.int .i64 i))], [])) he (leads_au []) ?_
 rintro ⟨k_1, i⟩ _ he
 refine go_if he (fun he => ?_) fun he => ?_
 ·refine go_rq he fun he => ?_
  refine go_if he (fun he => ?_) fun he => ?_
  ·exact wkz_1
  ·exact wkz_10
 ·exact wkz_1

noncomputable def c_laws_heldIntSS : Con := fun
  | [.c (.imm (.sl (.int .i64)) a), .c (.int .i64 k_)], [] => .opt _ (laws_heldIntSS a k_) (fun r => .ret (.c (.int .i64 r)) [])
  | _, _ => .fail

noncomputable def C_laws_heldIntSS : Cfg := { y := tys, n := 21, h := 0, tab := [(60, c_laws_heldIntS)] }

theorem k_laws_heldIntSS : Entry Tryz.prog 27 c_laws_heldIntSS := by
 refine wkEnt (C := C_laws_heldIntSS) Tryz.f27 (wkTab k_laws_heldIntS wkNil) fun _ a b k he => ?_
 unfold c_laws_heldIntSS at he; split at he; rotate_left; exact he.elim
 rename_i a k_
 refine wkGo0 he fun he => ?_
 refine wkLoop (laws_heldIntSS_l1 a) (fun (k_1, i) => (envOf [(0, .c (.imm (.sl y0_) a)), (1, .c (.int .i64 k_1)), (5, .c (.int .i64 i))], [])) he (leads_au []) ?_
 rintro ⟨k_1, i⟩ _ he
 exact wkz_6

noncomputable def c_laws_FnExactFindSwaps : Con := fun
  | [.agg [.imm (.int .i64) a0_0, .imm (.pair (.int .i64) (.pair (.sl (.int .i64)) (.pair (.sl (.int .i64)) (.pair (.int .i64) (.sl (.sl (.int .i64))))))) a0_1]], [] => .opt _ (laws_FnExactFindSwaps (a0_0, a0_1)) (fun r => .ret (.c (.bool r)) [])
  | _, _ => .fail

noncomputable def C_laws_FnExactFindSwaps_s1 : Sched := .alt 3 (.first 4 .done) .stop
noncomputable def C_laws_FnExactFindSwaps_s2 : Sched := .alt 2 C_laws_FnExactFindSwaps_s1 .stop
noncomputable def C_laws_FnExactFindSwaps : Cfg := { y := tys, n := 69, h := 0, tab := [(10, c_laws_szModel), (12, c_laws_toModel), (15, c_laws_eqModel), (18, c_impl_FindSwaps), (21, c_spec_FindSwaps), (24, c_laws_eqIntSS), (25, c_laws_markModel), (26, c_laws_markIntSS_2), (27, c_laws_heldIntSS)], cut := [12], hand := [(25, [0]), (26, [0])], sched := [(10, (.alt 0 (.alt 1 C_laws_FnExactFindSwaps_s2 .stop) (.alt 1 (.alt 0 C_laws_FnExactFindSwaps_s2 (.alt 2 (.alt 0 C_laws_FnExactFindSwaps_s1 .stop) .stop)) .stop)))] }

theorem wkz_74 {P : Prop} (h : P := by
  refine And.intro ?_ trivial
  refine ⟨r10_, hq2, ?_⟩
  refine go_if he (fun he => ?_) fun he => ?_
  ·exact wkz_15
  ·exact ⟨_, he, (leads_au [(10000000, 1), (10000001, 19900), (10000002, 5), (10000003, 23900), (10000004, 21901), (10000005, 21902)])⟩) : P := h

theorem k_laws_FnExactFindSwaps : Entry Tryz.prog 6 c_laws_FnExactFindSwaps := by
 refine wkEnt (C := C_laws_FnExactFindSwaps) Tryz.f6 (wkTab k_laws_szModel (wkTab k_laws_toModel (wkTab k_laws_eqModel (wkTab k_impl_FindSwaps (wkTab k_spec_FindSwaps (wkTab k_laws_eqIntSS (wkTab k_laws_markModel (wkTab k_laws_markIntSS_2 (wkTab k_laws_heldIntSS wkNil))))))))) fun _ a b k he => ?_
 unfold c_laws_FnExactFindSwaps at he; split at he; rotate_left; exact he.elim
 rename_i a0_0 a0_1
 refine wkGo0 he fun he => ?_
 refine go_bind he fun r1_ he => ?_
 refine go_if he (fun he => ?_) fun he => ?_
 ·exact wkz_15
 ·refine go_bind he fun r2_ he => ?_
  refine go_bind he fun r3_ he => ?_
  refine go_bind he fun r4_ he => ?_
  refine go_bind he fun r5_ he => ?_
  refine go_bind he fun r6_ he => ?_
  refine go_if he (fun he => ?_) fun he => ?_
  ·exact wkz_15
  ·refine wkSeq (laws_FnExactFindSwaps_j1 (a0_0, a0_1) r3_ r4_ r5_) (fun _ => (envOf [(1, .c (.ptr 10000000 0)), (4, .c (.own 10000001 false)), (5, .c (.ptr 10000002 0)), (6, .c (.own 10000003 false))], [(10000000, .rc [.imm y0_ (a0_0, a0_1).1, .imm y4_ (a0_0, a0_1).2]), (10000001, .sl 22 (.sl y0_) r3_ (.deep true .no)), (10000002, .rc [.own 10000004 false, .own 10000005 false]), (10000003, .sl 22 (.sl y0_) r5_ (.deep true .no)), (10000004, .sl 3 y0_ r4_.1 .shallow), (10000005, .sl 72 y4_ r4_.2 (.deep true .no))])) he ?_ ?_
   ·rintro ⟨⟩ he
    refine go_bind he fun r11_ he => ?_
    refine go_if2 he (fun he => ?_) fun he => ?_
    ·refine go_bind he fun r12_ he => ?_
     refine go_if he (fun he => ?_) fun he => ?_
     ·exact wkz_15
     ·refine go_bind he fun r13_ he => ?_
      refine go_bind he fun r14_ he => ?_
      refine go_if he (fun he => ?_) fun he => ?_
      ·exact wkz_15
      ·refine go_if he (fun he => ?_) fun he => ?_
       ·exact wkz_15
       ·refine go_bind he fun r15_ he => ?_
        refine go_bind he fun r16_ he => ?_
        refine go_bind he fun r17_ he => ?_
        refine go_if he (fun he => ?_) fun he => ?_
        ·exact wkz_15
        ·refine go_bind he fun r18_ he => ?_
         refine go_if he (fun he => ?_) fun he => ?_
         ·exact wkz_15
         ·exact wkz_17
    ·exact wkz_15
   ·skip
    refine And.intro (by kernel_rfl) ?_
    obtain ⟨r9_, hq1, he⟩ := ok_bind he
    obtain ⟨r10_, hq2, he⟩ := ok_bind he
    refine And.intro ?_ (And.intro ?_ (trivial))
    ·skip
     refine And.intro ?_ trivial
     refine And.intro ?_ trivial
     refine ⟨r9_, hq1, ?_⟩
     exact wkz_74
    ·skip
     refine And.intro ?_ (And.intro ?_ (trivial))
     ·skip
      refine And.intro ?_ trivial
      refine ⟨r9_, hq1, ?_⟩
      exact wkz_74
     ·skip
      refine ⟨r9_, hq1, ?_⟩
      refine And.intro ?_ trivial
      exact wkz_74

end Go.AE.Y
