/-
  Walks: each function keeps the contract that its model gives. No conditions.
-/
import Derived.Test.YtgpinbepiniogaaGreatDoorRATab
import Derived.Test.YtgpinbepiniogaaGreatDoorRAW4
import Derived.Test.YtgpinbepiniogaaGreatDoorRAS
namespace Go.AE.Y
open Go Go.AE Go.Proofs
set_option linter.unusedVariables false
set_option maxHeartbeats 2000000
set_option maxRecDepth 100000

noncomputable def c_laws_eqRule : Con := fun
  | [.agg [.int .i64 a_0, .imm (.int .i64) a_1, .imm (.int .i64) a_2, .int .i64 a_3, .imm (.sl (.int .i64)) a_4], .agg [.int .i64 b_0, .imm (.int .i64) b_1, .imm (.int .i64) b_2, .int .i64 b_3, .imm (.sl (.int .i64)) b_4]], [] => .opt _ (laws_eqRule (a_0, (a_1, (a_2, (a_3, a_4)))) (b_0, (b_1, (b_2, (b_3, b_4))))) (fun r => .ret (.c (.bool r)) [])
  | _, _ => .fail

noncomputable def C_laws_eqRule : Cfg := { y := tys, n := 33, h := 0, tab := [(16, c_laws_eqIntS), (24, c_laws_eqIntSS)] }

theorem k_laws_eqRule : Entry Tryz.prog 85 c_laws_eqRule := by
 refine wkEnt (C := C_laws_eqRule) Tryz.f85 (wkTab k_laws_eqIntS (wkTab k_laws_eqIntSS wkNil)) fun _ a b k he => ?_
 unfold c_laws_eqRule at he; split at he; rotate_left; exact he.elim
 rename_i a_0 a_1 a_2 a_3 a_4 b_0 b_1 b_2 b_3 b_4
 refine wkGo0 he fun he => ?_
 refine go_if he (fun he => ?_) fun he => ?_
 ·exact wkz_7
 ·refine go_bind he fun r1_ he => ?_
  refine go_if he (fun he => ?_) fun he => ?_
  ·exact wkz_7
  ·refine go_bind he fun r2_ he => ?_
   refine go_if he (fun he => ?_) fun he => ?_
   ·exact wkz_7
   ·exact wkz_9

noncomputable def c_laws_eqRuleS : Con := fun
  | [.c (.imm (.pair (.int .i64) (.pair (.sl (.int .i64)) (.pair (.sl (.int .i64)) (.pair (.int .i64) (.sl (.sl (.int .i64))))))) a), .c (.imm (.pair (.int .i64) (.pair (.sl (.int .i64)) (.pair (.sl (.int .i64)) (.pair (.int .i64) (.sl (.sl (.int .i64))))))) b)], [] => .opt _ (laws_eqRuleS a b) (fun r => .ret (.c (.bool r)) [])
  | _, _ => .fail

noncomputable def C_laws_eqRuleS : Cfg := { y := tys, n := 27, h := 0, tab := [(85, c_laws_eqRule)], sched := [(6, (wkFs [0, 1, 2, 3, 4, 5, 6, 7] (.alt 8 (.first 9 .done) .stop)))] }

theorem k_laws_eqRuleS : Entry Tryz.prog 47 c_laws_eqRuleS := by
 refine wkEnt (C := C_laws_eqRuleS) Tryz.f47 (wkTab k_laws_eqRule wkNil) fun _ a b k he => ?_
 unfold c_laws_eqRuleS at he; split at he; rotate_left; exact he.elim
 rename_i a b
 refine wkGo0 he fun he => ?_
 refine go_if he (fun he => ?_) fun he => ?_
 ·exact wkz_1
 ·refine wkLoop (laws_eqRuleS_l1 a b) (fun i => (envOf [(0, .c (.imm y4_ a)), (1, .c (.imm y4_ b)), (5, .c (.int .i64 i))], [])) he (leads_au []) ?_
  exact wkz_84

noncomputable def c_laws_eqModel : Con := fun
  | [.agg [.imm (.int .i64) a_0, .imm (.pair (.int .i64) (.pair (.sl (.int .i64)) (.pair (.sl (.int .i64)) (.pair (.int .i64) (.sl (.sl (.int .i64))))))) a_1], .agg [.imm (.int .i64) b_0, .imm (.pair (.int .i64) (.pair (.sl (.int .i64)) (.pair (.sl (.int .i64)) (.pair (.int .i64) (.sl (.sl (.int .i64))))))) b_1]], [] => .opt _ (laws_eqModel (a_0, a_1) (b_0, b_1)) (fun r => .ret (.c (.bool r)) [])
  | _, _ => .fail

noncomputable def C_laws_eqModel : Cfg := { y := tys, n := 17, h := 0, tab := [(16, c_laws_eqIntS), (47, c_laws_eqRuleS)] }

theorem k_laws_eqModel : Entry Tryz.prog 15 c_laws_eqModel := by
 refine wkEnt (C := C_laws_eqModel) Tryz.f15 (wkTab k_laws_eqIntS (wkTab k_laws_eqRuleS wkNil)) fun _ a b k he => ?_
 unfold c_laws_eqModel at he; split at he; rotate_left; exact he.elim
 rename_i a_0 a_1 b_0 b_1
 refine wkGo0 he fun he => ?_
 refine go_bind he fun r1_ he => ?_
 refine go_if he (fun he => ?_) fun he => ?_
 ·exact wkz_7
 ·refine go_bind he fun r2_ he => ?_
  exact wkz_8

noncomputable def c_laws_markIntS : Con := fun
  | [.c (.own 0 false), .c (.int .i64 k_)], [(0, .sl 3 (.int .i64) a .shallow)] => .opt _ (laws_markIntS k_ a) (fun r => .ret (.c (.int .i64 r.1)) [(0, .sl 3 y0_ r.2 .shallow)])
  | _, _ => .fail

noncomputable def C_laws_markIntS : Cfg := { y := tys, n := 19, h := 1, tab := [] }

theorem wkz_85 {P : Prop} (h : P := by
  rintro ⟨k_1, i, a1⟩ _ he
  refine go_if he (fun he => ?_) fun he => ?_
  ·exact wkz_11
  ·exact wkz_7) : P := h

theorem k_laws_markIntS : Entry Tryz.prog 58 c_laws_markIntS := by
 refine wkEnt (C := C_laws_markIntS) Tryz.f58 wkNil fun _ a b k he => ?_
 unfold c_laws_markIntS at he; split at he; rotate_left; exact he.elim
 rename_i k_ a
 refine wkGo0 he fun he => ?_
 refine wkLoop (laws_markIntS_l1) (fun (k_1, i, a1) => (envOf [(0, .c (.own 0 false)), (1, .c (.int .i64 k_1)), (5, .c (.int .i64 i))], [(0, .sl 3 y0_ a1 .shallow)])) he (leads_au []) ?_
 exact wkz_85

noncomputable def c_laws_markIntS__d : Con := fun
  | [.c (.own 0 false), .c (.int .i64 k_)], [(0, .sl 0 (.int .i64) a (.deep false .no))] => .opt _ (laws_markIntS__d k_ a) (fun r => .ret (.c (.int .i64 r.1)) [(0, .sl 0 y0_ r.2 (.deep false .no))])
  | _, _ => .fail

noncomputable def C_laws_markIntS__d : Cfg := { y := tys, n := 19, h := 1, tab := [] }

theorem k_laws_markIntS__d : Entry Tryz.prog 58 c_laws_markIntS__d := by
 refine wkEnt (C := C_laws_markIntS__d) Tryz.f58 wkNil fun _ a b k he => ?_
 unfold c_laws_markIntS__d at he; split at he; rotate_left; exact he.elim
 rename_i k_ a
 refine wkGo0 he fun he => ?_
 refine wkLoop (laws_markIntS__d_l1) (fun (k_1, i, a1) => (envOf [(0, .c (.own 0 false)), (1, .c (.int .i64 k_1)), (5, .c (.int .i64 i))], [(0, .sl 0 y0_ a1 (.deep false .no))])) he (leads_au []) ?_
 exact wkz_85

noncomputable def c_laws_markIntSS : Con := fun
  | [.c (.own 0 false), .c (.int .i64 k_)], [(0, .sl 0 (.sl (.int .i64)) a (.deep false .no))] => .opt _ (laws_markIntSS k_ a) (fun r => .ret (.c (.int .i64 r.1)) [(0, .sl 0 (.sl y0_) r.2 (.deep false .no))])
  | _, _ => .fail

noncomputable def C_laws_markIntSS : Cfg := { y := tys, n := 19, h := 1, tab := [(58, c_laws_markIntS__d)], hand := [(58, [0])] }

theorem k_laws_markIntSS : Entry Tryz.prog 26 c_laws_markIntSS := by
 refine wkEnt (C := C_laws_markIntSS) Tryz.f26 (wkTab k_laws_markIntS__d wkNil) fun _ a b k he => ?_
 unfold c_laws_markIntSS at he; split at he; rotate_left; exact he.elim
 rename_i k_ a
 refine wkGo0 he fun he => ?_
 refine wkLoop (laws_markIntSS_l1) (fun (k_1, i, a1) => (envOf [(0, .c (.own 0 false)), (1, .c (.int .i64 k_1)), (5, .c (.int .i64 i))], [(0, .sl 0 (.sl y0_) a1 (.deep false .no))])) he (leads_au []) ?_
 rintro ⟨k_1, i, a1⟩ _ he
 refine go_if he (fun he => ?_) fun he => ?_
 ·refine go_rq he fun he => ?_
  refine go_bind he fun r2_ he => ?_
  refine go_rq he fun he => ?_
  exact ⟨_, (ok_some he :), ((leads_close [0] rfl).trans (leads_ren [] (l := [(0, .c (.own 0 false)), (1, .c (.int .i64 r2_.1)), (5, .c (.int .i64 (i + (1:Int))))]) (st' := [(0, .sl 0 (.sl y0_) (a1.set i.toNat r2_.2) (.deep false .no))]) rfl rfl (by exact ⟨⟨rfl, rfl⟩, trivial⟩) (by exact ⟨⟨⟨rfl, rfl⟩, trivial⟩, rfl, rfl, trivial⟩)))⟩
 ·exact wkz_7

noncomputable def c_laws_markRuleS : Con := fun
  | [.c (.own 0 false), .c (.int .i64 k_)], [(0, .sl 72 (.pair (.int .i64) (.pair (.sl (.int .i64)) (.pair (.sl (.int .i64)) (.pair (.int .i64) (.sl (.sl (.int .i64))))))) a (.deep true .no))] => .opt _ (laws_markRuleS k_ a) (fun r => .ret (.c (.int .i64 r.1)) [(0, .sl 72 y4_ r.2 (.deep true .no))])
  | _, _ => .fail

noncomputable def C_laws_markRuleS : Cfg := { y := tys, n := 48, h := 1, tab := [(26, c_laws_markIntSS), (58, c_laws_markIntS__d)], cut := [8, 9], hand := [(26, [0]), (58, [0])] }

theorem k_laws_markRuleS : Entry Tryz.prog 59 c_laws_markRuleS := by
 refine wkEnt (C := C_laws_markRuleS) Tryz.f59 (wkTab k_laws_markIntSS (wkTab k_laws_markIntS__d wkNil)) fun _ a b k he => ?_
 unfold c_laws_markRuleS at he; split at he; rotate_left; exact he.elim
 rename_i k_ a
 refine wkGo0 he fun he => ?_
 refine wkLoop (laws_markRuleS_l1) (fun (k_1, i, a3) => (envOf [(0, .c (.own 0 false)), (1, .c (.int .i64 k_1)), (5, .c (.int .i64 i))], [(0, .sl 72 y4_ a3 (.deep true .no))])) he (leads_au []) ?_
 rintro ⟨k_1, i, a3⟩ _ he
 refine go_if he (fun he => ?_) fun he => ?_
 ·refine go_rq he fun he => ?_
  refine go_rq he fun he => ?_
  refine go_rq he fun he => ?_
  refine go_bind he fun r4_ he => ?_
  refine wkSeq (laws_markRuleS_j1 i) (fun (k_3, a4) => (envOf [(0, .c (.own 0 false)), (1, .c (.int .i64 k_3)), (5, .c (.int .i64 i))], [(0, .sl 72 y4_ a4 (.deep true .no))])) he ?_ ?_
  ·rintro ⟨k_3, a4⟩ he
   refine wkSeq (laws_markRuleS_j2 i k_3) (fun a5 => (envOf [(0, .c (.own 0 false)), (1, .c (.int .i64 k_3)), (5, .c (.int .i64 i))], [(0, .sl 72 y4_ a5 (.deep true .no))])) he ?_ ?_
   ·rintro a5 he
    refine go_rq he fun he => ?_
    refine go_rq he fun he => ?_
    refine go_bind he fun r6_ he => ?_
    refine go_rq he fun he => ?_
    exact ⟨_, (ok_some he :), ((leads_close [0] rfl).trans (leads_ren [] (l := [(0, .c (.own 0 false)), (1, .c (.int .i64 r6_.1)), (5, .c (.int .i64 (i + (1:Int))))]) (st' := [(0, .sl 72 y4_ (a5.set i.toNat ((a5.getD i.toNat (0, ([], ([], (0, []))))).1, ((a5.getD i.toNat (0, ([], ([], (0, []))))).2.1, ((a5.getD i.toNat (0, ([], ([], (0, []))))).2.2.1, ((a5.getD i.toNat (0, ([], ([], (0, []))))).2.2.2.1, r6_.2))))) (.deep true .no))]) rfl rfl (by exact ⟨⟨rfl, rfl⟩, trivial⟩) (by exact ⟨⟨⟨rfl, rfl⟩, trivial⟩, rfl, rfl, trivial⟩)))⟩
   ·skip
    refine go_rq he fun he => ?_
    exact ⟨_, he, (leads_au [])⟩
  ·skip
   refine go_rq he fun he => ?_
   refine go_bind he fun r5_ he => ?_
   exact ⟨_, he, ((leads_close [0] rfl).trans (leads_ren [] (l := [(0, .c (.own 0 false)), (1, .c (.int .i64 r5_.1)), (5, .c (.int .i64 i))]) (st' := [(0, .sl 72 y4_ (((a3.set i.toNat (k_1, (a3.getD i.toNat (0, ([], ([], (0, []))))).2)).set i.toNat (((a3.set i.toNat (k_1, (a3.getD i.toNat (0, ([], ([], (0, []))))).2)).getD i.toNat (0, ([], ([], (0, []))))).1, (r4_.2, ((a3.set i.toNat (k_1, (a3.getD i.toNat (0, ([], ([], (0, []))))).2)).getD i.toNat (0, ([], ([], (0, []))))).2.2))).set i.toNat ((((a3.set i.toNat (k_1, (a3.getD i.toNat (0, ([], ([], (0, []))))).2)).set i.toNat (((a3.set i.toNat (k_1, (a3.getD i.toNat (0, ([], ([], (0, []))))).2)).getD i.toNat (0, ([], ([], (0, []))))).1, (r4_.2, ((a3.set i.toNat (k_1, (a3.getD i.toNat (0, ([], ([], (0, []))))).2)).getD i.toNat (0, ([], ([], (0, []))))).2.2))).getD i.toNat (0, ([], ([], (0, []))))).1, ((((a3.set i.toNat (k_1, (a3.getD i.toNat (0, ([], ([], (0, []))))).2)).set i.toNat (((a3.set i.toNat (k_1, (a3.getD i.toNat (0, ([], ([], (0, []))))).2)).getD i.toNat (0, ([], ([], (0, []))))).1, (r4_.2, ((a3.set i.toNat (k_1, (a3.getD i.toNat (0, ([], ([], (0, []))))).2)).getD i.toNat (0, ([], ([], (0, []))))).2.2))).getD i.toNat (0, ([], ([], (0, []))))).2.1, (r5_.2, (((a3.set i.toNat (k_1, (a3.getD i.toNat (0, ([], ([], (0, []))))).2)).set i.toNat (((a3.set i.toNat (k_1, (a3.getD i.toNat (0, ([], ([], (0, []))))).2)).getD i.toNat (0, ([], ([], (0, []))))).1, (r4_.2, ((a3.set i.toNat (k_1, (a3.getD i.toNat (0, ([], ([], (0, []))))).2)).getD i.toNat (0, ([], ([], (0, []))))).2.2))).getD i.toNat (0, ([], ([], (0, []))))).2.2.2)))) (.deep true .no))]) rfl rfl (by exact ⟨⟨rfl, rfl⟩, trivial⟩) (by exact ⟨⟨⟨rfl, rfl⟩, trivial⟩, rfl, rfl, trivial⟩)))⟩
 ·exact wkz_7

noncomputable def c_laws_markModel : Con := fun
  | [.agg [.own 0 false, .own 1 false], .c (.int .i64 k_)], [(0, .sl 3 (.int .i64) o0 .shallow), (1, .sl 72 (.pair (.int .i64) (.pair (.sl (.int .i64)) (.pair (.sl (.int .i64)) (.pair (.int .i64) (.sl (.sl (.int .i64))))))) o1 (.deep true .no))] => .opt _ (laws_markModel k_ o0 o1) (fun r => .ret (.c (.int .i64 r.1)) [(0, .sl 3 y0_ r.2.1 .shallow), (1, .sl 72 y4_ r.2.2 (.deep true .no))])
  | _, _ => .fail

noncomputable def C_laws_markModel : Cfg := { y := tys, n := 14, h := 2, tab := [(58, c_laws_markIntS), (59, c_laws_markRuleS)], hand := [(58, [0]), (59, [0])] }

theorem k_laws_markModel : Entry Tryz.prog 25 c_laws_markModel := by
 refine wkEnt (C := C_laws_markModel) Tryz.f25 (wkTab k_laws_markIntS (wkTab k_laws_markRuleS wkNil)) fun _ a b k he => ?_
 unfold c_laws_markModel at he; split at he; rotate_left; exact he.elim
 rename_i k_ o0 o1
 refine wkGo0 he fun he => ?_
 refine go_bind he fun r1_ he => ?_
 refine go_bind he fun r2_ he => ?_
 exact wkz_7

noncomputable def c_laws_heldIntS : Con := fun
  | [.c (.imm (.int .i64) a), .c (.int .i64 k_)], [] => .opt _ (laws_heldIntS a k_) (fun r => .ret (.c (.int .i64 r)) [])
  | _, _ => .fail

noncomputable def C_laws_heldIntS : Cfg := { y := tys, n := 21, h := 0, tab := [] }

theorem k_laws_heldIntS : Entry Tryz.prog 60 c_laws_heldIntS := by
 refine wkEnt (C := C_laws_heldIntS) Tryz.f60 wkNil fun _ a b k he => ?_
 unfold c_laws_heldIntS at he; split at he; rotate_left; exact he.elim
 rename_i a k_
 refine wkGo0 he fun he => ?_
 refine wkLoop (laws_heldIntS_l1 a) (fun (k_1, i) => (envOf [(0, .c (.imm y0_ a)), (1, .c (.int .i64 k_1)), (5, .c (.int .i64 i))], [])) he (leads_au []) ?_
 rintro ⟨k_1, i⟩ _ he
 refine go_if he (fun he => ?_) fun he => ?_
 ·refine go_rq he fun he => ?_
  refine go_if he (fun he => ?_) fun he => ?_
  ·exact wkz_1
  ·exact wkz_10
 ·exact wkz_1

noncomputable def c_laws_heldIntSS : Con := fun
  | [.c (.imm (.sl (.int .i64)) a), .c (.int .i64 k_)], [] => .opt _ (laws_heldIntSS a k_) (fun r => .ret (.c (.int .i64 r)) [])
  | _, _ => .fail

noncomputable def C_laws_heldIntSS : Cfg := { y := tys, n := 21, h := 0, tab := [(60, c_laws_heldIntS)] }

theorem k_laws_heldIntSS : Entry Tryz.prog 27 c_laws_heldIntSS := by
 refine wkEnt (C := C_laws_heldIntSS) Tryz.f27 (wkTab k_laws_heldIntS wkNil) fun _ a b k he => ?_
 unfold c_laws_heldIntSS at he; split at he; rotate_left; exact he.elim
 rename_i a k_
 refine wkGo0 he fun he => ?_
 refine wkLoop (laws_heldIntSS_l1 a) (fun (k_1, i) => (envOf [(0, .c (.imm (.sl y0_) a)), (1, .c (.int .i64 k_1)), (5, .c (.int .i64 i))], [])) he (leads_au []) ?_
 rintro ⟨k_1, i⟩ _ he
 exact wkz_6

noncomputable def c_laws_heldRuleS : Con := fun
  | [.c (.imm (.pair (.int .i64) (.pair (.sl (.int .i64)) (.pair (.sl (.int .i64)) (.pair (.int .i64) (.sl (.sl (.int .i64))))))) a), .c (.int .i64 k_)], [] => .opt _ (laws_heldRuleS a k_) (fun r => .ret (.c (.int .i64 r)) [])
  | _, _ => .fail

noncomputable def C_laws_heldRuleS : Cfg := { y := tys, n := 58, h := 0, tab := [(27, c_laws_heldIntSS), (60, c_laws_heldIntS)] }

theorem k_laws_heldRuleS : Entry Tryz.prog 73 c_laws_heldRuleS := by
 refine wkEnt (C := C_laws_heldRuleS) Tryz.f73 (wkTab k_laws_heldIntSS (wkTab k_laws_heldIntS wkNil)) fun _ a b k he => ?_
 unfold c_laws_heldRuleS at he; split at he; rotate_left; exact he.elim
 rename_i a k_
 refine wkGo0 he fun he => ?_
 refine wkLoop (laws_heldRuleS_l1 a) (fun (k_1, i) => (envOf [(0, .c (.imm y4_ a)), (1, .c (.int .i64 k_1)), (5, .c (.int .i64 i))], [])) he (leads_au []) ?_
 rintro ⟨k_1, i⟩ _ he
 refine go_if he (fun he => ?_) fun he => ?_
 ·refine go_rq he fun he => ?_
  refine go_if he (fun he => ?_) fun he => ?_
  ·exact wkz_1
  ·refine go_rq he fun he => ?_
   refine go_rq he fun he => ?_
   refine go_bind he fun r1_ he => ?_
   refine go_if he (fun he => ?_) fun he => ?_
   ·exact wkz_1
   ·refine go_rq he fun he => ?_
    refine go_bind he fun r2_ he => ?_
    refine go_if he (fun he => ?_) fun he => ?_
    ·exact wkz_1
    ·refine go_rq he fun he => ?_
     refine go_if he (fun he => ?_) fun he => ?_
     ·exact wkz_1
     ·refine go_rq he fun he => ?_
      refine go_rq he fun he => ?_
      refine go_bind he fun r3_ he => ?_
      exact wkz_4
 ·exact wkz_1

noncomputable def c_laws_heldModel : Con := fun
  | [.agg [.imm (.int .i64) a_0, .imm (.pair (.int .i64) (.pair (.sl (.int .i64)) (.pair (.sl (.int .i64)) (.pair (.int .i64) (.sl (.sl (.int .i64))))))) a_1], .c (.int .i64 k_)], [] => .opt _ (laws_heldModel (a_0, a_1) k_) (fun r => .ret (.c (.int .i64 r)) [])
  | _, _ => .fail

noncomputable def C_laws_heldModel : Cfg := { y := tys, n := 18, h := 0, tab := [(60, c_laws_heldIntS), (73, c_laws_heldRuleS)] }

theorem k_laws_heldModel : Entry Tryz.prog 37 c_laws_heldModel := by
 refine wkEnt (C := C_laws_heldModel) Tryz.f37 (wkTab k_laws_heldIntS (wkTab k_laws_heldRuleS wkNil)) fun _ a b k he => ?_
 unfold c_laws_heldModel at he; split at he; rotate_left; exact he.elim
 rename_i a_0 a_1 k_
 refine wkGo0 he fun he => ?_
 refine go_bind he fun r1_ he => ?_
 refine go_if he (fun he => ?_) fun he => ?_
 ·exact wkz_7
 ·refine go_bind he fun r2_ he => ?_
  exact wkz_8

noncomputable def c_laws_FnExactBreakSwaps : Con := fun
  | [.agg [.imm (.int .i64) a0_0, .imm (.pair (.int .i64) (.pair (.sl (.int .i64)) (.pair (.sl (.int .i64)) (.pair (.int .i64) (.sl (.sl (.int .i64))))))) a0_1]], [] => .opt _ (laws_FnExactBreakSwaps (a0_0, a0_1)) (fun r => .ret (.c (.bool r)) [])
  | _, _ => .fail

noncomputable def C_laws_FnExactBreakSwaps_s1 : Sched := .alt 3 (.first 4 .done) .stop
noncomputable def C_laws_FnExactBreakSwaps_s2 : Sched := .alt 2 C_laws_FnExactBreakSwaps_s1 .stop
noncomputable def C_laws_FnExactBreakSwaps : Cfg := { y := tys, n := 96, h := 0, tab := [(10, c_laws_szModel), (12, c_laws_toModel), (15, c_laws_eqModel), (25, c_laws_markModel), (33, c_impl_BreakSwaps), (34, c_spec_BreakSwaps), (37, c_laws_heldModel)], cut := [12], hand := [(25, [0])], sched := [(10, (.alt 0 (.alt 1 C_laws_FnExactBreakSwaps_s2 .stop) (.alt 1 (.alt 0 C_laws_FnExactBreakSwaps_s2 (.alt 2 (.alt 0 C_laws_FnExactBreakSwaps_s1 .stop) .stop)) .stop)))] }

theorem wkz_86 {P : Prop} (h : P := by
  refine And.intro ?_ trivial
  refine ⟨r10_, hq2, ?_⟩
  refine go_if he (fun he => ?_) fun he => ?_
  ·exact wkz_16
  ·exact ⟨_, he, (leads_au [(10000000, 1), (10000001, 4), (10000002, 6), (10000003, 7), (10000004, 23901), (10000005, 23902), (10000006, 27901), (10000007, 27902), (10000008, 30901), (10000009, 30902)])⟩) : P := h

theorem k_laws_FnExactBreakSwaps : Entry Tryz.prog 9 c_laws_FnExactBreakSwaps := by
 refine wkEnt (C := C_laws_FnExactBreakSwaps) Tryz.f9 (wkTab k_laws_szModel (wkTab k_laws_toModel (wkTab k_laws_eqModel (wkTab k_laws_markModel (wkTab k_impl_BreakSwaps (wkTab k_spec_BreakSwaps (wkTab k_laws_heldModel wkNil))))))) fun _ a b k he => ?_
 unfold c_laws_FnExactBreakSwaps at he; split at he; rotate_left; exact he.elim
 rename_i a0_0 a0_1
 refine wkGo0 he fun he => ?_
 refine go_bind he fun r1_ he => ?_
 refine go_if he (fun he => ?_) fun he => ?_
 ·exact wkz_16
 ·refine go_bind he fun r2_ he => ?_
  refine go_bind he fun r3_ he => ?_
  refine go_bind he fun r4_ he => ?_
  refine go_bind he fun r5_ he => ?_
  refine go_bind he fun r6_ he => ?_
  refine go_if2 he (fun he => ?_) fun he => ?_
  ·refine go_if he (fun he => ?_) fun he => ?_
   ·exact wkz_16
   ·refine wkSeq (laws_FnExactBreakSwaps_j1 (a0_0, a0_1) r3_ r4_ r5_) (fun _ => (envOf [(1, .c (.ptr 10000000 0)), (4, .c (.ptr 10000001 0)), (5, .c (.bool r3_.1)), (6, .c (.ptr 10000002 0)), (7, .c (.ptr 10000003 0)), (8, .c (.bool r5_.1))], [(10000000, .rc [.imm y0_ (a0_0, a0_1).1, .imm y4_ (a0_0, a0_1).2]), (10000001, .rc [.own 10000004 false, .own 10000005 false]), (10000002, .rc [.own 10000006 false, .own 10000007 false]), (10000003, .rc [.own 10000008 false, .own 10000009 false]), (10000004, .sl 3 y0_ r3_.2.1 .shallow), (10000005, .sl 72 y4_ r3_.2.2 (.deep true .no)), (10000006, .sl 3 y0_ r4_.1 .shallow), (10000007, .sl 72 y4_ r4_.2 (.deep true .no)), (10000008, .sl 3 y0_ r5_.2.1 .shallow), (10000009, .sl 72 y4_ r5_.2.2 (.deep true .no))])) he ?_ ?_
    ·rintro ⟨⟩ he
     refine go_bind he fun r11_ he => ?_
     refine go_if2 he (fun he => ?_) fun he => ?_
     ·refine go_bind he fun r12_ he => ?_
      refine go_if2 he (fun he => ?_) fun he => ?_
      ·refine go_if he (fun he => ?_) fun he => ?_
       ·exact wkz_16
       ·refine go_bind he fun r13_ he => ?_
        refine go_bind he fun r14_ he => ?_
        refine go_if he (fun he => ?_) fun he => ?_
        ·exact wkz_16
        ·refine go_if he (fun he => ?_) fun he => ?_
         ·exact wkz_16
         ·refine go_bind he fun r15_ he => ?_
          refine go_bind he fun r16_ he => ?_
          refine go_bind he fun r17_ he => ?_
          refine go_if2 he (fun he => ?_) fun he => ?_
          ·refine go_if he (fun he => ?_) fun he => ?_
           ·exact wkz_16
           ·refine go_bind he fun r18_ he => ?_
            refine go_if he (fun he => ?_) fun he => ?_
            ·exact wkz_16
            ·exact wkz_18
          ·exact wkz_16
      ·exact wkz_16
     ·exact wkz_16
    ·skip
     refine And.intro (by kernel_rfl) ?_
     obtain ⟨r9_, hq1, he⟩ := ok_bind he
     obtain ⟨r10_, hq2, he⟩ := ok_bind he
     refine And.intro ?_ (And.intro ?_ (trivial))
     ·skip
      refine And.intro ?_ trivial
      refine And.intro ?_ trivial
      refine ⟨r9_, hq1, ?_⟩
      exact wkz_86
     ·skip
      refine And.intro ?_ (And.intro ?_ (trivial))
      ·skip
       refine And.intro ?_ trivial
       refine ⟨r9_, hq1, ?_⟩
       exact wkz_86
      ·skip
       refine ⟨r9_, hq1, ?_⟩
       refine And.intro ?_ trivial
       exact wkz_86
  ·exact wkz_16

end Go.AE.Y
