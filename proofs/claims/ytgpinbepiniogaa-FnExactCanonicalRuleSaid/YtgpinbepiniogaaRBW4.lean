/-
  Walks: each function keeps the contract that its model gives. No conditions.
-/
import Derived.Test.YtgpinbepiniogaaRBTab
import Derived.Test.YtgpinbepiniogaaRBW3
import Derived.Test.YtgpinbepiniogaaRBS
import Derived.Test.YtgpinbepiniogaaPx1
namespace Go.AE.Y
open Go Go.AE Go.Proofs
set_option linter.unusedVariables false
set_option maxHeartbeats 2000000
set_option maxRecDepth 100000

noncomputable def c_laws_markIntS__d : Con := fun
  | [.c (.own 0 false), .c (.int .i64 k_)], [(0, .sl 0 (.int .i64) a (.deep false .no))] => .opt _ (laws_markIntS__d k_ a) (fun r => .ret (.c (.int .i64 r.1)) [(0, .sl 0 y0_ r.2 (.deep false .no))])
  | _, _ => .fail

noncomputable def C_laws_markIntS__d : Cfg := { y := tys, n := 19, h := 1, tab := [] }

theorem k_laws_markIntS__d : Entry Try.prog 39 c_laws_markIntS__d := by
 refine wkEnt (C := C_laws_markIntS__d) Try.f39 wkNil fun _ a b k he => ?_
 unfold c_laws_markIntS__d at he; split at he; rotate_left; exact he.elim
 rename_i k_ a
 refine wkGo0 he fun he => ?_
 refine wkLoop (laws_markIntS__d_l1) (fun (k_1, i, a1) => (envOf [(0, .c (.own 0 false)), (1, .c (.int .i64 k_1)), (5, .c (.int .i64 i))], [(0, .sl 0 y0_ a1 (.deep false .no))])) he (leads_au []) ?_
 exact wkz_59

noncomputable def c_laws_markIntSS : Con := fun
  | [.c (.own 0 false), .c (.int .i64 k_)], [(0, .sl 0 (.sl (.int .i64)) a (.deep false .no))] => .opt _ (laws_markIntSS k_ a) (fun r => .ret (.c (.int .i64 r.1)) [(0, .sl 0 (.sl y0_) r.2 (.deep false .no))])
  | _, _ => .fail

noncomputable def C_laws_markIntSS : Cfg := { y := tys, n := 19, h := 1, tab := [(39, c_laws_markIntS__d)], hand := [(39, [0])] }

theorem k_laws_markIntSS : Entry Try.prog 41 c_laws_markIntSS := by
 refine wkEnt (C := C_laws_markIntSS) Try.f41 (wkTab k_laws_markIntS__d wkNil) fun _ a b k he => ?_
 unfold c_laws_markIntSS at he; split at he; rotate_left; exact he.elim
 rename_i k_ a
 refine wkGo0 he fun he => ?_
 refine wkLoop (laws_markIntSS_l1) (fun (k_1, i, a1) => (envOf [(0, .c (.own 0 false)), (1, .c (.int .i64 k_1)), (5, .c (.int .i64 i))], [(0, .sl 0 (.sl y0_) a1 (.deep false .no))])) he (leads_au []) ?_
 rintro ⟨k_1, i, a1⟩ _ he
 refine go_if he (fun he => ?_) fun he => ?_
 ·refine go_rq he fun he => ?_
  refine go_bind he fun r2_ he => ?_
  refine go_rq he fun he => ?_
  exact ⟨_, (ok_some he :), ((leads_close [0] rfl).trans (leads_ren [] (l := [(0, .c (.own 0 false)), (1, .c (.int .i64 r2_.1)), (5, .c (.int .i64 (i + (1:Int))))]) (st' := [(0, .sl 0 (.sl y0_) (a1.set i.toNat r2_.2) (.deep false .no))]) rfl rfl (by exact ⟨⟨rfl, rfl⟩, trivial⟩) (by exact ⟨⟨⟨rfl, rfl⟩, trivial⟩, rfl, rfl, trivial⟩)))⟩
 ·exact wkz_7

noncomputable def c_laws_markRuleS : Con := fun
  | [.c (.own 0 false), .c (.int .i64 k_)], [(0, .sl 31 (.pair (.int .i64) (.pair (.sl (.int .i64)) (.pair (.sl (.int .i64)) (.pair (.int .i64) (.sl (.sl (.int .i64))))))) a (.deep true .no))] => .opt _ (laws_markRuleS k_ a) (fun r => .ret (.c (.int .i64 r.1)) [(0, .sl 31 y4_ r.2 (.deep true .no))])
  | _, _ => .fail

noncomputable def C_laws_markRuleS : Cfg := { y := tys, n := 48, h := 1, tab := [(39, c_laws_markIntS__d), (41, c_laws_markIntSS)], cut := [8, 9], hand := [(39, [0]), (41, [0])] }

theorem k_laws_markRuleS : Entry Try.prog 40 c_laws_markRuleS := by
 refine wkEnt (C := C_laws_markRuleS) Try.f40 (wkTab k_laws_markIntS__d (wkTab k_laws_markIntSS wkNil)) fun _ a b k he => ?_
 unfold c_laws_markRuleS at he; split at he; rotate_left; exact he.elim
 rename_i k_ a
 refine wkGo0 he fun he => ?_
 refine wkLoop (laws_markRuleS_l1) (fun (k_1, i, a3) => (envOf [(0, .c (.own 0 false)), (1, .c (.int .i64 k_1)), (5, .c (.int .i64 i))], [(0, .sl 31 y4_ a3 (.deep true .no))])) he (leads_au []) ?_
 rintro ⟨k_1, i, a3⟩ _ he
 refine go_if he (fun he => ?_) fun he => ?_
 ·refine go_rq he fun he => ?_
  refine go_rq he fun he => ?_
  refine go_rq he fun he => ?_
  refine go_bind he fun r4_ he => ?_
  refine wkSeq (laws_markRuleS_j1 i) (fun (k_3, a4) => (envOf [(0, .c (.own 0 false)), (1, .c (.int .i64 k_3)), (5, .c (.int .i64 i))], [(0, .sl 31 y4_ a4 (.deep true .no))])) he ?_ ?_
  ·rintro ⟨k_3, a4⟩ he
   refine wkSeq (laws_markRuleS_j2 i k_3) (fun a5 => (envOf [(0, .c (.own 0 false)), (1, .c (.int .i64 k_3)), (5, .c (.int .i64 i))], [(0, .sl 31 y4_ a5 (.deep true .no))])) he ?_ ?_
   ·rintro a5 he
    refine go_rq he fun he => ?_
    refine go_rq he fun he => ?_
    refine go_bind he fun r6_ he => ?_
    refine go_rq he fun he => ?_
    exact ⟨_, (ok_some he :), ((leads_close [0] rfl).trans (leads_ren [] (l := [(0, .c (.own 0 false)), (1, .c (.int .i64 r6_.1)), (5, .c (.int .i64 (i + (1:Int))))]) (st' := [(0, .sl 31 y4_ (a5.set i.toNat ((a5.getD i.toNat (0, ([], ([], (0, []))))).1, ((a5.getD i.toNat (0, ([], ([], (0, []))))).2.1, ((a5.getD i.toNat (0, ([], ([], (0, []))))).2.2.1, ((a5.getD i.toNat (0, ([], ([], (0, []))))).2.2.2.1, r6_.2))))) (.deep true .no))]) rfl rfl (by exact ⟨⟨rfl, rfl⟩, trivial⟩) (by exact ⟨⟨⟨rfl, rfl⟩, trivial⟩, rfl, rfl, trivial⟩)))⟩
   ·skip
    refine go_rq he fun he => ?_
    exact ⟨_, he, (leads_au [])⟩
  ·skip
   refine go_rq he fun he => ?_
   refine go_bind he fun r5_ he => ?_
   exact ⟨_, he, ((leads_close [0] rfl).trans (leads_ren [] (l := [(0, .c (.own 0 false)), (1, .c (.int .i64 r5_.1)), (5, .c (.int .i64 i))]) (st' := [(0, .sl 31 y4_ (((a3.set i.toNat (k_1, (a3.getD i.toNat (0, ([], ([], (0, []))))).2)).set i.toNat (((a3.set i.toNat (k_1, (a3.getD i.toNat (0, ([], ([], (0, []))))).2)).getD i.toNat (0, ([], ([], (0, []))))).1, (r4_.2, ((a3.set i.toNat (k_1, (a3.getD i.toNat (0, ([], ([], (0, []))))).2)).getD i.toNat (0, ([], ([], (0, []))))).2.2))).set i.toNat ((((a3.set i.toNat (k_1, (a3.getD i.toNat (0, ([], ([], (0, []))))).2)).set i.toNat (((a3.set i.toNat (k_1, (a3.getD i.toNat (0, ([], ([], (0, []))))).2)).getD i.toNat (0, ([], ([], (0, []))))).1, (r4_.2, ((a3.set i.toNat (k_1, (a3.getD i.toNat (0, ([], ([], (0, []))))).2)).getD i.toNat (0, ([], ([], (0, []))))).2.2))).getD i.toNat (0, ([], ([], (0, []))))).1, ((((a3.set i.toNat (k_1, (a3.getD i.toNat (0, ([], ([], (0, []))))).2)).set i.toNat (((a3.set i.toNat (k_1, (a3.getD i.toNat (0, ([], ([], (0, []))))).2)).getD i.toNat (0, ([], ([], (0, []))))).1, (r4_.2, ((a3.set i.toNat (k_1, (a3.getD i.toNat (0, ([], ([], (0, []))))).2)).getD i.toNat (0, ([], ([], (0, []))))).2.2))).getD i.toNat (0, ([], ([], (0, []))))).2.1, (r5_.2, (((a3.set i.toNat (k_1, (a3.getD i.toNat (0, ([], ([], (0, []))))).2)).set i.toNat (((a3.set i.toNat (k_1, (a3.getD i.toNat (0, ([], ([], (0, []))))).2)).getD i.toNat (0, ([], ([], (0, []))))).1, (r4_.2, ((a3.set i.toNat (k_1, (a3.getD i.toNat (0, ([], ([], (0, []))))).2)).getD i.toNat (0, ([], ([], (0, []))))).2.2))).getD i.toNat (0, ([], ([], (0, []))))).2.2.2)))) (.deep true .no))]) rfl rfl (by exact ⟨⟨rfl, rfl⟩, trivial⟩) (by exact ⟨⟨⟨rfl, rfl⟩, trivial⟩, rfl, rfl, trivial⟩)))⟩
 ·exact wkz_7

noncomputable def c_laws_markModel : Con := fun
  | [.agg [.own 0 false, .own 1 false], .c (.int .i64 k_)], [(0, .sl 3 (.int .i64) o0 .shallow), (1, .sl 31 (.pair (.int .i64) (.pair (.sl (.int .i64)) (.pair (.sl (.int .i64)) (.pair (.int .i64) (.sl (.sl (.int .i64))))))) o1 (.deep true .no))] => .opt _ (laws_markModel k_ o0 o1) (fun r => .ret (.c (.int .i64 r.1)) [(0, .sl 3 y0_ r.2.1 .shallow), (1, .sl 31 y4_ r.2.2 (.deep true .no))])
  | _, _ => .fail

noncomputable def C_laws_markModel : Cfg := { y := tys, n := 14, h := 2, tab := [(39, c_laws_markIntS), (40, c_laws_markRuleS)], hand := [(39, [0]), (40, [0])] }

theorem k_laws_markModel : Entry Try.prog 14 c_laws_markModel := by
 refine wkEnt (C := C_laws_markModel) Try.f14 (wkTab k_laws_markIntS (wkTab k_laws_markRuleS wkNil)) fun _ a b k he => ?_
 unfold c_laws_markModel at he; split at he; rotate_left; exact he.elim
 rename_i k_ o0 o1
 refine wkGo0 he fun he => ?_
 refine go_bind he fun r1_ he => ?_
 refine go_bind he fun r2_ he => ?_
 exact wkz_7

noncomputable def c_laws_markIntSS_2 : Con := fun
  | [.c (.own 0 false), .c (.int .i64 k_)], [(0, .sl 23 (.sl (.int .i64)) a (.deep true .no))] => .opt _ (laws_markIntSS_2 k_ a) (fun r => .ret (.c (.int .i64 r.1)) [(0, .sl 23 (.sl y0_) r.2 (.deep true .no))])
  | _, _ => .fail

noncomputable def C_laws_markIntSS_2 : Cfg := { y := tys, n := 19, h := 1, tab := [(39, c_laws_markIntS__d)], hand := [(39, [0])] }

theorem k_laws_markIntSS_2 : Entry Try.prog 41 c_laws_markIntSS_2 := by
 refine wkEnt (C := C_laws_markIntSS_2) Try.f41 (wkTab k_laws_markIntS__d wkNil) fun _ a b k he => ?_
 unfold c_laws_markIntSS_2 at he; split at he; rotate_left; exact he.elim
 rename_i k_ a
 refine wkGo0 he fun he => ?_
 refine wkLoop (laws_markIntSS_2_l1) (fun (k_1, i, a1) => (envOf [(0, .c (.own 0 false)), (1, .c (.int .i64 k_1)), (5, .c (.int .i64 i))], [(0, .sl 23 (.sl y0_) a1 (.deep true .no))])) he (leads_au []) ?_
 rintro ⟨k_1, i, a1⟩ _ he
 refine go_if he (fun he => ?_) fun he => ?_
 ·refine go_rq he fun he => ?_
  refine go_bind he fun r2_ he => ?_
  refine go_rq he fun he => ?_
  exact ⟨_, (ok_some he :), ((leads_close [0] rfl).trans (leads_ren [] (l := [(0, .c (.own 0 false)), (1, .c (.int .i64 r2_.1)), (5, .c (.int .i64 (i + (1:Int))))]) (st' := [(0, .sl 23 (.sl y0_) (a1.set i.toNat r2_.2) (.deep true .no))]) rfl rfl (by exact ⟨⟨rfl, rfl⟩, trivial⟩) (by exact ⟨⟨⟨rfl, rfl⟩, trivial⟩, rfl, rfl, trivial⟩)))⟩
 ·exact wkz_7

noncomputable def c_laws_markRule : Con := fun
  | [.agg [.int .i64 a_0, .own 0 false, .own 1 false, .int .i64 a_3, .own 2 false], .c (.int .i64 k_)], [(0, .sl 3 (.int .i64) o0 .shallow), (1, .sl 3 (.int .i64) o1 .shallow), (2, .sl 23 (.sl (.int .i64)) o2 (.deep true .no))] => .opt _ (laws_markRule a_0 a_3 k_ o0 o1 o2) (fun r => .ret (.c (.int .i64 r.1)) [(0, .sl 3 y0_ r.2.1 .shallow), (1, .sl 3 y0_ r.2.2.1 .shallow), (2, .sl 23 (.sl y0_) r.2.2.2 (.deep true .no))])
  | _, _ => .fail

noncomputable def C_laws_markRule : Cfg := { y := tys, n := 18, h := 3, tab := [(39, c_laws_markIntS), (41, c_laws_markIntSS_2)], hand := [(39, [0]), (41, [0])] }

theorem k_laws_markRule : Entry Try.prog 15 c_laws_markRule := by
 refine wkEnt (C := C_laws_markRule) Try.f15 (wkTab k_laws_markIntS (wkTab k_laws_markIntSS_2 wkNil)) fun _ a b k he => ?_
 unfold c_laws_markRule at he; split at he; rotate_left; exact he.elim
 rename_i a_0 a_3 k_ o0 o1 o2
 refine wkGo0 he fun he => ?_
 refine go_bind he fun r1_ he => ?_
 refine go_bind he fun r2_ he => ?_
 refine go_bind he fun r3_ he => ?_
 exact wkz_7

noncomputable def c_laws_heldIntS : Con := fun
  | [.c (.imm (.int .i64) a), .c (.int .i64 k_)], [] => .opt _ (laws_heldIntS a k_) (fun r => .ret (.c (.int .i64 r)) [])
  | _, _ => .fail

noncomputable def C_laws_heldIntS : Cfg := { y := tys, n := 21, h := 0, tab := [] }

theorem k_laws_heldIntS : Entry Try.prog 42 c_laws_heldIntS := by
 refine wkEnt (C := C_laws_heldIntS) Try.f42 wkNil fun _ a b k he => ?_
 unfold c_laws_heldIntS at he; split at he; rotate_left; exact he.elim
 rename_i a k_
 refine wkGo0 he fun he => ?_
 refine wkLoop (laws_heldIntS_l1 a) (fun (k_1, i) => (envOf [(0, .c (.imm y0_ a)), (1, .c (.int .i64 k_1)), (5, .c (.int .i64 i))], [])) he (leads_au []) ?_
 rintro ⟨k_1, i⟩ _ he
 refine go_if he (fun he => ?_) fun he => ?_
 ·refine go_rq he fun he => ?_
  refine go_if he (fun he => ?_) fun he => ?_
  ·exact wkz_1
  ·exact wkz_10
 ·exact wkz_1

noncomputable def c_laws_heldIntSS : Con := fun
  | [.c (.imm (.sl (.int .i64)) a), .c (.int .i64 k_)], [] => .opt _ (laws_heldIntSS a k_) (fun r => .ret (.c (.int .i64 r)) [])
  | _, _ => .fail

noncomputable def C_laws_heldIntSS : Cfg := { y := tys, n := 21, h := 0, tab := [(42, c_laws_heldIntS)] }

theorem k_laws_heldIntSS : Entry Try.prog 43 c_laws_heldIntSS := by
 refine wkEnt (C := C_laws_heldIntSS) Try.f43 (wkTab k_laws_heldIntS wkNil) fun _ a b k he => ?_
 unfold c_laws_heldIntSS at he; split at he; rotate_left; exact he.elim
 rename_i a k_
 refine wkGo0 he fun he => ?_
 refine wkLoop (laws_heldIntSS_l1 a) (fun (k_1, i) => (envOf [(0, .c (.imm (.sl y0_) a)), (1, .c (.int .i64 k_1)), (5, .c (.int .i64 i))], [])) he (leads_au []) ?_
 rintro ⟨k_1, i⟩ _ he
 exact wkz_6

noncomputable def c_laws_heldRule : Con := fun
  | [.agg [.int .i64 a_0, .imm (.int .i64) a_1, .imm (.int .i64) a_2, .int .i64 a_3, .imm (.sl (.int .i64)) a_4], .c (.int .i64 k_)], [] => .opt _ (laws_heldRule (a_0, (a_1, (a_2, (a_3, a_4)))) k_) (fun r => .ret (.c (.int .i64 r)) [])
  | _, _ => .fail

noncomputable def C_laws_heldRule : Cfg := { y := tys, n := 24, h := 0, tab := [(42, c_laws_heldIntS), (43, c_laws_heldIntSS)] }

theorem k_laws_heldRule : Entry Try.prog 16 c_laws_heldRule := by
 refine wkEnt (C := C_laws_heldRule) Try.f16 (wkTab k_laws_heldIntS (wkTab k_laws_heldIntSS wkNil)) fun _ a b k he => ?_
 unfold c_laws_heldRule at he; split at he; rotate_left; exact he.elim
 rename_i a_0 a_1 a_2 a_3 a_4 k_
 refine wkGo0 he fun he => ?_
 refine go_bind he fun r1_ he => ?_
 refine go_if he (fun he => ?_) fun he => ?_
 ·exact wkz_7
 ·refine go_bind he fun r2_ he => ?_
  exact wkz_9

noncomputable def c_laws_FnExactCanonicalRule : Con := fun
  | [.agg [.imm (.int .i64) a0_0, .imm (.pair (.int .i64) (.pair (.sl (.int .i64)) (.pair (.sl (.int .i64)) (.pair (.int .i64) (.sl (.sl (.int .i64))))))) a0_1], .c (.int .i64 a1)], [] => .opt _ (laws_FnExactCanonicalRule (a0_0, a0_1) a1) (fun r => .ret (.c (.bool r)) [])
  | _, _ => .fail

noncomputable def C_laws_FnExactCanonicalRule_s1 : Sched := .alt 3 (.first 4 .done) .stop
noncomputable def C_laws_FnExactCanonicalRule_s2 : Sched := .alt 2 C_laws_FnExactCanonicalRule_s1 .stop
noncomputable def C_laws_FnExactCanonicalRule : Cfg := { y := tys, n := 101, h := 0, tab := [(6, c_impl_CanonicalRule), (7, c_spec_CanonicalRule), (10, c_laws_szModel), (11, c_laws_toModel), (12, c_laws_eqRule), (13, c_laws_eqModel), (14, c_laws_markModel), (15, c_laws_markRule), (16, c_laws_heldRule)], cut := [12], hand := [(14, [0]), (15, [0])], good := [7], sched := [(10, (.alt 0 (.alt 1 C_laws_FnExactCanonicalRule_s2 .stop) (.alt 1 (.alt 0 C_laws_FnExactCanonicalRule_s2 (.alt 2 (.alt 0 C_laws_FnExactCanonicalRule_s1 .stop) .stop)) .stop)))] }

theorem wkz_60 {P : Prop} (h : P := by
  refine And.intro ?_ trivial
  refine ⟨r10_, hq2, ?_⟩
  refine go_if he (fun he => ?_) fun he => ?_
  ·exact wkz_7
  ·exact ⟨_, he, (leads_au [(10000000, 2), (10000001, 6), (10000002, 8), (10000003, 9), (10000004, 26901), (10000005, 26902), (10000006, 30901), (10000007, 30902), (10000008, 34901), (10000009, 34902), (10000010, 34903)])⟩) : P := h

theorem k_laws_FnExactCanonicalRule : Entry Try.prog 4 c_laws_FnExactCanonicalRule := by
 refine wkEnt (C := C_laws_FnExactCanonicalRule) Try.f4 (wkTab k_impl_CanonicalRule (wkTab k_spec_CanonicalRule (wkTab k_laws_szModel (wkTab k_laws_toModel (wkTab k_laws_eqRule (wkTab k_laws_eqModel (wkTab k_laws_markModel (wkTab k_laws_markRule (wkTab k_laws_heldRule wkNil))))))))) fun _ a b k he => ?_
 unfold c_laws_FnExactCanonicalRule at he; split at he; rotate_left; exact he.elim
 rename_i a0_0 a0_1 a1
 refine wkGo0 he fun he => ?_
 refine go_bind he fun r1_ he => ?_
 refine go_if he (fun he => ?_) fun he => ?_
 ·exact wkz_7
 ·refine go_bind he fun r2_ he => ?_
  refine go_bind he fun r3_ he => ?_
  refine go_bind he fun r4_ he => ?_
  refine go_bind he fun r5_ he => ?_
  refine go_bind he fun r6_ he => ?_
  refine go_if2 he (fun he => ?_) fun he => ?_
  ·refine go_if he (fun he => ?_) fun he => ?_
   ·exact wkz_7
   ·refine wkSeq (laws_FnExactCanonicalRule_j1 (a0_0, a0_1) a1 r3_ r4_ r5_) (fun _ => (envOf [(1, .c (.int .i64 a1)), (2, .c (.ptr 10000000 0)), (6, .c (.ptr 10000001 0)), (7, .c (.bool r3_.1)), (8, .c (.ptr 10000002 0)), (9, .c (.ptr 10000003 0)), (10, .c (.bool r5_.1))], [(10000000, .rc [.imm y0_ (a0_0, a0_1).1, .imm y4_ (a0_0, a0_1).2]), (10000001, .rc [.int .i64 r3_.2.1, .own 10000004 false, .own 10000005 false, .int .i64 r3_.2.2.1, .imm (.sl y0_) r3_.2.2.2.1]), (10000002, .rc [.own 10000006 false, .own 10000007 false]), (10000003, .rc [.int .i64 r5_.2.1, .own 10000008 false, .own 10000009 false, .int .i64 r5_.2.2.1, .own 10000010 false]), (10000004, .sl 3 y0_ r3_.2.2.2.2.1 .shallow), (10000005, .sl 3 y0_ r3_.2.2.2.2.2 .shallow), (10000006, .sl 3 y0_ r4_.1 .shallow), (10000007, .sl 31 y4_ r4_.2 (.deep true .no)), (10000008, .sl 3 y0_ r5_.2.2.2.1 .shallow), (10000009, .sl 3 y0_ r5_.2.2.2.2.1 .shallow), (10000010, .sl 23 (.sl y0_) r5_.2.2.2.2.2 (.deep true .no))])) he ?_ ?_
    ·rintro ⟨⟩ he
     refine go_bind he fun r11_ he => ?_
     refine go_if2 he (fun he => ?_) fun he => ?_
     ·refine go_bind he fun r12_ he => ?_
      refine go_if2 he (fun he => ?_) fun he => ?_
      ·refine go_if he (fun he => ?_) fun he => ?_
       ·exact wkz_7
       ·refine go_bind he fun r13_ he => ?_
        refine go_bind he fun r14_ he => ?_
        refine go_if he (fun he => ?_) fun he => ?_
        ·exact wkz_7
        ·refine go_if he (fun he => ?_) fun he => ?_
         ·exact wkz_7
         ·refine go_bind he fun r15_ he => ?_
          refine go_bind he fun r16_ he => ?_
          refine go_bind he fun r17_ he => ?_
          refine go_if2 he (fun he => ?_) fun he => ?_
          ·refine go_if he (fun he => ?_) fun he => ?_
           ·exact wkz_7
           ·refine go_bind he fun r18_ he => ?_
            refine go_if he (fun he => ?_) fun he => ?_
            ·exact wkz_7
            ·exact wkz_8
          ·exact wkz_7
      ·exact wkz_7
     ·exact wkz_7
    ·skip
     refine And.intro (by kernel_rfl) ?_
     obtain ⟨r9_, hq1, he⟩ := ok_bind he
     obtain ⟨r10_, hq2, he⟩ := ok_bind he
     refine And.intro ?_ (And.intro ?_ (trivial))
     ·skip
      refine And.intro ?_ trivial
      refine And.intro ?_ trivial
      refine ⟨r9_, hq1, ?_⟩
      exact wkz_60
     ·skip
      refine And.intro ?_ (And.intro ?_ (trivial))
      ·skip
       refine And.intro ?_ trivial
       refine ⟨r9_, hq1, ?_⟩
       exact wkz_60
      ·skip
       refine ⟨r9_, hq1, ?_⟩
       refine And.intro ?_ trivial
       exact wkz_60
  ·exact wkz_7

end Go.AE.Y
