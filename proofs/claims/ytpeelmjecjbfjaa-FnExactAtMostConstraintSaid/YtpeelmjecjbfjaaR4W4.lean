/-
  Walks: each function keeps the contract that its model gives. No conditions.
-/
import Derived.Test.YtpeelmjecjbfjaaR4Tab
import Derived.Test.YtpeelmjecjbfjaaR4W3
namespace Go.AE.Y
open Go Go.AE Go.Proofs
set_option linter.unusedVariables false
set_option maxHeartbeats 2000000
set_option maxRecDepth 100000

noncomputable def c_laws_markIntSS : Con := fun args st => match args, st with
  | [.c (.own 0 false), .c (.int .i64 k_)], [(0, .sl 0 (.sl (.int .i64)) a (.deep false .no))] => .opt (Int × (List (List Int))) (laws_markIntSS k_ a) (fun r => .ret (.c (.int .i64 r.1)) [(0, .sl 0 (.sl (.int .i64)) r.2 (.deep false .no))])
  | _, _ => .fail

noncomputable def C_laws_markIntSS : Cfg := { y := tys, n := 19, h := 1, tab := [(31, c_laws_markIntS__d)], cut := [], hand := [(31, [0])], good := [], deep := [], sched := [] }

theorem t_laws_markIntSS : TabOk Try.prog C_laws_markIntSS := by
  refine tabOk_of ?_
  simp only [C_laws_markIntSS, List.forall_mem_cons]
  exact ⟨k_laws_markIntS__d, fun p h => by cases h⟩

theorem k_laws_markIntSS : Entry Try.prog 200 c_laws_markIntSS := by
  refine entry_by (C := C_laws_markIntSS) mixed tys_ok t_laws_markIntSS (fn := Try.f200) (c := bd Try.f200) (by kernel_rfl) (by kernel_rfl) (by kernel_rfl) (by kernel_rfl) ?_
  intro args st k he
  unfold c_laws_markIntSS at he
  split at he
  rotate_left
  · exact he.elim
  rename_i k_ a
  have he : Ok (laws_markIntSS k_ a) (fun r => k (.c (.int .i64 r.1)) [(0, .sl 0 (.sl (.int .i64)) r.2 (.deep false .no))]) := he
  refine ⟨rfl, rfl, ?_⟩
  refine loop_model mixed tys_ok t_laws_markIntSS (S := Int × Int × (List (List Int))) (I := (fun (k_1, i, a1) => (envOf [(0, .c (.own 0 false)), (1, .c (.int .i64 k_1)), (5, .c (.int .i64 i))], [(0, .sl 0 (.sl (.int .i64)) a1 (.deep false .no))]))) (f := laws_markIntSS_l1) (K := (fun r => k (.c (.int .i64 r.1)) [(0, .sl 0 (.sl (.int .i64)) r.2 (.deep false .no))])) he (leads_ren [] (l := [(0, .c (.own 0 false)), (1, .c (.int .i64 k_)), (5, .c (.int .i64 (0:Int)))]) (st' := [(0, .sl 0 (.sl (.int .i64)) a (.deep false .no))]) rfl rfl ⟨⟨rfl, rfl⟩, trivial⟩ ⟨⟨⟨rfl, rfl⟩, trivial⟩, rfl, rfl, trivial⟩) ?_
  rintro ⟨k_1, i, a1⟩ J1 he
  refine And.intro (fun hb => ?_) (fun hb => ?_)
  · have he := ok_t he hb
    have he := ok_rq he
    refine And.intro he.1 ?_
    have he := he.2
    obtain ⟨r2_, hr, he⟩ := ok_bind he
    refine ⟨r2_, hr, ?_⟩
    have he := ok_rq he
    refine And.intro he.1 ?_
    have he := he.2
    have he := ok_some he
    exact ⟨(r2_.1, (i + (1:Int)), (a1.set i.toNat r2_.2)), he, ((leads_close [0] rfl).trans (leads_ren [] (l := [(0, .c (.own 0 false)), (1, .c (.int .i64 r2_.1)), (5, .c (.int .i64 (i + (1:Int))))]) (st' := [(0, .sl 0 (.sl (.int .i64)) (a1.set i.toNat r2_.2) (.deep false .no))]) rfl rfl (by exact ⟨⟨rfl, rfl⟩, trivial⟩) (by exact ⟨⟨⟨rfl, rfl⟩, trivial⟩, rfl, rfl, trivial⟩)))⟩
  · have he := ok_f he hb
    have he := ok_some he
    exact ⟨rfl, _, _, (leads_ren [] (l := [(4, .c (.int .i64 k_1))]) (st' := [(0, .sl 0 (.sl (.int .i64)) a1 (.deep false .no))]) rfl rfl ⟨⟨rfl, rfl⟩, trivial⟩ ⟨rfl, trivial⟩), he⟩

noncomputable def c_laws_markRuleS : Con := fun args st => match args, st with
  | [.c (.own 0 false), .c (.int .i64 k_)], [(0, .sl 124 (.pair (.int .i64) (.pair (.sl (.int .i64)) (.pair (.sl (.int .i64)) (.pair (.int .i64) (.sl (.sl (.int .i64))))))) a (.deep true .no))] => .opt (Int × (List (Int × (List Int) × (List Int) × Int × (List (List Int))))) (laws_markRuleS k_ a) (fun r => .ret (.c (.int .i64 r.1)) [(0, .sl 124 (.pair (.int .i64) (.pair (.sl (.int .i64)) (.pair (.sl (.int .i64)) (.pair (.int .i64) (.sl (.sl (.int .i64))))))) r.2 (.deep true .no))])
  | _, _ => .fail

noncomputable def C_laws_markRuleS : Cfg := { y := tys, n := 48, h := 1, tab := [(31, c_laws_markIntS__d), (200, c_laws_markIntSS)], cut := [8, 9], hand := [(31, [0]), (200, [0])], good := [], deep := [], sched := [] }

theorem t_laws_markRuleS : TabOk Try.prog C_laws_markRuleS := by
  refine tabOk_of ?_
  simp only [C_laws_markRuleS, List.forall_mem_cons]
  exact ⟨k_laws_markIntS__d, k_laws_markIntSS, fun p h => by cases h⟩

theorem k_laws_markRuleS : Entry Try.prog 118 c_laws_markRuleS := by
  refine entry_by (C := C_laws_markRuleS) mixed tys_ok t_laws_markRuleS (fn := Try.f118) (c := bd Try.f118) (by kernel_rfl) (by kernel_rfl) (by kernel_rfl) (by kernel_rfl) ?_
  intro args st k he
  unfold c_laws_markRuleS at he
  split at he
  rotate_left
  · exact he.elim
  rename_i k_ a
  have he : Ok (laws_markRuleS k_ a) (fun r => k (.c (.int .i64 r.1)) [(0, .sl 124 (.pair (.int .i64) (.pair (.sl (.int .i64)) (.pair (.sl (.int .i64)) (.pair (.int .i64) (.sl (.sl (.int .i64))))))) r.2 (.deep true .no))]) := he
  refine ⟨rfl, rfl, ?_⟩
  refine loop_model mixed tys_ok t_laws_markRuleS (S := Int × Int × (List (Int × (List Int) × (List Int) × Int × (List (List Int))))) (I := (fun (k_1, i, a3) => (envOf [(0, .c (.own 0 false)), (1, .c (.int .i64 k_1)), (5, .c (.int .i64 i))], [(0, .sl 124 (.pair (.int .i64) (.pair (.sl (.int .i64)) (.pair (.sl (.int .i64)) (.pair (.int .i64) (.sl (.sl (.int .i64))))))) a3 (.deep true .no))]))) (f := laws_markRuleS_l1) (K := (fun r => k (.c (.int .i64 r.1)) [(0, .sl 124 (.pair (.int .i64) (.pair (.sl (.int .i64)) (.pair (.sl (.int .i64)) (.pair (.int .i64) (.sl (.sl (.int .i64))))))) r.2 (.deep true .no))])) he (leads_ren [] (l := [(0, .c (.own 0 false)), (1, .c (.int .i64 k_)), (5, .c (.int .i64 (0:Int)))]) (st' := [(0, .sl 124 (.pair (.int .i64) (.pair (.sl (.int .i64)) (.pair (.sl (.int .i64)) (.pair (.int .i64) (.sl (.sl (.int .i64))))))) a (.deep true .no))]) rfl rfl ⟨⟨rfl, rfl⟩, trivial⟩ ⟨⟨⟨rfl, rfl⟩, trivial⟩, rfl, rfl, trivial⟩) ?_
  rintro ⟨k_1, i, a3⟩ J1 he
  refine And.intro (fun hb => ?_) (fun hb => ?_)
  · have he := ok_t he hb
    have he := ok_rq he
    refine And.intro he.1 ?_
    have he := he.2
    have he := ok_rq he
    refine And.intro he.1 ?_
    have he := he.2
    have he := ok_rq he
    refine And.intro he.1 ?_
    have he := he.2
    obtain ⟨r4_, hr, he⟩ := ok_bind he
    refine ⟨r4_, hr, ?_⟩
    refine seq_model mixed tys_ok t_laws_markRuleS (S := Int × (List (Int × (List Int) × (List Int) × Int × (List (List Int))))) (I := (fun (k_3, a4) => (envOf [(0, .c (.own 0 false)), (1, .c (.int .i64 k_3)), (5, .c (.int .i64 i))], [(0, .sl 124 (.pair (.int .i64) (.pair (.sl (.int .i64)) (.pair (.sl (.int .i64)) (.pair (.int .i64) (.sl (.sl (.int .i64))))))) a4 (.deep true .no))]))) (B := fun s => Ok (laws_markRuleS_j1 i s) (LK J1 (fun r => k (.c (.int .i64 r.1)) [(0, .sl 124 (.pair (.int .i64) (.pair (.sl (.int .i64)) (.pair (.sl (.int .i64)) (.pair (.int .i64) (.sl (.sl (.int .i64))))))) r.2 (.deep true .no))]))) ?_ ?_
    · rintro ⟨k_3, a4⟩ he
      refine seq_model mixed tys_ok t_laws_markRuleS (S := (List (Int × (List Int) × (List Int) × Int × (List (List Int))))) (I := (fun a5 => (envOf [(0, .c (.own 0 false)), (1, .c (.int .i64 k_3)), (5, .c (.int .i64 i))], [(0, .sl 124 (.pair (.int .i64) (.pair (.sl (.int .i64)) (.pair (.sl (.int .i64)) (.pair (.int .i64) (.sl (.sl (.int .i64))))))) a5 (.deep true .no))]))) (B := fun s => Ok (laws_markRuleS_j2 i k_3 s) (LK J1 (fun r => k (.c (.int .i64 r.1)) [(0, .sl 124 (.pair (.int .i64) (.pair (.sl (.int .i64)) (.pair (.sl (.int .i64)) (.pair (.int .i64) (.sl (.sl (.int .i64))))))) r.2 (.deep true .no))]))) ?_ ?_
      · rintro a5 he
        have he := ok_rq he
        refine And.intro he.1 ?_
        have he := he.2
        have he := ok_rq he
        refine And.intro he.1 ?_
        have he := he.2
        obtain ⟨r6_, hr, he⟩ := ok_bind he
        refine ⟨r6_, hr, ?_⟩
        have he := ok_rq he
        refine And.intro he.1 ?_
        have he := he.2
        have he := ok_some he
        exact ⟨(r6_.1, (i + (1:Int)), (a5.set i.toNat ((a5.getD i.toNat (0, ([], ([], (0, []))))).1, ((a5.getD i.toNat (0, ([], ([], (0, []))))).2.1, ((a5.getD i.toNat (0, ([], ([], (0, []))))).2.2.1, ((a5.getD i.toNat (0, ([], ([], (0, []))))).2.2.2.1, r6_.2)))))), he, ((leads_close [0] rfl).trans (leads_ren [] (l := [(0, .c (.own 0 false)), (1, .c (.int .i64 r6_.1)), (5, .c (.int .i64 (i + (1:Int))))]) (st' := [(0, .sl 124 (.pair (.int .i64) (.pair (.sl (.int .i64)) (.pair (.sl (.int .i64)) (.pair (.int .i64) (.sl (.sl (.int .i64))))))) (a5.set i.toNat ((a5.getD i.toNat (0, ([], ([], (0, []))))).1, ((a5.getD i.toNat (0, ([], ([], (0, []))))).2.1, ((a5.getD i.toNat (0, ([], ([], (0, []))))).2.2.1, ((a5.getD i.toNat (0, ([], ([], (0, []))))).2.2.2.1, r6_.2))))) (.deep true .no))]) rfl rfl (by exact ⟨⟨rfl, rfl⟩, trivial⟩) (by exact ⟨⟨⟨rfl, rfl⟩, trivial⟩, rfl, rfl, trivial⟩)))⟩
      · skip
        have he := ok_rq he
        refine And.intro he.1 ?_
        have he := he.2
        exact ⟨(a4.set i.toNat ((a4.getD i.toNat (0, ([], ([], (0, []))))).1, ((a4.getD i.toNat (0, ([], ([], (0, []))))).2.1, ((a4.getD i.toNat (0, ([], ([], (0, []))))).2.2.1, (k_3, (a4.getD i.toNat (0, ([], ([], (0, []))))).2.2.2.2))))), he, (leads_ren [] (l := [(0, .c (.own 0 false)), (1, .c (.int .i64 k_3)), (5, .c (.int .i64 i))]) (st' := [(0, .sl 124 (.pair (.int .i64) (.pair (.sl (.int .i64)) (.pair (.sl (.int .i64)) (.pair (.int .i64) (.sl (.sl (.int .i64))))))) (a4.set i.toNat ((a4.getD i.toNat (0, ([], ([], (0, []))))).1, ((a4.getD i.toNat (0, ([], ([], (0, []))))).2.1, ((a4.getD i.toNat (0, ([], ([], (0, []))))).2.2.1, (k_3, (a4.getD i.toNat (0, ([], ([], (0, []))))).2.2.2.2))))) (.deep true .no))]) rfl rfl ⟨⟨rfl, rfl⟩, trivial⟩ ⟨⟨⟨rfl, rfl⟩, trivial⟩, rfl, rfl, trivial⟩)⟩
    · skip
      have he := ok_rq he
      refine And.intro he.1 ?_
      have he := he.2
      obtain ⟨r5_, hr, he⟩ := ok_bind he
      refine ⟨r5_, hr, ?_⟩
      exact ⟨(r5_.1, (((a3.set i.toNat (k_1, (a3.getD i.toNat (0, ([], ([], (0, []))))).2)).set i.toNat (((a3.set i.toNat (k_1, (a3.getD i.toNat (0, ([], ([], (0, []))))).2)).getD i.toNat (0, ([], ([], (0, []))))).1, (r4_.2, ((a3.set i.toNat (k_1, (a3.getD i.toNat (0, ([], ([], (0, []))))).2)).getD i.toNat (0, ([], ([], (0, []))))).2.2))).set i.toNat ((((a3.set i.toNat (k_1, (a3.getD i.toNat (0, ([], ([], (0, []))))).2)).set i.toNat (((a3.set i.toNat (k_1, (a3.getD i.toNat (0, ([], ([], (0, []))))).2)).getD i.toNat (0, ([], ([], (0, []))))).1, (r4_.2, ((a3.set i.toNat (k_1, (a3.getD i.toNat (0, ([], ([], (0, []))))).2)).getD i.toNat (0, ([], ([], (0, []))))).2.2))).getD i.toNat (0, ([], ([], (0, []))))).1, ((((a3.set i.toNat (k_1, (a3.getD i.toNat (0, ([], ([], (0, []))))).2)).set i.toNat (((a3.set i.toNat (k_1, (a3.getD i.toNat (0, ([], ([], (0, []))))).2)).getD i.toNat (0, ([], ([], (0, []))))).1, (r4_.2, ((a3.set i.toNat (k_1, (a3.getD i.toNat (0, ([], ([], (0, []))))).2)).getD i.toNat (0, ([], ([], (0, []))))).2.2))).getD i.toNat (0, ([], ([], (0, []))))).2.1, (r5_.2, (((a3.set i.toNat (k_1, (a3.getD i.toNat (0, ([], ([], (0, []))))).2)).set i.toNat (((a3.set i.toNat (k_1, (a3.getD i.toNat (0, ([], ([], (0, []))))).2)).getD i.toNat (0, ([], ([], (0, []))))).1, (r4_.2, ((a3.set i.toNat (k_1, (a3.getD i.toNat (0, ([], ([], (0, []))))).2)).getD i.toNat (0, ([], ([], (0, []))))).2.2))).getD i.toNat (0, ([], ([], (0, []))))).2.2.2))))), he, ((leads_close [0] rfl).trans (leads_ren [] (l := [(0, .c (.own 0 false)), (1, .c (.int .i64 r5_.1)), (5, .c (.int .i64 i))]) (st' := [(0, .sl 124 (.pair (.int .i64) (.pair (.sl (.int .i64)) (.pair (.sl (.int .i64)) (.pair (.int .i64) (.sl (.sl (.int .i64))))))) (((a3.set i.toNat (k_1, (a3.getD i.toNat (0, ([], ([], (0, []))))).2)).set i.toNat (((a3.set i.toNat (k_1, (a3.getD i.toNat (0, ([], ([], (0, []))))).2)).getD i.toNat (0, ([], ([], (0, []))))).1, (r4_.2, ((a3.set i.toNat (k_1, (a3.getD i.toNat (0, ([], ([], (0, []))))).2)).getD i.toNat (0, ([], ([], (0, []))))).2.2))).set i.toNat ((((a3.set i.toNat (k_1, (a3.getD i.toNat (0, ([], ([], (0, []))))).2)).set i.toNat (((a3.set i.toNat (k_1, (a3.getD i.toNat (0, ([], ([], (0, []))))).2)).getD i.toNat (0, ([], ([], (0, []))))).1, (r4_.2, ((a3.set i.toNat (k_1, (a3.getD i.toNat (0, ([], ([], (0, []))))).2)).getD i.toNat (0, ([], ([], (0, []))))).2.2))).getD i.toNat (0, ([], ([], (0, []))))).1, ((((a3.set i.toNat (k_1, (a3.getD i.toNat (0, ([], ([], (0, []))))).2)).set i.toNat (((a3.set i.toNat (k_1, (a3.getD i.toNat (0, ([], ([], (0, []))))).2)).getD i.toNat (0, ([], ([], (0, []))))).1, (r4_.2, ((a3.set i.toNat (k_1, (a3.getD i.toNat (0, ([], ([], (0, []))))).2)).getD i.toNat (0, ([], ([], (0, []))))).2.2))).getD i.toNat (0, ([], ([], (0, []))))).2.1, (r5_.2, (((a3.set i.toNat (k_1, (a3.getD i.toNat (0, ([], ([], (0, []))))).2)).set i.toNat (((a3.set i.toNat (k_1, (a3.getD i.toNat (0, ([], ([], (0, []))))).2)).getD i.toNat (0, ([], ([], (0, []))))).1, (r4_.2, ((a3.set i.toNat (k_1, (a3.getD i.toNat (0, ([], ([], (0, []))))).2)).getD i.toNat (0, ([], ([], (0, []))))).2.2))).getD i.toNat (0, ([], ([], (0, []))))).2.2.2)))) (.deep true .no))]) rfl rfl (by exact ⟨⟨rfl, rfl⟩, trivial⟩) (by exact ⟨⟨⟨rfl, rfl⟩, trivial⟩, rfl, rfl, trivial⟩)))⟩
  · have he := ok_f he hb
    have he := ok_some he
    exact ⟨rfl, _, _, (leads_ren [] (l := [(4, .c (.int .i64 k_1))]) (st' := [(0, .sl 124 (.pair (.int .i64) (.pair (.sl (.int .i64)) (.pair (.sl (.int .i64)) (.pair (.int .i64) (.sl (.sl (.int .i64))))))) a3 (.deep true .no))]) rfl rfl ⟨⟨rfl, rfl⟩, trivial⟩ ⟨rfl, trivial⟩), he⟩

noncomputable def c_laws_markModel : Con := fun args st => match args, st with
  | [.agg [.own 0 false, .own 1 false], .c (.int .i64 k_)], [(0, .sl 3 (.int .i64) o0 .shallow), (1, .sl 124 (.pair (.int .i64) (.pair (.sl (.int .i64)) (.pair (.sl (.int .i64)) (.pair (.int .i64) (.sl (.sl (.int .i64))))))) o1 (.deep true .no))] => .opt (Int × (List Int) × (List (Int × (List Int) × (List Int) × Int × (List (List Int))))) (laws_markModel k_ o0 o1) (fun r => .ret (.c (.int .i64 r.1)) [(0, .sl 3 (.int .i64) r.2.1 .shallow), (1, .sl 124 (.pair (.int .i64) (.pair (.sl (.int .i64)) (.pair (.sl (.int .i64)) (.pair (.int .i64) (.sl (.sl (.int .i64))))))) r.2.2 (.deep true .no))])
  | _, _ => .fail

noncomputable def C_laws_markModel : Cfg := { y := tys, n := 14, h := 2, tab := [(31, c_laws_markIntS), (118, c_laws_markRuleS)], cut := [], hand := [(31, [0]), (118, [0])], good := [], deep := [], sched := [] }

theorem t_laws_markModel : TabOk Try.prog C_laws_markModel := by
  refine tabOk_of ?_
  simp only [C_laws_markModel, List.forall_mem_cons]
  exact ⟨k_laws_markIntS, k_laws_markRuleS, fun p h => by cases h⟩

theorem k_laws_markModel : Entry Try.prog 30 c_laws_markModel := by
  refine entry_by (C := C_laws_markModel) mixed tys_ok t_laws_markModel (fn := Try.f30) (c := bd Try.f30) (by kernel_rfl) (by kernel_rfl) (by kernel_rfl) (by kernel_rfl) ?_
  intro args st k he
  unfold c_laws_markModel at he
  split at he
  rotate_left
  · exact he.elim
  rename_i k_ o0 o1
  have he : Ok (laws_markModel k_ o0 o1) (fun r => k (.c (.int .i64 r.1)) [(0, .sl 3 (.int .i64) r.2.1 .shallow), (1, .sl 124 (.pair (.int .i64) (.pair (.sl (.int .i64)) (.pair (.sl (.int .i64)) (.pair (.int .i64) (.sl (.sl (.int .i64))))))) r.2.2 (.deep true .no))]) := he
  refine ⟨rfl, rfl, ?_⟩
  obtain ⟨r1_, hr, he⟩ := ok_bind he
  refine ⟨r1_, hr, ?_⟩
  obtain ⟨r2_, hr, he⟩ := ok_bind he
  refine ⟨r2_, hr, ?_⟩
  have he := ok_some he
  exact ⟨rfl, _, _, (leads_ren [] (l := [(4, .c (.int .i64 r2_.1))]) (st' := [(0, .sl 3 (.int .i64) r1_.2 .shallow), (1, .sl 124 (.pair (.int .i64) (.pair (.sl (.int .i64)) (.pair (.sl (.int .i64)) (.pair (.int .i64) (.sl (.sl (.int .i64))))))) r2_.2 (.deep true .no))]) rfl rfl ⟨⟨rfl, rfl⟩, ⟨rfl, rfl⟩, trivial⟩ ⟨rfl, trivial⟩), he⟩

noncomputable def c_laws_markTermS : Con := fun args st => match args, st with
  | [.c (.own 0 false), .c (.int .i64 k_)], [(0, .sl 140 (.pair (.int .i64) (.int .i64)) a .shallow)] => .opt (Int × (List (Int × Int))) (laws_markTermS k_ a) (fun r => .ret (.c (.int .i64 r.1)) [(0, .sl 140 (.pair (.int .i64) (.int .i64)) r.2 .shallow)])
  | _, _ => .fail

noncomputable def C_laws_markTermS : Cfg := { y := tys, n := 27, h := 1, tab := [], cut := [7], hand := [], good := [], deep := [], sched := [] }

theorem t_laws_markTermS : TabOk Try.prog C_laws_markTermS := tabOk_of (fun p h => by cases h)

theorem k_laws_markTermS : Entry Try.prog 119 c_laws_markTermS := by
  refine entry_by (C := C_laws_markTermS) mixed tys_ok t_laws_markTermS (fn := Try.f119) (c := bd Try.f119) (by kernel_rfl) (by kernel_rfl) (by kernel_rfl) (by kernel_rfl) ?_
  intro args st k he
  unfold c_laws_markTermS at he
  split at he
  rotate_left
  · exact he.elim
  rename_i k_ a
  have he : Ok (laws_markTermS k_ a) (fun r => k (.c (.int .i64 r.1)) [(0, .sl 140 (.pair (.int .i64) (.int .i64)) r.2 .shallow)]) := he
  refine ⟨rfl, rfl, ?_⟩
  refine loop_model mixed tys_ok t_laws_markTermS (S := Int × Int × (List (Int × Int))) (I := (fun (k_1, i, a2) => (envOf [(0, .c (.own 0 false)), (1, .c (.int .i64 k_1)), (5, .c (.int .i64 i))], [(0, .sl 140 (.pair (.int .i64) (.int .i64)) a2 .shallow)]))) (f := laws_markTermS_l1) (K := (fun r => k (.c (.int .i64 r.1)) [(0, .sl 140 (.pair (.int .i64) (.int .i64)) r.2 .shallow)])) he (leads_ren [] (l := [(0, .c (.own 0 false)), (1, .c (.int .i64 k_)), (5, .c (.int .i64 (0:Int)))]) (st' := [(0, .sl 140 (.pair (.int .i64) (.int .i64)) a .shallow)]) rfl rfl ⟨⟨rfl, rfl⟩, trivial⟩ ⟨⟨⟨rfl, rfl⟩, trivial⟩, rfl, rfl, trivial⟩) ?_
  rintro ⟨k_1, i, a2⟩ J1 he
  refine And.intro (fun hb => ?_) (fun hb => ?_)
  · have he := ok_t he hb
    have he := ok_rq he
    refine And.intro he.1 ?_
    have he := he.2
    have he := ok_rq he
    refine And.intro he.1 ?_
    have he := he.2
    refine seq_model mixed tys_ok t_laws_markTermS (S := (List (Int × Int))) (I := (fun a3 => (envOf [(0, .c (.own 0 false)), (1, .c (.int .i64 (k_1 + (1:Int)))), (5, .c (.int .i64 i))], [(0, .sl 140 (.pair (.int .i64) (.int .i64)) a3 .shallow)]))) (B := fun s => Ok (laws_markTermS_j1 k_1 i s) (LK J1 (fun r => k (.c (.int .i64 r.1)) [(0, .sl 140 (.pair (.int .i64) (.int .i64)) r.2 .shallow)]))) ?_ ?_
    · rintro a3 he
      have he := ok_rq he
      refine And.intro he.1 ?_
      have he := he.2
      have he := ok_rq he
      refine And.intro he.1 ?_
      have he := he.2
      have he := ok_some he
      exact ⟨(((k_1 + (1:Int)) + (1:Int)), (i + (1:Int)), a3), he, (leads_ren [] (l := [(0, .c (.own 0 false)), (1, .c (.int .i64 ((k_1 + (1:Int)) + (1:Int)))), (5, .c (.int .i64 (i + (1:Int))))]) (st' := [(0, .sl 140 (.pair (.int .i64) (.int .i64)) a3 .shallow)]) rfl rfl ⟨⟨rfl, rfl⟩, trivial⟩ ⟨⟨⟨rfl, rfl⟩, trivial⟩, rfl, rfl, trivial⟩)⟩
    · skip
      have he := ok_rq he
      refine And.intro he.1 ?_
      have he := he.2
      exact ⟨((a2.set i.toNat (k_1, (a2.getD i.toNat (0, 0)).2)).set i.toNat (((a2.set i.toNat (k_1, (a2.getD i.toNat (0, 0)).2)).getD i.toNat (0, 0)).1, (k_1 + (1:Int)))), he, (leads_ren [] (l := [(0, .c (.own 0 false)), (1, .c (.int .i64 (k_1 + (1:Int)))), (5, .c (.int .i64 i))]) (st' := [(0, .sl 140 (.pair (.int .i64) (.int .i64)) ((a2.set i.toNat (k_1, (a2.getD i.toNat (0, 0)).2)).set i.toNat (((a2.set i.toNat (k_1, (a2.getD i.toNat (0, 0)).2)).getD i.toNat (0, 0)).1, (k_1 + (1:Int)))) .shallow)]) rfl rfl ⟨⟨rfl, rfl⟩, trivial⟩ ⟨⟨⟨rfl, rfl⟩, trivial⟩, rfl, rfl, trivial⟩)⟩
  · have he := ok_f he hb
    have he := ok_some he
    exact ⟨rfl, _, _, (leads_ren [] (l := [(4, .c (.int .i64 k_1))]) (st' := [(0, .sl 140 (.pair (.int .i64) (.int .i64)) a2 .shallow)]) rfl rfl ⟨⟨rfl, rfl⟩, trivial⟩ ⟨rfl, trivial⟩), he⟩

noncomputable def c_laws_markConstraint : Con := fun args st => match args, st with
  | [.agg [.own 0 false, .int .i64 a_1], .c (.int .i64 k_)], [(0, .sl 140 (.pair (.int .i64) (.int .i64)) o0 .shallow)] => .opt (Int × (List (Int × Int))) (laws_markConstraint a_1 k_ o0) (fun r => .ret (.c (.int .i64 r.1)) [(0, .sl 140 (.pair (.int .i64) (.int .i64)) r.2 .shallow)])
  | _, _ => .fail

noncomputable def C_laws_markConstraint : Cfg := { y := tys, n := 10, h := 1, tab := [(119, c_laws_markTermS)], cut := [], hand := [(119, [0])], good := [], deep := [], sched := [] }

theorem t_laws_markConstraint : TabOk Try.prog C_laws_markConstraint := by
  refine tabOk_of ?_
  simp only [C_laws_markConstraint, List.forall_mem_cons]
  exact ⟨k_laws_markTermS, fun p h => by cases h⟩

theorem k_laws_markConstraint : Entry Try.prog 32 c_laws_markConstraint := by
  refine entry_by (C := C_laws_markConstraint) mixed tys_ok t_laws_markConstraint (fn := Try.f32) (c := bd Try.f32) (by kernel_rfl) (by kernel_rfl) (by kernel_rfl) (by kernel_rfl) ?_
  intro args st k he
  unfold c_laws_markConstraint at he
  split at he
  rotate_left
  · exact he.elim
  rename_i a_1 k_ o0
  have he : Ok (laws_markConstraint a_1 k_ o0) (fun r => k (.c (.int .i64 r.1)) [(0, .sl 140 (.pair (.int .i64) (.int .i64)) r.2 .shallow)]) := he
  refine ⟨rfl, rfl, ?_⟩
  obtain ⟨r1_, hr, he⟩ := ok_bind he
  refine ⟨r1_, hr, ?_⟩
  have he := ok_some he
  exact ⟨rfl, _, _, (leads_ren [] (l := [(4, .c (.int .i64 r1_.1))]) (st' := [(0, .sl 140 (.pair (.int .i64) (.int .i64)) r1_.2 .shallow)]) rfl rfl ⟨⟨rfl, rfl⟩, trivial⟩ ⟨rfl, trivial⟩), he⟩

noncomputable def c_laws_heldTermS : Con := fun args st => match args, st with
  | [.c (.imm (.pair (.int .i64) (.int .i64)) a), .c (.int .i64 k_)], [] => .opt (Int) (laws_heldTermS a k_) (fun r => .ret (.c (.int .i64 r)) [])
  | _, _ => .fail

noncomputable def C_laws_heldTermS : Cfg := { y := tys, n := 31, h := 0, tab := [], cut := [], hand := [], good := [], deep := [], sched := [] }

theorem t_laws_heldTermS : TabOk Try.prog C_laws_heldTermS := tabOk_of (fun p h => by cases h)

theorem k_laws_heldTermS : Entry Try.prog 120 c_laws_heldTermS := by
  refine entry_by (C := C_laws_heldTermS) mixed tys_ok t_laws_heldTermS (fn := Try.f120) (c := bd Try.f120) (by kernel_rfl) (by kernel_rfl) (by kernel_rfl) (by kernel_rfl) ?_
  intro args st k he
  unfold c_laws_heldTermS at he
  split at he
  rotate_left
  · exact he.elim
  rename_i a k_
  have he : Ok (laws_heldTermS a k_) (fun r => k (.c (.int .i64 r)) []) := he
  refine ⟨rfl, rfl, ?_⟩
  refine loop_model mixed tys_ok t_laws_heldTermS (S := Int × Int) (I := (fun (k_1, i) => (envOf [(0, .c (.imm (.pair (.int .i64) (.int .i64)) a)), (1, .c (.int .i64 k_1)), (5, .c (.int .i64 i))], []))) (f := laws_heldTermS_l1 a) (K := (fun r => k (.c (.int .i64 r)) [])) he (leads_ren [] (l := [(0, .c (.imm (.pair (.int .i64) (.int .i64)) a)), (1, .c (.int .i64 k_)), (5, .c (.int .i64 (0:Int)))]) (st' := []) rfl rfl trivial ⟨.inl rfl, rfl, rfl, trivial⟩) ?_
  rintro ⟨k_1, i⟩ J1 he
  refine And.intro (fun hb => ?_) (fun hb => ?_)
  · have he := ok_t he hb
    have he := ok_rq he
    refine And.intro he.1 ?_
    have he := he.2
    refine And.intro (fun hb => ?_) (fun hb => ?_)
    · have he := ok_t he hb
      have he := ok_some he
      exact ⟨rfl, _, _, Leads.refl _ _, he⟩
    · have he := ok_f he hb
      have he := ok_rq he
      refine And.intro he.1 ?_
      have he := he.2
      have he := ok_rq he
      refine And.intro he.1 ?_
      have he := he.2
      refine And.intro (fun hb => ?_) (fun hb => ?_)
      · have he := ok_t he hb
        have he := ok_some he
        exact ⟨rfl, _, _, Leads.refl _ _, he⟩
      · have he := ok_f he hb
        have he := ok_rq he
        refine And.intro he.1 ?_
        have he := he.2
        have he := ok_rq he
        refine And.intro he.1 ?_
        have he := he.2
        have he := ok_some he
        exact ⟨(((k_1 + (1:Int)) + (1:Int)), (i + (1:Int))), he, (leads_ren [] (l := [(0, .c (.imm (.pair (.int .i64) (.int .i64)) a)), (1, .c (.int .i64 ((k_1 + (1:Int)) + (1:Int)))), (5, .c (.int .i64 (i + (1:Int))))]) (st' := []) rfl rfl trivial ⟨.inl rfl, rfl, rfl, trivial⟩)⟩
  · have he := ok_f he hb
    have he := ok_some he
    exact ⟨rfl, _, _, Leads.refl _ _, he⟩

noncomputable def c_laws_heldConstraint : Con := fun args st => match args, st with
  | [.agg [.imm (.pair (.int .i64) (.int .i64)) a_0, .int .i64 a_1], .c (.int .i64 k_)], [] => .opt (Int) (laws_heldConstraint (a_0, a_1) k_) (fun r => .ret (.c (.int .i64 r)) [])
  | _, _ => .fail

noncomputable def C_laws_heldConstraint : Cfg := { y := tys, n := 12, h := 0, tab := [(120, c_laws_heldTermS)], cut := [], hand := [], good := [], deep := [], sched := [] }

theorem t_laws_heldConstraint : TabOk Try.prog C_laws_heldConstraint := by
  refine tabOk_of ?_
  simp only [C_laws_heldConstraint, List.forall_mem_cons]
  exact ⟨k_laws_heldTermS, fun p h => by cases h⟩

theorem k_laws_heldConstraint : Entry Try.prog 33 c_laws_heldConstraint := by
  refine entry_by (C := C_laws_heldConstraint) mixed tys_ok t_laws_heldConstraint (fn := Try.f33) (c := bd Try.f33) (by kernel_rfl) (by kernel_rfl) (by kernel_rfl) (by kernel_rfl) ?_
  intro args st k he
  unfold c_laws_heldConstraint at he
  split at he
  rotate_left
  · exact he.elim
  rename_i a_0 a_1 k_
  have he : Ok (laws_heldConstraint (a_0, a_1) k_) (fun r => k (.c (.int .i64 r)) []) := he
  refine ⟨rfl, rfl, ?_⟩
  obtain ⟨r1_, hr, he⟩ := ok_bind he
  refine ⟨r1_, hr, ?_⟩
  refine And.intro (fun hb => ?_) (fun hb => ?_)
  · have he := ok_t he hb
    have he := ok_some he
    exact ⟨rfl, _, _, (leads_ren [] (l := [(4, .c (.int .i64 (-1:Int)))]) (st' := []) rfl rfl trivial ⟨rfl, trivial⟩), he⟩
  · have he := ok_f he hb
    have he := ok_some he
    exact ⟨rfl, _, _, (leads_ren [] (l := [(4, .c (.int .i64 r1_))]) (st' := []) rfl rfl trivial ⟨rfl, trivial⟩), he⟩

noncomputable def c_laws_FnExactAtMostConstraint : Con := fun args st => match args, st with
  | [.agg [.imm (.int .i64) a0_0, .imm (.pair (.int .i64) (.pair (.sl (.int .i64)) (.pair (.sl (.int .i64)) (.pair (.int .i64) (.sl (.sl (.int .i64))))))) a0_1], .c (.imm (.int .i64) a1), .c (.int .i64 a2)], [] => .opt (Bool) (laws_FnExactAtMostConstraint (a0_0, a0_1) a1 a2) (fun r => .ret (.c (.bool r)) [])
  | _, _ => .fail

noncomputable def C_laws_FnExactAtMostConstraint : Cfg := { y := tys, n := 122, h := 0, tab := [(17, c_impl_AtMostConstraint), (18, c_spec_AtMostConstraint), (24, c_laws_szModel), (25, c_laws_toModel), (26, c_laws_toIntS), (27, c_laws_eqConstraint), (28, c_laws_eqModel), (29, c_laws_eqIntS), (30, c_laws_markModel), (31, c_laws_markIntS), (32, c_laws_markConstraint), (33, c_laws_heldConstraint)], cut := [15], hand := [(30, [0]), (31, [0]), (32, [0])], good := [], deep := [], sched := [(13, (.alt 0 (.alt 1 (.alt 2 (.alt 3 (.first 4 .done) .stop) .stop) .stop) (.alt 1 (.alt 0 (.alt 2 (.alt 3 (.first 4 .done) .stop) .stop) (.alt 2 (.alt 0 (.alt 3 (.first 4 .done) .stop) .stop) .stop)) .stop)))] }

theorem t_laws_FnExactAtMostConstraint : TabOk Try.prog C_laws_FnExactAtMostConstraint := by
  refine tabOk_of ?_
  simp only [C_laws_FnExactAtMostConstraint, List.forall_mem_cons]
  exact ⟨k_impl_AtMostConstraint, k_spec_AtMostConstraint, k_laws_szModel, k_laws_toModel, k_laws_toIntS, k_laws_eqConstraint, k_laws_eqModel, k_laws_eqIntS, k_laws_markModel, k_laws_markIntS, k_laws_markConstraint, k_laws_heldConstraint, fun p h => by cases h⟩

theorem k_laws_FnExactAtMostConstraint : Entry Try.prog 4 c_laws_FnExactAtMostConstraint := by
  refine entry_by (C := C_laws_FnExactAtMostConstraint) mixed tys_ok t_laws_FnExactAtMostConstraint (fn := Try.f4) (c := bd Try.f4) (by kernel_rfl) (by kernel_rfl) (by kernel_rfl) (by kernel_rfl) ?_
  intro args st k he
  unfold c_laws_FnExactAtMostConstraint at he
  split at he
  rotate_left
  · exact he.elim
  rename_i a0_0 a0_1 a1 a2
  have he : Ok (laws_FnExactAtMostConstraint (a0_0, a0_1) a1 a2) (fun r => k (.c (.bool r)) []) := he
  refine ⟨rfl, rfl, ?_⟩
  refine And.intro (fun hb => ?_) (fun hb => ?_)
  · have he := ok_t he hb
    have he := ok_some he
    exact ⟨rfl, _, _, (leads_ren [] (l := [(6, .c (.bool true))]) (st' := []) rfl rfl trivial ⟨.inr rfl, trivial⟩), he⟩
  · have he := ok_f he hb
    obtain ⟨r1_, hr, he⟩ := ok_bind he
    refine ⟨r1_, hr, ?_⟩
    refine And.intro (fun hb => ?_) (fun hb => ?_)
    · have he := ok_t he hb
      have he := ok_some he
      exact ⟨rfl, _, _, (leads_ren [] (l := [(6, .c (.bool true))]) (st' := []) rfl rfl trivial ⟨.inr rfl, trivial⟩), he⟩
    · have he := ok_f he hb
      obtain ⟨r2_, hr, he⟩ := ok_bind he
      refine ⟨r2_, hr, ?_⟩
      obtain ⟨r3_, hr, he⟩ := ok_bind he
      refine ⟨r3_, hr, ?_⟩
      obtain ⟨r4_, hr, he⟩ := ok_bind he
      refine ⟨r4_, hr, ?_⟩
      obtain ⟨r5_, hr, he⟩ := ok_bind he
      refine ⟨r5_, hr, ?_⟩
      obtain ⟨r6_, hr, he⟩ := ok_bind he
      refine ⟨r6_, hr, ?_⟩
      obtain ⟨r7_, hr, he⟩ := ok_bind he
      refine ⟨r7_, hr, ?_⟩
      obtain ⟨r8_, hr, he⟩ := ok_bind he
      refine ⟨r8_, hr, ?_⟩
      refine And.intro (fun hb => ?_) (fun hb => ?_)
      · have he := ok_f he hb
        refine And.intro (fun hb => ?_) (fun hb => ?_)
        · have he := ok_t he hb
          have he := ok_some he
          exact ⟨rfl, _, _, (leads_ren [] (l := [(6, .c (.bool false))]) (st' := []) rfl rfl trivial ⟨.inr rfl, trivial⟩), he⟩
        · have he := ok_f he hb
          refine seq_model mixed tys_ok t_laws_FnExactAtMostConstraint (S := Unit) (I := (fun _ => (envOf [(1, .c (.imm (.int .i64) a1)), (2, .c (.int .i64 a2)), (3, .c (.ptr 10000000 0)), (8, .c (.ptr 10000001 0)), (9, .c (.bool r4_.1)), (10, .c (.ptr 10000002 0)), (11, .c (.own 10000003 false)), (12, .c (.ptr 10000004 0)), (13, .c (.bool r7_.1))], [(10000000, .rc [.imm (.int .i64) (a0_0, a0_1).1, .imm (.pair (.int .i64) (.pair (.sl (.int .i64)) (.pair (.sl (.int .i64)) (.pair (.int .i64) (.sl (.sl (.int .i64))))))) (a0_0, a0_1).2]), (10000001, .rc [.own 10000005 false, .int .i64 r4_.2.1]), (10000002, .rc [.own 10000006 false, .own 10000007 false]), (10000003, .sl 3 (.int .i64) r6_ .shallow), (10000004, .rc [.own 10000008 false, .int .i64 r7_.2.1]), (10000005, .sl 140 (.pair (.int .i64) (.int .i64)) r4_.2.2 .shallow), (10000006, .sl 3 (.int .i64) r5_.1 .shallow), (10000007, .sl 124 (.pair (.int .i64) (.pair (.sl (.int .i64)) (.pair (.sl (.int .i64)) (.pair (.int .i64) (.sl (.sl (.int .i64))))))) r5_.2 (.deep true .no)), (10000008, .sl 140 (.pair (.int .i64) (.int .i64)) r7_.2.2 .shallow)]))) (B := fun s => Ok (laws_FnExactAtMostConstraint_j1 (a0_0, a0_1) a1 a2 r4_ r5_ r6_ r7_ s) (fun r => k (.c (.bool r)) [])) ?_ ?_
          · rintro ⟨⟩ he
            obtain ⟨r13_, hr, he⟩ := ok_bind he
            refine ⟨r13_, hr, ?_⟩
            obtain ⟨r14_, hr, he⟩ := ok_bind he
            refine ⟨r14_, hr, ?_⟩
            refine And.intro (fun hb => ?_) (fun hb => ?_)
            · have he := ok_t he hb
              have he := ok_some he
              exact ⟨rfl, _, _, (leads_ren [] (l := [(6, .c (.bool false))]) (st' := []) rfl rfl trivial ⟨.inr rfl, trivial⟩), he⟩
            · have he := ok_f he hb
              obtain ⟨r15_, hr, he⟩ := ok_bind he
              refine ⟨r15_, hr, ?_⟩
              obtain ⟨r16_, hr, he⟩ := ok_bind he
              refine ⟨r16_, hr, ?_⟩
              refine And.intro (fun hb => ?_) (fun hb => ?_)
              · have he := ok_f he hb
                obtain ⟨r17_, hr, he⟩ := ok_bind he
                refine ⟨r17_, hr, ?_⟩
                refine And.intro (fun hb => ?_) (fun hb => ?_)
                · have he := ok_f he hb
                  refine And.intro (fun hb => ?_) (fun hb => ?_)
                  · have he := ok_t he hb
                    have he := ok_some he
                    exact ⟨rfl, _, _, (leads_ren [] (l := [(6, .c (.bool false))]) (st' := []) rfl rfl trivial ⟨.inr rfl, trivial⟩), he⟩
                  · have he := ok_f he hb
                    obtain ⟨r18_, hr, he⟩ := ok_bind he
                    refine ⟨r18_, hr, ?_⟩
                    obtain ⟨r19_, hr, he⟩ := ok_bind he
                    refine ⟨r19_, hr, ?_⟩
                    refine And.intro (fun hb => ?_) (fun hb => ?_)
                    · have he := ok_t he hb
                      have he := ok_some he
                      exact ⟨rfl, _, _, (leads_ren [] (l := [(6, .c (.bool false))]) (st' := []) rfl rfl trivial ⟨.inr rfl, trivial⟩), he⟩
                    · have he := ok_f he hb
                      refine And.intro (fun hb => ?_) (fun hb => ?_)
                      · have he := ok_t he hb
                        have he := ok_some he
                        exact ⟨rfl, _, _, (leads_ren [] (l := [(6, .c (.bool false))]) (st' := []) rfl rfl trivial ⟨.inr rfl, trivial⟩), he⟩
                      · have he := ok_f he hb
                        obtain ⟨r20_, hr, he⟩ := ok_bind he
                        refine ⟨r20_, hr, ?_⟩
                        obtain ⟨r21_, hr, he⟩ := ok_bind he
                        refine ⟨r21_, hr, ?_⟩
                        obtain ⟨r22_, hr, he⟩ := ok_bind he
                        refine ⟨r22_, hr, ?_⟩
                        obtain ⟨r23_, hr, he⟩ := ok_bind he
                        refine ⟨r23_, hr, ?_⟩
                        refine And.intro (fun hb => ?_) (fun hb => ?_)
                        · have he := ok_f he hb
                          refine And.intro (fun hb => ?_) (fun hb => ?_)
                          · have he := ok_t he hb
                            have he := ok_some he
                            exact ⟨rfl, _, _, (leads_ren [] (l := [(6, .c (.bool false))]) (st' := []) rfl rfl trivial ⟨.inr rfl, trivial⟩), he⟩
                          · have he := ok_f he hb
                            obtain ⟨r24_, hr, he⟩ := ok_bind he
                            refine ⟨r24_, hr, ?_⟩
                            refine And.intro (fun hb => ?_) (fun hb => ?_)
                            · have he := ok_t he hb
                              have he := ok_some he
                              exact ⟨rfl, _, _, (leads_ren [] (l := [(6, .c (.bool false))]) (st' := []) rfl rfl trivial ⟨.inr rfl, trivial⟩), he⟩
                            · have he := ok_f he hb
                              refine And.intro (fun hb => ?_) (fun hb => ?_)
                              · have he := ok_t he hb
                                have he := ok_some he
                                exact ⟨rfl, _, _, (leads_ren [] (l := [(6, .c (.bool false))]) (st' := []) rfl rfl trivial ⟨.inr rfl, trivial⟩), he⟩
                              · have he := ok_f he hb
                                have he := ok_some he
                                exact ⟨rfl, _, _, (leads_ren [] (l := [(6, .c (.bool true))]) (st' := []) rfl rfl trivial ⟨.inr rfl, trivial⟩), he⟩
                        · have he := ok_t he hb
                          have he := ok_some he
                          exact ⟨rfl, _, _, (leads_ren [] (l := [(6, .c (.bool false))]) (st' := []) rfl rfl trivial ⟨.inr rfl, trivial⟩), he⟩
                · have he := ok_t he hb
                  have he := ok_some he
                  exact ⟨rfl, _, _, (leads_ren [] (l := [(6, .c (.bool false))]) (st' := []) rfl rfl trivial ⟨.inr rfl, trivial⟩), he⟩
              · have he := ok_t he hb
                have he := ok_some he
                exact ⟨rfl, _, _, (leads_ren [] (l := [(6, .c (.bool false))]) (st' := []) rfl rfl trivial ⟨.inr rfl, trivial⟩), he⟩
          · skip
            refine And.intro (by kernel_rfl) ?_
            obtain ⟨r11_, hq1, he⟩ := ok_bind he
            obtain ⟨r12_, hq2, he⟩ := ok_bind he
            refine And.intro ?_ (And.intro ?_ (trivial))
            · skip
              refine And.intro ?_ trivial
              refine And.intro ?_ trivial
              refine ⟨r11_, hq1, ?_⟩
              refine And.intro ?_ trivial
              refine ⟨r12_, hq2, ?_⟩
              refine And.intro (fun hb => ?_) (fun hb => ?_)
              · have he := ok_t he hb
                have he := ok_some he
                exact ⟨rfl, _, _, (leads_ren [] (l := [(6, .c (.bool false))]) (st' := []) rfl rfl trivial ⟨.inr rfl, trivial⟩), he⟩
              · have he := ok_f he hb
                exact ⟨(), he, (leads_ren [(10000000, 3), (10000001, 8), (10000002, 10), (10000003, 40900), (10000004, 12), (10000005, 34901), (10000006, 38901), (10000007, 38902), (10000008, 45901)] (l := [(1, .c (.imm (.int .i64) a1)), (2, .c (.int .i64 a2)), (3, .c (.ptr 10000000 0)), (8, .c (.ptr 10000001 0)), (9, .c (.bool r4_.1)), (10, .c (.ptr 10000002 0)), (11, .c (.own 10000003 false)), (12, .c (.ptr 10000004 0)), (13, .c (.bool r7_.1))]) (st' := [(10000000, .rc [.imm (.int .i64) (a0_0, a0_1).1, .imm (.pair (.int .i64) (.pair (.sl (.int .i64)) (.pair (.sl (.int .i64)) (.pair (.int .i64) (.sl (.sl (.int .i64))))))) (a0_0, a0_1).2]), (10000001, .rc [.own 10000005 false, .int .i64 r4_.2.1]), (10000002, .rc [.own 10000006 false, .own 10000007 false]), (10000003, .sl 3 (.int .i64) r6_ .shallow), (10000004, .rc [.own 10000008 false, .int .i64 r7_.2.1]), (10000005, .sl 140 (.pair (.int .i64) (.int .i64)) r4_.2.2 .shallow), (10000006, .sl 3 (.int .i64) r5_.1 .shallow), (10000007, .sl 124 (.pair (.int .i64) (.pair (.sl (.int .i64)) (.pair (.sl (.int .i64)) (.pair (.int .i64) (.sl (.sl (.int .i64))))))) r5_.2 (.deep true .no)), (10000008, .sl 140 (.pair (.int .i64) (.int .i64)) r7_.2.2 .shallow)]) rfl rfl ⟨⟨.inl rfl, .inl rfl, trivial⟩, ⟨⟨⟨rfl, rfl⟩, trivial⟩, rfl, trivial⟩, ⟨⟨⟨rfl, rfl⟩, trivial⟩, ⟨⟨rfl, rfl⟩, trivial⟩, trivial⟩, ⟨rfl, rfl⟩, ⟨⟨⟨rfl, rfl⟩, trivial⟩, rfl, trivial⟩, ⟨rfl, rfl⟩, ⟨rfl, rfl⟩, ⟨rfl, rfl⟩, ⟨rfl, rfl⟩, trivial⟩ ⟨.inl rfl, rfl, ⟨⟨rfl, rfl⟩, rfl⟩, ⟨⟨rfl, rfl⟩, rfl⟩, .inl rfl, ⟨⟨rfl, rfl⟩, rfl⟩, ⟨⟨rfl, rfl⟩, trivial⟩, ⟨⟨rfl, rfl⟩, rfl⟩, .inl rfl, trivial⟩)⟩
            · skip
              refine And.intro ?_ (And.intro ?_ (trivial))
              · skip
                refine And.intro ?_ trivial
                refine ⟨r11_, hq1, ?_⟩
                refine And.intro ?_ trivial
                refine ⟨r12_, hq2, ?_⟩
                refine And.intro (fun hb => ?_) (fun hb => ?_)
                · have he := ok_t he hb
                  have he := ok_some he
                  exact ⟨rfl, _, _, (leads_ren [] (l := [(6, .c (.bool false))]) (st' := []) rfl rfl trivial ⟨.inr rfl, trivial⟩), he⟩
                · have he := ok_f he hb
                  exact ⟨(), he, (leads_ren [(10000000, 3), (10000001, 8), (10000002, 10), (10000003, 40900), (10000004, 12), (10000005, 34901), (10000006, 38901), (10000007, 38902), (10000008, 45901)] (l := [(1, .c (.imm (.int .i64) a1)), (2, .c (.int .i64 a2)), (3, .c (.ptr 10000000 0)), (8, .c (.ptr 10000001 0)), (9, .c (.bool r4_.1)), (10, .c (.ptr 10000002 0)), (11, .c (.own 10000003 false)), (12, .c (.ptr 10000004 0)), (13, .c (.bool r7_.1))]) (st' := [(10000000, .rc [.imm (.int .i64) (a0_0, a0_1).1, .imm (.pair (.int .i64) (.pair (.sl (.int .i64)) (.pair (.sl (.int .i64)) (.pair (.int .i64) (.sl (.sl (.int .i64))))))) (a0_0, a0_1).2]), (10000001, .rc [.own 10000005 false, .int .i64 r4_.2.1]), (10000002, .rc [.own 10000006 false, .own 10000007 false]), (10000003, .sl 3 (.int .i64) r6_ .shallow), (10000004, .rc [.own 10000008 false, .int .i64 r7_.2.1]), (10000005, .sl 140 (.pair (.int .i64) (.int .i64)) r4_.2.2 .shallow), (10000006, .sl 3 (.int .i64) r5_.1 .shallow), (10000007, .sl 124 (.pair (.int .i64) (.pair (.sl (.int .i64)) (.pair (.sl (.int .i64)) (.pair (.int .i64) (.sl (.sl (.int .i64))))))) r5_.2 (.deep true .no)), (10000008, .sl 140 (.pair (.int .i64) (.int .i64)) r7_.2.2 .shallow)]) rfl rfl ⟨⟨.inl rfl, .inl rfl, trivial⟩, ⟨⟨⟨rfl, rfl⟩, trivial⟩, rfl, trivial⟩, ⟨⟨⟨rfl, rfl⟩, trivial⟩, ⟨⟨rfl, rfl⟩, trivial⟩, trivial⟩, ⟨rfl, rfl⟩, ⟨⟨⟨rfl, rfl⟩, trivial⟩, rfl, trivial⟩, ⟨rfl, rfl⟩, ⟨rfl, rfl⟩, ⟨rfl, rfl⟩, ⟨rfl, rfl⟩, trivial⟩ ⟨.inl rfl, rfl, ⟨⟨rfl, rfl⟩, rfl⟩, ⟨⟨rfl, rfl⟩, rfl⟩, .inl rfl, ⟨⟨rfl, rfl⟩, rfl⟩, ⟨⟨rfl, rfl⟩, trivial⟩, ⟨⟨rfl, rfl⟩, rfl⟩, .inl rfl, trivial⟩)⟩
              · skip
                refine ⟨r11_, hq1, ?_⟩
                refine And.intro ?_ trivial
                refine And.intro ?_ trivial
                refine ⟨r12_, hq2, ?_⟩
                refine And.intro (fun hb => ?_) (fun hb => ?_)
                · have he := ok_t he hb
                  have he := ok_some he
                  exact ⟨rfl, _, _, (leads_ren [] (l := [(6, .c (.bool false))]) (st' := []) rfl rfl trivial ⟨.inr rfl, trivial⟩), he⟩
                · have he := ok_f he hb
                  exact ⟨(), he, (leads_ren [(10000000, 3), (10000001, 8), (10000002, 10), (10000003, 40900), (10000004, 12), (10000005, 34901), (10000006, 38901), (10000007, 38902), (10000008, 45901)] (l := [(1, .c (.imm (.int .i64) a1)), (2, .c (.int .i64 a2)), (3, .c (.ptr 10000000 0)), (8, .c (.ptr 10000001 0)), (9, .c (.bool r4_.1)), (10, .c (.ptr 10000002 0)), (11, .c (.own 10000003 false)), (12, .c (.ptr 10000004 0)), (13, .c (.bool r7_.1))]) (st' := [(10000000, .rc [.imm (.int .i64) (a0_0, a0_1).1, .imm (.pair (.int .i64) (.pair (.sl (.int .i64)) (.pair (.sl (.int .i64)) (.pair (.int .i64) (.sl (.sl (.int .i64))))))) (a0_0, a0_1).2]), (10000001, .rc [.own 10000005 false, .int .i64 r4_.2.1]), (10000002, .rc [.own 10000006 false, .own 10000007 false]), (10000003, .sl 3 (.int .i64) r6_ .shallow), (10000004, .rc [.own 10000008 false, .int .i64 r7_.2.1]), (10000005, .sl 140 (.pair (.int .i64) (.int .i64)) r4_.2.2 .shallow), (10000006, .sl 3 (.int .i64) r5_.1 .shallow), (10000007, .sl 124 (.pair (.int .i64) (.pair (.sl (.int .i64)) (.pair (.sl (.int .i64)) (.pair (.int .i64) (.sl (.sl (.int .i64))))))) r5_.2 (.deep true .no)), (10000008, .sl 140 (.pair (.int .i64) (.int .i64)) r7_.2.2 .shallow)]) rfl rfl ⟨⟨.inl rfl, .inl rfl, trivial⟩, ⟨⟨⟨rfl, rfl⟩, trivial⟩, rfl, trivial⟩, ⟨⟨⟨rfl, rfl⟩, trivial⟩, ⟨⟨rfl, rfl⟩, trivial⟩, trivial⟩, ⟨rfl, rfl⟩, ⟨⟨⟨rfl, rfl⟩, trivial⟩, rfl, trivial⟩, ⟨rfl, rfl⟩, ⟨rfl, rfl⟩, ⟨rfl, rfl⟩, ⟨rfl, rfl⟩, trivial⟩ ⟨.inl rfl, rfl, ⟨⟨rfl, rfl⟩, rfl⟩, ⟨⟨rfl, rfl⟩, rfl⟩, .inl rfl, ⟨⟨rfl, rfl⟩, rfl⟩, ⟨⟨rfl, rfl⟩, trivial⟩, ⟨⟨rfl, rfl⟩, rfl⟩, .inl rfl, trivial⟩)⟩
      · have he := ok_t he hb
        have he := ok_some he
        exact ⟨rfl, _, _, (leads_ren [] (l := [(6, .c (.bool false))]) (st' := []) rfl rfl trivial ⟨.inr rfl, trivial⟩), he⟩

end Go.AE.Y
