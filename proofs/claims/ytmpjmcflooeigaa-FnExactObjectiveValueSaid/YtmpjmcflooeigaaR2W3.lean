/-
  Walks: each function keeps the contract that its model gives. No conditions.
-/
import Derived.Test.YtmpjmcflooeigaaR2Tab
import Derived.Test.YtmpjmcflooeigaaR2W2
namespace Go.AE.Y
open Go Go.AE Go.Proofs
set_option linter.unusedVariables false
set_option maxHeartbeats 2000000
set_option maxRecDepth 100000

noncomputable def c_impl_isObjective : Con := fun args st => match args, st with
  | [.agg [.imm (.int .i64) m_0, .imm (.pair (.int .i64) (.pair (.sl (.int .i64)) (.pair (.sl (.int .i64)) (.pair (.int .i64) (.sl (.sl (.int .i64))))))) m_1], .c (.imm (.int .i64) coefs)], [] => .opt (Bool) (impl_isObjective (m_0, m_1) coefs) (fun r => .ret (.c (.bool r)) [])
  | _, _ => .fail

noncomputable def C_impl_isObjective : Cfg := { y := tys, n := 16, h := 0, tab := [(97, c_slices_ContainsFunc_int__impl_isObjective_1)], cut := [], hand := [], good := [], deep := [], sched := [] }

theorem t_impl_isObjective : TabOk Try.prog C_impl_isObjective := by
  refine tabOk_of ?_
  simp only [C_impl_isObjective, List.forall_mem_cons]
  exact ⟨k_slices_ContainsFunc_int__impl_isObjective_1, fun p h => by cases h⟩

theorem k_impl_isObjective : Entry Try.prog 115 c_impl_isObjective := by
  refine entry_by (C := C_impl_isObjective) mixed tys_ok t_impl_isObjective (fn := Try.f115) (c := bd Try.f115) (by kernel_rfl) (by kernel_rfl) (by kernel_rfl) (by kernel_rfl) ?_
  intro args st k he
  unfold c_impl_isObjective at he
  split at he
  rotate_left
  · exact he.elim
  rename_i m_0 m_1 coefs
  have he : Ok (impl_isObjective (m_0, m_1) coefs) (fun r => k (.c (.bool r)) []) := he
  refine ⟨rfl, rfl, ?_⟩
  refine And.intro (fun hb => ?_) (fun hb => ?_)
  · have he := ok_t he hb
    obtain ⟨r1_, hr, he⟩ := ok_bind he
    refine ⟨r1_, hr, ?_⟩
    have he := ok_some he
    exact ⟨rfl, _, _, (leads_ren [] (l := [(4, .c (.bool (!r1_)))]) (st' := []) rfl rfl trivial ⟨.inl rfl, trivial⟩), he⟩
  · have he := ok_f he hb
    have he := ok_some he
    exact ⟨rfl, _, _, (leads_ren [] (l := [(4, .c (.bool false))]) (st' := []) rfl rfl trivial ⟨.inr rfl, trivial⟩), he⟩

noncomputable def c_impl_valueOf : Con := fun args st => match args, st with
  | [.c (.imm (.int .i64) coefs), .c (.imm (.int .i64) cells)], [] => .opt (Int) (impl_valueOf coefs cells) (fun r => .ret (.c (.int .i64 r)) [])
  | _, _ => .fail

noncomputable def C_impl_valueOf : Cfg := { y := tys, n := 25, h := 0, tab := [], cut := [], hand := [], good := [], deep := [], sched := [] }

theorem t_impl_valueOf : TabOk Try.prog C_impl_valueOf := tabOk_of (fun p h => by cases h)

theorem k_impl_valueOf : Entry Try.prog 116 c_impl_valueOf := by
  refine entry_by (C := C_impl_valueOf) mixed tys_ok t_impl_valueOf (fn := Try.f116) (c := bd Try.f116) (by kernel_rfl) (by kernel_rfl) (by kernel_rfl) (by kernel_rfl) ?_
  intro args st k he
  unfold c_impl_valueOf at he
  split at he
  rotate_left
  · exact he.elim
  rename_i coefs cells
  have he : Ok (impl_valueOf coefs cells) (fun r => k (.c (.int .i64 r)) []) := he
  refine ⟨rfl, rfl, ?_⟩
  refine loop_model mixed tys_ok t_impl_valueOf (S := Int × Int) (I := (fun (sum, i) => (envOf [(0, .c (.imm (.int .i64) coefs)), (5, .c (.int .i64 sum)), (8, .c (.imm (.int .i64) cells)), (9, .c (.int .i64 (cells.length:Int))), (10, .c (.int .i64 i))], []))) (f := impl_valueOf_l1 coefs cells) (K := (fun r => k (.c (.int .i64 r)) [])) he (leads_ren [] (l := [(0, .c (.imm (.int .i64) coefs)), (5, .c (.int .i64 (0:Int))), (8, .c (.imm (.int .i64) cells)), (9, .c (.int .i64 (cells.length:Int))), (10, .c (.int .i64 (0:Int)))]) (st' := []) rfl rfl trivial ⟨.inl rfl, rfl, .inl rfl, rfl, rfl, trivial⟩) ?_
  rintro ⟨sum, i⟩ J1 he
  refine And.intro (fun hb => ?_) (fun hb => ?_)
  · have he := ok_t he hb
    have he := ok_rq he
    refine And.intro he.1 ?_
    have he := he.2
    have he := ok_rq he
    refine And.intro he.1 ?_
    have he := he.2
    have he := ok_rq he
    refine And.intro he.1 ?_
    have he := he.2
    have he := ok_rq he
    refine And.intro he.1 ?_
    have he := he.2
    have he := ok_rq he
    refine And.intro he.1 ?_
    have he := he.2
    have he := ok_some he
    exact ⟨((sum + ((coefs.getD i.toNat 0) * (cells.getD i.toNat 0))), (i + (1:Int))), he, (leads_ren [] (l := [(0, .c (.imm (.int .i64) coefs)), (5, .c (.int .i64 (sum + ((coefs.getD i.toNat 0) * (cells.getD i.toNat 0))))), (8, .c (.imm (.int .i64) cells)), (9, .c (.int .i64 (cells.length:Int))), (10, .c (.int .i64 (i + (1:Int))))]) (st' := []) rfl rfl trivial ⟨.inl rfl, rfl, .inl rfl, rfl, rfl, trivial⟩)⟩
  · have he := ok_f he hb
    have he := ok_some he
    exact ⟨rfl, _, _, Leads.refl _ _, he⟩

noncomputable def c_impl_ObjectiveValue : Con := fun args st => match args, st with
  | [.agg [.imm (.int .i64) m_0, .imm (.pair (.int .i64) (.pair (.sl (.int .i64)) (.pair (.sl (.int .i64)) (.pair (.int .i64) (.sl (.sl (.int .i64))))))) m_1], .c (.imm (.int .i64) coefs), .c (.imm (.int .i64) cells)], [] => .opt (Int × Bool) (impl_ObjectiveValue (m_0, m_1) coefs cells) (fun r => .ret (.tup [.c (.int .i64 r.1), .c (.bool r.2)]) [])
  | _, _ => .fail

noncomputable def C_impl_ObjectiveValue : Cfg := { y := tys, n := 21, h := 0, tab := [(114, c_impl_CellsValid), (115, c_impl_isObjective), (116, c_impl_valueOf)], cut := [], hand := [], good := [], deep := [], sched := [] }

theorem t_impl_ObjectiveValue : TabOk Try.prog C_impl_ObjectiveValue := by
  refine tabOk_of ?_
  simp only [C_impl_ObjectiveValue, List.forall_mem_cons]
  exact ⟨k_impl_CellsValid, k_impl_isObjective, k_impl_valueOf, fun p h => by cases h⟩

theorem k_impl_ObjectiveValue : Entry Try.prog 55 c_impl_ObjectiveValue := by
  refine entry_by (C := C_impl_ObjectiveValue) mixed tys_ok t_impl_ObjectiveValue (fn := Try.f55) (c := bd Try.f55) (by kernel_rfl) (by kernel_rfl) (by kernel_rfl) (by kernel_rfl) ?_
  intro args st k he
  unfold c_impl_ObjectiveValue at he
  split at he
  rotate_left
  · exact he.elim
  rename_i m_0 m_1 coefs cells
  have he : Ok (impl_ObjectiveValue (m_0, m_1) coefs cells) (fun r => k (.tup [.c (.int .i64 r.1), .c (.bool r.2)]) []) := he
  refine ⟨rfl, rfl, ?_⟩
  obtain ⟨r1_, hr, he⟩ := ok_bind he
  refine ⟨r1_, hr, ?_⟩
  refine And.intro (fun hb => ?_) (fun hb => ?_)
  · have he := ok_f he hb
    obtain ⟨r2_, hr, he⟩ := ok_bind he
    refine ⟨r2_, hr, ?_⟩
    refine And.intro (fun hb => ?_) (fun hb => ?_)
    · have he := ok_t he hb
      have he := ok_some he
      exact ⟨rfl, _, _, (leads_ren [] (l := [(6, .c (.int .i64 (0:Int))), (7, .c (.bool false))]) (st' := []) rfl rfl trivial ⟨rfl, .inr rfl, trivial⟩), he⟩
    · have he := ok_f he hb
      obtain ⟨r3_, hr, he⟩ := ok_bind he
      refine ⟨r3_, hr, ?_⟩
      have he := ok_some he
      exact ⟨rfl, _, _, (leads_ren [] (l := [(6, .c (.int .i64 r3_)), (7, .c (.bool true))]) (st' := []) rfl rfl trivial ⟨rfl, .inr rfl, trivial⟩), he⟩
  · have he := ok_t he hb
    have he := ok_some he
    exact ⟨rfl, _, _, (leads_ren [] (l := [(6, .c (.int .i64 (0:Int))), (7, .c (.bool false))]) (st' := []) rfl rfl trivial ⟨rfl, .inr rfl, trivial⟩), he⟩

noncomputable def c_laws_eqIntS : Con := fun args st => match args, st with
  | [.c (.imm (.int .i64) a), .c (.imm (.int .i64) b)], [] => .opt (Bool) (laws_eqIntS a b) (fun r => .ret (.c (.bool r)) [])
  | _, _ => .fail

noncomputable def C_laws_eqIntS : Cfg := { y := tys, n := 26, h := 0, tab := [], cut := [], hand := [], good := [], deep := [], sched := [] }

theorem t_laws_eqIntS : TabOk Try.prog C_laws_eqIntS := tabOk_of (fun p h => by cases h)

theorem k_laws_eqIntS : Entry Try.prog 39 c_laws_eqIntS := by
  refine entry_by (C := C_laws_eqIntS) mixed tys_ok t_laws_eqIntS (fn := Try.f39) (c := bd Try.f39) (by kernel_rfl) (by kernel_rfl) (by kernel_rfl) (by kernel_rfl) ?_
  intro args st k he
  unfold c_laws_eqIntS at he
  split at he
  rotate_left
  · exact he.elim
  rename_i a b
  have he : Ok (laws_eqIntS a b) (fun r => k (.c (.bool r)) []) := he
  refine ⟨rfl, rfl, ?_⟩
  refine And.intro (fun hb => ?_) (fun hb => ?_)
  · have he := ok_t he hb
    have he := ok_some he
    exact ⟨rfl, _, _, Leads.refl _ _, he⟩
  · have he := ok_f he hb
    refine loop_model mixed tys_ok t_laws_eqIntS (S := Int) (I := (fun i => (envOf [(0, .c (.imm (.int .i64) a)), (1, .c (.imm (.int .i64) b)), (5, .c (.int .i64 i))], []))) (f := laws_eqIntS_l1 a b) (K := (fun r => k (.c (.bool r)) [])) he (leads_ren [] (l := [(0, .c (.imm (.int .i64) a)), (1, .c (.imm (.int .i64) b)), (5, .c (.int .i64 (0:Int)))]) (st' := []) rfl rfl trivial ⟨.inl rfl, .inl rfl, rfl, trivial⟩) ?_
    rintro i J1 he
    refine And.intro (fun hb => ?_) (fun hb => ?_)
    · have he := ok_t he hb
      refine And.intro (by kernel_rfl) ?_
      have he := ok_rq he
      refine And.intro he.1 ?_
      have he := he.2
      have he := ok_rq he
      refine And.intro he.1 ?_
      have he := he.2
      refine And.intro (fun hb => ?_) (fun hb => ?_)
      · have he := ok_t he hb
        have he := ok_some he
        exact ⟨rfl, _, _, Leads.refl _ _, he⟩
      · have he := ok_f he hb
        have he := ok_rq he
        refine And.intro he.1 ?_
        have he := he.2
        have he := ok_some he
        exact ⟨(i + (1:Int)), he, (leads_ren [] (l := [(0, .c (.imm (.int .i64) a)), (1, .c (.imm (.int .i64) b)), (5, .c (.int .i64 (i + (1:Int))))]) (st' := []) rfl rfl trivial ⟨.inl rfl, .inl rfl, rfl, trivial⟩)⟩
    · have he := ok_f he hb
      have he := ok_some he
      exact ⟨rfl, _, _, Leads.refl _ _, he⟩

noncomputable def c_laws_eqIntSS : Con := fun args st => match args, st with
  | [.c (.imm (.sl (.int .i64)) a), .c (.imm (.sl (.int .i64)) b)], [] => .opt (Bool) (laws_eqIntSS a b) (fun r => .ret (.c (.bool r)) [])
  | _, _ => .fail

noncomputable def C_laws_eqIntSS : Cfg := { y := tys, n := 27, h := 0, tab := [(39, c_laws_eqIntS)], cut := [], hand := [], good := [], deep := [], sched := [(6, (.first 0 (.first 1 (.first 2 (.first 3 (.first 4 (.first 5 (.first 6 (.first 7 (.alt 8 (.first 9 .done) .stop))))))))))] }

theorem t_laws_eqIntSS : TabOk Try.prog C_laws_eqIntSS := by
  refine tabOk_of ?_
  simp only [C_laws_eqIntSS, List.forall_mem_cons]
  exact ⟨k_laws_eqIntS, fun p h => by cases h⟩

theorem k_laws_eqIntSS : Entry Try.prog 173 c_laws_eqIntSS := by
  refine entry_by (C := C_laws_eqIntSS) mixed tys_ok t_laws_eqIntSS (fn := Try.f173) (c := bd Try.f173) (by kernel_rfl) (by kernel_rfl) (by kernel_rfl) (by kernel_rfl) ?_
  intro args st k he
  unfold c_laws_eqIntSS at he
  split at he
  rotate_left
  · exact he.elim
  rename_i a b
  have he : Ok (laws_eqIntSS a b) (fun r => k (.c (.bool r)) []) := he
  refine ⟨rfl, rfl, ?_⟩
  refine And.intro (fun hb => ?_) (fun hb => ?_)
  · have he := ok_t he hb
    have he := ok_some he
    exact ⟨rfl, _, _, Leads.refl _ _, he⟩
  · have he := ok_f he hb
    refine loop_model mixed tys_ok t_laws_eqIntSS (S := Int) (I := (fun i => (envOf [(0, .c (.imm (.sl (.int .i64)) a)), (1, .c (.imm (.sl (.int .i64)) b)), (5, .c (.int .i64 i))], []))) (f := laws_eqIntSS_l1 a b) (K := (fun r => k (.c (.bool r)) [])) he (leads_ren [] (l := [(0, .c (.imm (.sl (.int .i64)) a)), (1, .c (.imm (.sl (.int .i64)) b)), (5, .c (.int .i64 (0:Int)))]) (st' := []) rfl rfl trivial ⟨.inl rfl, .inl rfl, rfl, trivial⟩) ?_
    rintro i J1 he
    refine And.intro (fun hb => ?_) (fun hb => ?_)
    · have he := ok_t he hb
      refine And.intro (by kernel_rfl) ?_
      have he := ok_rq he
      refine And.intro he.1 ?_
      have he := he.2
      have he := ok_rq he
      refine And.intro he.1 ?_
      have he := he.2
      refine And.intro ?_ trivial
      obtain ⟨r2_, hr, he⟩ := ok_bind he
      refine ⟨r2_, hr, ?_⟩
      refine And.intro (fun hb => ?_) (fun hb => ?_)
      · have he := ok_t he hb
        have he := ok_some he
        exact ⟨rfl, _, _, Leads.refl _ _, he⟩
      · have he := ok_f he hb
        have he := ok_rq he
        refine And.intro he.1 ?_
        have he := he.2
        have he := ok_some he
        exact ⟨(i + (1:Int)), he, (leads_ren [] (l := [(0, .c (.imm (.sl (.int .i64)) a)), (1, .c (.imm (.sl (.int .i64)) b)), (5, .c (.int .i64 (i + (1:Int))))]) (st' := []) rfl rfl trivial ⟨.inl rfl, .inl rfl, rfl, trivial⟩)⟩
    · have he := ok_f he hb
      have he := ok_some he
      exact ⟨rfl, _, _, Leads.refl _ _, he⟩

noncomputable def c_laws_eqRule : Con := fun args st => match args, st with
  | [.agg [.int .i64 a_0, .imm (.int .i64) a_1, .imm (.int .i64) a_2, .int .i64 a_3, .imm (.sl (.int .i64)) a_4], .agg [.int .i64 b_0, .imm (.int .i64) b_1, .imm (.int .i64) b_2, .int .i64 b_3, .imm (.sl (.int .i64)) b_4]], [] => .opt (Bool) (laws_eqRule (a_0, (a_1, (a_2, (a_3, a_4)))) (b_0, (b_1, (b_2, (b_3, b_4))))) (fun r => .ret (.c (.bool r)) [])
  | _, _ => .fail

noncomputable def C_laws_eqRule : Cfg := { y := tys, n := 33, h := 0, tab := [(39, c_laws_eqIntS), (173, c_laws_eqIntSS)], cut := [], hand := [], good := [], deep := [], sched := [] }

theorem t_laws_eqRule : TabOk Try.prog C_laws_eqRule := by
  refine tabOk_of ?_
  simp only [C_laws_eqRule, List.forall_mem_cons]
  exact ⟨k_laws_eqIntS, k_laws_eqIntSS, fun p h => by cases h⟩

theorem k_laws_eqRule : Entry Try.prog 143 c_laws_eqRule := by
  refine entry_by (C := C_laws_eqRule) mixed tys_ok t_laws_eqRule (fn := Try.f143) (c := bd Try.f143) (by kernel_rfl) (by kernel_rfl) (by kernel_rfl) (by kernel_rfl) ?_
  intro args st k he
  unfold c_laws_eqRule at he
  split at he
  rotate_left
  · exact he.elim
  rename_i a_0 a_1 a_2 a_3 a_4 b_0 b_1 b_2 b_3 b_4
  have he : Ok (laws_eqRule (a_0, (a_1, (a_2, (a_3, a_4)))) (b_0, (b_1, (b_2, (b_3, b_4))))) (fun r => k (.c (.bool r)) []) := he
  refine ⟨rfl, rfl, ?_⟩
  refine And.intro (fun hb => ?_) (fun hb => ?_)
  · have he := ok_t he hb
    have he := ok_some he
    exact ⟨rfl, _, _, (leads_ren [] (l := [(4, .c (.bool false))]) (st' := []) rfl rfl trivial ⟨.inr rfl, trivial⟩), he⟩
  · have he := ok_f he hb
    obtain ⟨r1_, hr, he⟩ := ok_bind he
    refine ⟨r1_, hr, ?_⟩
    refine And.intro (fun hb => ?_) (fun hb => ?_)
    · have he := ok_t he hb
      have he := ok_some he
      exact ⟨rfl, _, _, (leads_ren [] (l := [(4, .c (.bool false))]) (st' := []) rfl rfl trivial ⟨.inr rfl, trivial⟩), he⟩
    · have he := ok_f he hb
      obtain ⟨r2_, hr, he⟩ := ok_bind he
      refine ⟨r2_, hr, ?_⟩
      refine And.intro (fun hb => ?_) (fun hb => ?_)
      · have he := ok_t he hb
        have he := ok_some he
        exact ⟨rfl, _, _, (leads_ren [] (l := [(4, .c (.bool false))]) (st' := []) rfl rfl trivial ⟨.inr rfl, trivial⟩), he⟩
      · have he := ok_f he hb
        refine And.intro (fun hb => ?_) (fun hb => ?_)
        · have he := ok_t he hb
          have he := ok_some he
          exact ⟨rfl, _, _, (leads_ren [] (l := [(4, .c (.bool false))]) (st' := []) rfl rfl trivial ⟨.inr rfl, trivial⟩), he⟩
        · have he := ok_f he hb
          obtain ⟨r3_, hr, he⟩ := ok_bind he
          refine ⟨r3_, hr, ?_⟩
          refine And.intro (fun hb => ?_) (fun hb => ?_)
          · have he := ok_t he hb
            have he := ok_some he
            exact ⟨rfl, _, _, (leads_ren [] (l := [(4, .c (.bool false))]) (st' := []) rfl rfl trivial ⟨.inr rfl, trivial⟩), he⟩
          · have he := ok_f he hb
            have he := ok_some he
            exact ⟨rfl, _, _, (leads_ren [] (l := [(4, .c (.bool true))]) (st' := []) rfl rfl trivial ⟨.inr rfl, trivial⟩), he⟩

noncomputable def c_laws_eqRuleS : Con := fun args st => match args, st with
  | [.c (.imm (.pair (.int .i64) (.pair (.sl (.int .i64)) (.pair (.sl (.int .i64)) (.pair (.int .i64) (.sl (.sl (.int .i64))))))) a), .c (.imm (.pair (.int .i64) (.pair (.sl (.int .i64)) (.pair (.sl (.int .i64)) (.pair (.int .i64) (.sl (.sl (.int .i64))))))) b)], [] => .opt (Bool) (laws_eqRuleS a b) (fun r => .ret (.c (.bool r)) [])
  | _, _ => .fail

noncomputable def C_laws_eqRuleS : Cfg := { y := tys, n := 27, h := 0, tab := [(143, c_laws_eqRule)], cut := [], hand := [], good := [], deep := [], sched := [(6, (.first 0 (.first 1 (.first 2 (.first 3 (.first 4 (.first 5 (.first 6 (.first 7 (.alt 8 (.first 9 .done) .stop))))))))))] }

theorem t_laws_eqRuleS : TabOk Try.prog C_laws_eqRuleS := by
  refine tabOk_of ?_
  simp only [C_laws_eqRuleS, List.forall_mem_cons]
  exact ⟨k_laws_eqRule, fun p h => by cases h⟩

theorem k_laws_eqRuleS : Entry Try.prog 91 c_laws_eqRuleS := by
  refine entry_by (C := C_laws_eqRuleS) mixed tys_ok t_laws_eqRuleS (fn := Try.f91) (c := bd Try.f91) (by kernel_rfl) (by kernel_rfl) (by kernel_rfl) (by kernel_rfl) ?_
  intro args st k he
  unfold c_laws_eqRuleS at he
  split at he
  rotate_left
  · exact he.elim
  rename_i a b
  have he : Ok (laws_eqRuleS a b) (fun r => k (.c (.bool r)) []) := he
  refine ⟨rfl, rfl, ?_⟩
  refine And.intro (fun hb => ?_) (fun hb => ?_)
  · have he := ok_t he hb
    have he := ok_some he
    exact ⟨rfl, _, _, Leads.refl _ _, he⟩
  · have he := ok_f he hb
    refine loop_model mixed tys_ok t_laws_eqRuleS (S := Int) (I := (fun i => (envOf [(0, .c (.imm (.pair (.int .i64) (.pair (.sl (.int .i64)) (.pair (.sl (.int .i64)) (.pair (.int .i64) (.sl (.sl (.int .i64))))))) a)), (1, .c (.imm (.pair (.int .i64) (.pair (.sl (.int .i64)) (.pair (.sl (.int .i64)) (.pair (.int .i64) (.sl (.sl (.int .i64))))))) b)), (5, .c (.int .i64 i))], []))) (f := laws_eqRuleS_l1 a b) (K := (fun r => k (.c (.bool r)) [])) he (leads_ren [] (l := [(0, .c (.imm (.pair (.int .i64) (.pair (.sl (.int .i64)) (.pair (.sl (.int .i64)) (.pair (.int .i64) (.sl (.sl (.int .i64))))))) a)), (1, .c (.imm (.pair (.int .i64) (.pair (.sl (.int .i64)) (.pair (.sl (.int .i64)) (.pair (.int .i64) (.sl (.sl (.int .i64))))))) b)), (5, .c (.int .i64 (0:Int)))]) (st' := []) rfl rfl trivial ⟨.inl rfl, .inl rfl, rfl, trivial⟩) ?_
    rintro i J1 he
    refine And.intro (fun hb => ?_) (fun hb => ?_)
    · have he := ok_t he hb
      refine And.intro (by kernel_rfl) ?_
      have he := ok_rq he
      refine And.intro he.1 ?_
      have he := he.2
      have he := ok_rq he
      refine And.intro he.1 ?_
      have he := he.2
      refine And.intro ?_ trivial
      obtain ⟨r2_, hr, he⟩ := ok_bind he
      refine ⟨r2_, hr, ?_⟩
      refine And.intro (fun hb => ?_) (fun hb => ?_)
      · have he := ok_t he hb
        have he := ok_some he
        exact ⟨rfl, _, _, Leads.refl _ _, he⟩
      · have he := ok_f he hb
        have he := ok_rq he
        refine And.intro he.1 ?_
        have he := he.2
        have he := ok_some he
        exact ⟨(i + (1:Int)), he, (leads_ren [] (l := [(0, .c (.imm (.pair (.int .i64) (.pair (.sl (.int .i64)) (.pair (.sl (.int .i64)) (.pair (.int .i64) (.sl (.sl (.int .i64))))))) a)), (1, .c (.imm (.pair (.int .i64) (.pair (.sl (.int .i64)) (.pair (.sl (.int .i64)) (.pair (.int .i64) (.sl (.sl (.int .i64))))))) b)), (5, .c (.int .i64 (i + (1:Int))))]) (st' := []) rfl rfl trivial ⟨.inl rfl, .inl rfl, rfl, trivial⟩)⟩
    · have he := ok_f he hb
      have he := ok_some he
      exact ⟨rfl, _, _, Leads.refl _ _, he⟩

noncomputable def c_laws_eqModel : Con := fun args st => match args, st with
  | [.agg [.imm (.int .i64) a_0, .imm (.pair (.int .i64) (.pair (.sl (.int .i64)) (.pair (.sl (.int .i64)) (.pair (.int .i64) (.sl (.sl (.int .i64))))))) a_1], .agg [.imm (.int .i64) b_0, .imm (.pair (.int .i64) (.pair (.sl (.int .i64)) (.pair (.sl (.int .i64)) (.pair (.int .i64) (.sl (.sl (.int .i64))))))) b_1]], [] => .opt (Bool) (laws_eqModel (a_0, a_1) (b_0, b_1)) (fun r => .ret (.c (.bool r)) [])
  | _, _ => .fail

noncomputable def C_laws_eqModel : Cfg := { y := tys, n := 17, h := 0, tab := [(39, c_laws_eqIntS), (91, c_laws_eqRuleS)], cut := [], hand := [], good := [], deep := [], sched := [] }

theorem t_laws_eqModel : TabOk Try.prog C_laws_eqModel := by
  refine tabOk_of ?_
  simp only [C_laws_eqModel, List.forall_mem_cons]
  exact ⟨k_laws_eqIntS, k_laws_eqRuleS, fun p h => by cases h⟩

theorem k_laws_eqModel : Entry Try.prog 38 c_laws_eqModel := by
  refine entry_by (C := C_laws_eqModel) mixed tys_ok t_laws_eqModel (fn := Try.f38) (c := bd Try.f38) (by kernel_rfl) (by kernel_rfl) (by kernel_rfl) (by kernel_rfl) ?_
  intro args st k he
  unfold c_laws_eqModel at he
  split at he
  rotate_left
  · exact he.elim
  rename_i a_0 a_1 b_0 b_1
  have he : Ok (laws_eqModel (a_0, a_1) (b_0, b_1)) (fun r => k (.c (.bool r)) []) := he
  refine ⟨rfl, rfl, ?_⟩
  obtain ⟨r1_, hr, he⟩ := ok_bind he
  refine ⟨r1_, hr, ?_⟩
  refine And.intro (fun hb => ?_) (fun hb => ?_)
  · have he := ok_t he hb
    have he := ok_some he
    exact ⟨rfl, _, _, (leads_ren [] (l := [(4, .c (.bool false))]) (st' := []) rfl rfl trivial ⟨.inr rfl, trivial⟩), he⟩
  · have he := ok_f he hb
    obtain ⟨r2_, hr, he⟩ := ok_bind he
    refine ⟨r2_, hr, ?_⟩
    refine And.intro (fun hb => ?_) (fun hb => ?_)
    · have he := ok_t he hb
      have he := ok_some he
      exact ⟨rfl, _, _, (leads_ren [] (l := [(4, .c (.bool false))]) (st' := []) rfl rfl trivial ⟨.inr rfl, trivial⟩), he⟩
    · have he := ok_f he hb
      have he := ok_some he
      exact ⟨rfl, _, _, (leads_ren [] (l := [(4, .c (.bool true))]) (st' := []) rfl rfl trivial ⟨.inr rfl, trivial⟩), he⟩

noncomputable def c_laws_FnExactObjectiveValue : Con := fun args st => match args, st with
  | [.agg [.imm (.int .i64) a0_0, .imm (.pair (.int .i64) (.pair (.sl (.int .i64)) (.pair (.sl (.int .i64)) (.pair (.int .i64) (.sl (.sl (.int .i64))))))) a0_1], .c (.imm (.int .i64) a1), .c (.imm (.int .i64) a2)], [] => .opt (Bool) (laws_FnExactObjectiveValue (a0_0, a0_1) a1 a2) (fun r => .ret (.c (.bool r)) [])
  | _, _ => .fail

noncomputable def C_laws_FnExactObjectiveValue : Cfg := { y := tys, n := 72, h := 0, tab := [(33, c_laws_szModel), (35, c_laws_toModel), (36, c_laws_toIntS), (38, c_laws_eqModel), (39, c_laws_eqIntS), (54, c_spec_ObjectiveValue), (55, c_impl_ObjectiveValue)], cut := [18], hand := [], good := [], deep := [], sched := [(16, (.alt 0 (.alt 1 (.alt 2 (.alt 3 (.first 4 .done) .stop) .stop) .stop) (.alt 1 (.alt 0 (.alt 2 (.alt 3 (.first 4 .done) .stop) .stop) (.alt 2 (.alt 0 (.alt 3 (.first 4 .done) .stop) .stop) .stop)) .stop)))] }

theorem t_laws_FnExactObjectiveValue : TabOk Try.prog C_laws_FnExactObjectiveValue := by
  refine tabOk_of ?_
  simp only [C_laws_FnExactObjectiveValue, List.forall_mem_cons]
  exact ⟨k_laws_szModel, k_laws_toModel, k_laws_toIntS, k_laws_eqModel, k_laws_eqIntS, k_spec_ObjectiveValue, k_impl_ObjectiveValue, fun p h => by cases h⟩

theorem k_laws_FnExactObjectiveValue : Entry Try.prog 11 c_laws_FnExactObjectiveValue := by
  refine entry_by (C := C_laws_FnExactObjectiveValue) mixed tys_ok t_laws_FnExactObjectiveValue (fn := Try.f11) (c := bd Try.f11) (by kernel_rfl) (by kernel_rfl) (by kernel_rfl) (by kernel_rfl) ?_
  intro args st k he
  unfold c_laws_FnExactObjectiveValue at he
  split at he
  rotate_left
  · exact he.elim
  rename_i a0_0 a0_1 a1 a2
  have he : Ok (laws_FnExactObjectiveValue (a0_0, a0_1) a1 a2) (fun r => k (.c (.bool r)) []) := he
  refine ⟨rfl, rfl, ?_⟩
  refine And.intro (fun hb => ?_) (fun hb => ?_)
  · have he := ok_t he hb
    have he := ok_some he
    exact ⟨rfl, _, _, (leads_ren [] (l := [(6, .c (.bool true))]) (st' := []) rfl rfl trivial ⟨.inr rfl, trivial⟩), he⟩
  · have he := ok_f he hb
    refine And.intro (fun hb => ?_) (fun hb => ?_)
    · have he := ok_t he hb
      have he := ok_some he
      exact ⟨rfl, _, _, (leads_ren [] (l := [(6, .c (.bool true))]) (st' := []) rfl rfl trivial ⟨.inr rfl, trivial⟩), he⟩
    · have he := ok_f he hb
      obtain ⟨r1_, hr, he⟩ := ok_bind he
      refine ⟨r1_, hr, ?_⟩
      refine And.intro (fun hb => ?_) (fun hb => ?_)
      · have he := ok_t he hb
        have he := ok_some he
        exact ⟨rfl, _, _, (leads_ren [] (l := [(6, .c (.bool true))]) (st' := []) rfl rfl trivial ⟨.inr rfl, trivial⟩), he⟩
      · have he := ok_f he hb
        obtain ⟨r2_, hr, he⟩ := ok_bind he
        refine ⟨r2_, hr, ?_⟩
        obtain ⟨r3_, hr, he⟩ := ok_bind he
        refine ⟨r3_, hr, ?_⟩
        obtain ⟨r4_, hr, he⟩ := ok_bind he
        refine ⟨r4_, hr, ?_⟩
        obtain ⟨r5_, hr, he⟩ := ok_bind he
        refine ⟨r5_, hr, ?_⟩
        obtain ⟨r6_, hr, he⟩ := ok_bind he
        refine ⟨r6_, hr, ?_⟩
        obtain ⟨r7_, hr, he⟩ := ok_bind he
        refine ⟨r7_, hr, ?_⟩
        obtain ⟨r8_, hr, he⟩ := ok_bind he
        refine ⟨r8_, hr, ?_⟩
        obtain ⟨r9_, hr, he⟩ := ok_bind he
        refine ⟨r9_, hr, ?_⟩
        refine And.intro (fun hb => ?_) (fun hb => ?_)
        · have he := ok_f he hb
          refine And.intro (fun hb => ?_) (fun hb => ?_)
          · have he := ok_t he hb
            have he := ok_some he
            exact ⟨rfl, _, _, (leads_ren [] (l := [(6, .c (.bool false))]) (st' := []) rfl rfl trivial ⟨.inr rfl, trivial⟩), he⟩
          · have he := ok_f he hb
            refine seq_model mixed tys_ok t_laws_FnExactObjectiveValue (S := Unit) (I := (fun _ => (envOf [(1, .c (.imm (.int .i64) a1)), (2, .c (.imm (.int .i64) a2)), (11, .c (.own 10000000 false)), (12, .c (.own 10000001 false))], [(10000000, .sl 3 (.int .i64) r7_ .shallow), (10000001, .sl 3 (.int .i64) r8_ .shallow)]))) (B := fun s => Ok (laws_FnExactObjectiveValue_j1 a1 a2 r7_ r8_ s) (fun r => k (.c (.bool r)) [])) ?_ ?_
            · rintro ⟨⟩ he
              obtain ⟨r14_, hr, he⟩ := ok_bind he
              refine ⟨r14_, hr, ?_⟩
              obtain ⟨r15_, hr, he⟩ := ok_bind he
              refine ⟨r15_, hr, ?_⟩
              refine And.intro (fun hb => ?_) (fun hb => ?_)
              · have he := ok_t he hb
                have he := ok_some he
                exact ⟨rfl, _, _, (leads_ren [] (l := [(6, .c (.bool false))]) (st' := []) rfl rfl trivial ⟨.inr rfl, trivial⟩), he⟩
              · have he := ok_f he hb
                obtain ⟨r16_, hr, he⟩ := ok_bind he
                refine ⟨r16_, hr, ?_⟩
                obtain ⟨r17_, hr, he⟩ := ok_bind he
                refine ⟨r17_, hr, ?_⟩
                refine And.intro (fun hb => ?_) (fun hb => ?_)
                · have he := ok_t he hb
                  have he := ok_some he
                  exact ⟨rfl, _, _, (leads_ren [] (l := [(6, .c (.bool false))]) (st' := []) rfl rfl trivial ⟨.inr rfl, trivial⟩), he⟩
                · have he := ok_f he hb
                  have he := ok_some he
                  exact ⟨rfl, _, _, (leads_ren [] (l := [(6, .c (.bool true))]) (st' := []) rfl rfl trivial ⟨.inr rfl, trivial⟩), he⟩
            · skip
              refine And.intro (by kernel_rfl) ?_
              obtain ⟨r12_, hq1, he⟩ := ok_bind he
              obtain ⟨r13_, hq2, he⟩ := ok_bind he
              refine And.intro ?_ (And.intro ?_ (trivial))
              · skip
                refine And.intro ?_ trivial
                refine And.intro ?_ trivial
                refine ⟨r12_, hq1, ?_⟩
                refine And.intro ?_ trivial
                refine ⟨r13_, hq2, ?_⟩
                refine And.intro (fun hb => ?_) (fun hb => ?_)
                · have he := ok_t he hb
                  have he := ok_some he
                  exact ⟨rfl, _, _, (leads_ren [] (l := [(6, .c (.bool false))]) (st' := []) rfl rfl trivial ⟨.inr rfl, trivial⟩), he⟩
                · have he := ok_f he hb
                  exact ⟨(), he, (leads_ren [(10000000, 40900), (10000001, 42900)] (l := [(1, .c (.imm (.int .i64) a1)), (2, .c (.imm (.int .i64) a2)), (11, .c (.own 10000000 false)), (12, .c (.own 10000001 false))]) (st' := [(10000000, .sl 3 (.int .i64) r7_ .shallow), (10000001, .sl 3 (.int .i64) r8_ .shallow)]) rfl rfl ⟨⟨rfl, rfl⟩, ⟨rfl, rfl⟩, trivial⟩ ⟨.inl rfl, .inl rfl, ⟨⟨rfl, rfl⟩, trivial⟩, ⟨⟨rfl, rfl⟩, trivial⟩, trivial⟩)⟩
              · skip
                refine And.intro ?_ (And.intro ?_ (trivial))
                · skip
                  refine And.intro ?_ trivial
                  refine ⟨r12_, hq1, ?_⟩
                  refine And.intro ?_ trivial
                  refine ⟨r13_, hq2, ?_⟩
                  refine And.intro (fun hb => ?_) (fun hb => ?_)
                  · have he := ok_t he hb
                    have he := ok_some he
                    exact ⟨rfl, _, _, (leads_ren [] (l := [(6, .c (.bool false))]) (st' := []) rfl rfl trivial ⟨.inr rfl, trivial⟩), he⟩
                  · have he := ok_f he hb
                    exact ⟨(), he, (leads_ren [(10000000, 40900), (10000001, 42900)] (l := [(1, .c (.imm (.int .i64) a1)), (2, .c (.imm (.int .i64) a2)), (11, .c (.own 10000000 false)), (12, .c (.own 10000001 false))]) (st' := [(10000000, .sl 3 (.int .i64) r7_ .shallow), (10000001, .sl 3 (.int .i64) r8_ .shallow)]) rfl rfl ⟨⟨rfl, rfl⟩, ⟨rfl, rfl⟩, trivial⟩ ⟨.inl rfl, .inl rfl, ⟨⟨rfl, rfl⟩, trivial⟩, ⟨⟨rfl, rfl⟩, trivial⟩, trivial⟩)⟩
                · skip
                  refine ⟨r12_, hq1, ?_⟩
                  refine And.intro ?_ trivial
                  refine And.intro ?_ trivial
                  refine ⟨r13_, hq2, ?_⟩
                  refine And.intro (fun hb => ?_) (fun hb => ?_)
                  · have he := ok_t he hb
                    have he := ok_some he
                    exact ⟨rfl, _, _, (leads_ren [] (l := [(6, .c (.bool false))]) (st' := []) rfl rfl trivial ⟨.inr rfl, trivial⟩), he⟩
                  · have he := ok_f he hb
                    exact ⟨(), he, (leads_ren [(10000000, 40900), (10000001, 42900)] (l := [(1, .c (.imm (.int .i64) a1)), (2, .c (.imm (.int .i64) a2)), (11, .c (.own 10000000 false)), (12, .c (.own 10000001 false))]) (st' := [(10000000, .sl 3 (.int .i64) r7_ .shallow), (10000001, .sl 3 (.int .i64) r8_ .shallow)]) rfl rfl ⟨⟨rfl, rfl⟩, ⟨rfl, rfl⟩, trivial⟩ ⟨.inl rfl, .inl rfl, ⟨⟨rfl, rfl⟩, trivial⟩, ⟨⟨rfl, rfl⟩, trivial⟩, trivial⟩)⟩
        · have he := ok_t he hb
          have he := ok_some he
          exact ⟨rfl, _, _, (leads_ren [] (l := [(6, .c (.bool false))]) (st' := []) rfl rfl trivial ⟨.inr rfl, trivial⟩), he⟩

end Go.AE.Y
