/-
  Walks: each function keeps the contract that its model gives. No conditions.
-/
import Derived.Test.YtpjbfmifmikloaaR3Tab
import Derived.Test.YtpjbfmifmikloaaR3W3
namespace Go.AE.Y
open Go Go.AE Go.Proofs
set_option linter.unusedVariables false
set_option maxHeartbeats 2000000
set_option maxRecDepth 100000

noncomputable def c_laws_eqBoolSS : Con := fun args st => match args, st with
  | [.c (.imm (.sl .bool) a), .c (.imm (.sl .bool) b)], [] => .opt (Bool) (laws_eqBoolSS a b) (fun r => .ret (.c (.bool r)) [])
  | _, _ => .fail

noncomputable def C_laws_eqBoolSS : Cfg := { y := tys, n := 27, h := 0, tab := [(73, c_laws_eqBoolS)], cut := [], hand := [], good := [], deep := [], sched := [(6, (.first 0 (.first 1 (.first 2 (.first 3 (.first 4 (.first 5 (.first 6 (.first 7 (.alt 8 (.first 9 .done) .stop))))))))))] }

theorem t_laws_eqBoolSS : TabOk Try.prog C_laws_eqBoolSS := by
  refine tabOk_of ?_
  simp only [C_laws_eqBoolSS, List.forall_mem_cons]
  exact ⟨k_laws_eqBoolS, fun p h => by cases h⟩

theorem k_laws_eqBoolSS : Entry Try.prog 22 c_laws_eqBoolSS := by
  refine entry_by (C := C_laws_eqBoolSS) mixed tys_ok t_laws_eqBoolSS (fn := Try.f22) (c := bd Try.f22) (by kernel_rfl) (by kernel_rfl) (by kernel_rfl) (by kernel_rfl) ?_
  intro args st k he
  unfold c_laws_eqBoolSS at he
  split at he
  rotate_left
  · exact he.elim
  rename_i a b
  have he : Ok (laws_eqBoolSS a b) (fun r => k (.c (.bool r)) []) := he
  refine ⟨rfl, rfl, ?_⟩
  refine And.intro (fun hb => ?_) (fun hb => ?_)
  · have he := ok_t he hb
    have he := ok_some he
    exact ⟨rfl, _, _, Leads.refl _ _, he⟩
  · have he := ok_f he hb
    refine loop_model mixed tys_ok t_laws_eqBoolSS (S := Int) (I := (fun i => (envOf [(0, .c (.imm (.sl .bool) a)), (1, .c (.imm (.sl .bool) b)), (5, .c (.int .i64 i))], []))) (f := laws_eqBoolSS_l1 a b) (K := (fun r => k (.c (.bool r)) [])) he (leads_ren [] (l := [(0, .c (.imm (.sl .bool) a)), (1, .c (.imm (.sl .bool) b)), (5, .c (.int .i64 (0:Int)))]) (st' := []) rfl rfl trivial ⟨.inl rfl, .inl rfl, rfl, trivial⟩) ?_
    rintro i J1 he
    refine And.intro (fun hb => ?_) (fun hb => ?_)
    · have he := ok_t he hb
      refine And.intro (by kernel_rfl) ?_
      have he := ok_rq he
      refine And.intro he.1 ?_
      have he := he.2
      have he := ok_rq he
      refine And.intro he.1 ?_
      have he := he.2
      refine And.intro ?_ trivial
      obtain ⟨r2_, hr, he⟩ := ok_bind he
      refine ⟨r2_, hr, ?_⟩
      refine And.intro (fun hb => ?_) (fun hb => ?_)
      · have he := ok_t he hb
        have he := ok_some he
        exact ⟨rfl, _, _, Leads.refl _ _, he⟩
      · have he := ok_f he hb
        have he := ok_rq he
        refine And.intro he.1 ?_
        have he := he.2
        have he := ok_some he
        exact ⟨(i + (1:Int)), he, (leads_ren [] (l := [(0, .c (.imm (.sl .bool) a)), (1, .c (.imm (.sl .bool) b)), (5, .c (.int .i64 (i + (1:Int))))]) (st' := []) rfl rfl trivial ⟨.inl rfl, .inl rfl, rfl, trivial⟩)⟩
    · have he := ok_f he hb
      have he := ok_some he
      exact ⟨rfl, _, _, Leads.refl _ _, he⟩

noncomputable def c_laws_FnExactLowerBound : Con := fun args st => match args, st with
  | [.agg [.imm (.int .i64) a0_0, .imm (.pair (.int .i64) (.pair (.sl (.int .i64)) (.pair (.sl (.int .i64)) (.pair (.int .i64) (.sl (.sl (.int .i64))))))) a0_1], .c (.imm (.int .i64) a1), .c (.imm (.sl .bool) a2)], [] => .opt (Bool) (laws_FnExactLowerBound (a0_0, a0_1) a1 a2) (fun r => .ret (.c (.bool r)) [])
  | _, _ => .fail

noncomputable def C_laws_FnExactLowerBound : Cfg := { y := tys, n := 74, h := 0, tab := [(15, c_laws_szModel), (16, c_laws_szBoolSS), (18, c_laws_toModel), (19, c_laws_toBoolSS), (21, c_laws_eqModel), (22, c_laws_eqBoolSS), (32, c_laws_toIntS), (34, c_laws_eqIntS), (44, c_spec_LowerBound), (45, c_impl_LowerBound)], cut := [19], hand := [], good := [], deep := [], sched := [(17, (.alt 0 (.alt 1 (.alt 2 (.alt 3 (.first 4 .done) .stop) .stop) .stop) (.alt 1 (.alt 0 (.alt 2 (.alt 3 (.first 4 .done) .stop) .stop) (.alt 2 (.alt 0 (.alt 3 (.first 4 .done) .stop) .stop) .stop)) .stop)))] }

theorem t_laws_FnExactLowerBound : TabOk Try.prog C_laws_FnExactLowerBound := by
  refine tabOk_of ?_
  simp only [C_laws_FnExactLowerBound, List.forall_mem_cons]
  exact ⟨k_laws_szModel, k_laws_szBoolSS, k_laws_toModel, k_laws_toBoolSS, k_laws_eqModel, k_laws_eqBoolSS, k_laws_toIntS, k_laws_eqIntS, k_spec_LowerBound, k_impl_LowerBound, fun p h => by cases h⟩

theorem k_laws_FnExactLowerBound : Entry Try.prog 8 c_laws_FnExactLowerBound := by
  refine entry_by (C := C_laws_FnExactLowerBound) mixed tys_ok t_laws_FnExactLowerBound (fn := Try.f8) (c := bd Try.f8) (by kernel_rfl) (by kernel_rfl) (by kernel_rfl) (by kernel_rfl) ?_
  intro args st k he
  unfold c_laws_FnExactLowerBound at he
  split at he
  rotate_left
  · exact he.elim
  rename_i a0_0 a0_1 a1 a2
  have he : Ok (laws_FnExactLowerBound (a0_0, a0_1) a1 a2) (fun r => k (.c (.bool r)) []) := he
  refine ⟨rfl, rfl, ?_⟩
  refine And.intro (fun hb => ?_) (fun hb => ?_)
  · have he := ok_t he hb
    have he := ok_some he
    exact ⟨rfl, _, _, (leads_ren [] (l := [(6, .c (.bool true))]) (st' := []) rfl rfl trivial ⟨.inr rfl, trivial⟩), he⟩
  · have he := ok_f he hb
    obtain ⟨r1_, hr, he⟩ := ok_bind he
    refine ⟨r1_, hr, ?_⟩
    refine And.intro (fun hb => ?_) (fun hb => ?_)
    · have he := ok_t he hb
      have he := ok_some he
      exact ⟨rfl, _, _, (leads_ren [] (l := [(6, .c (.bool true))]) (st' := []) rfl rfl trivial ⟨.inr rfl, trivial⟩), he⟩
    · have he := ok_f he hb
      obtain ⟨r2_, hr, he⟩ := ok_bind he
      refine ⟨r2_, hr, ?_⟩
      refine And.intro (fun hb => ?_) (fun hb => ?_)
      · have he := ok_t he hb
        have he := ok_some he
        exact ⟨rfl, _, _, (leads_ren [] (l := [(6, .c (.bool true))]) (st' := []) rfl rfl trivial ⟨.inr rfl, trivial⟩), he⟩
      · have he := ok_f he hb
        obtain ⟨r3_, hr, he⟩ := ok_bind he
        refine ⟨r3_, hr, ?_⟩
        obtain ⟨r4_, hr, he⟩ := ok_bind he
        refine ⟨r4_, hr, ?_⟩
        obtain ⟨r5_, hr, he⟩ := ok_bind he
        refine ⟨r5_, hr, ?_⟩
        obtain ⟨r6_, hr, he⟩ := ok_bind he
        refine ⟨r6_, hr, ?_⟩
        obtain ⟨r7_, hr, he⟩ := ok_bind he
        refine ⟨r7_, hr, ?_⟩
        obtain ⟨r8_, hr, he⟩ := ok_bind he
        refine ⟨r8_, hr, ?_⟩
        obtain ⟨r9_, hr, he⟩ := ok_bind he
        refine ⟨r9_, hr, ?_⟩
        obtain ⟨r10_, hr, he⟩ := ok_bind he
        refine ⟨r10_, hr, ?_⟩
        refine And.intro (fun hb => ?_) (fun hb => ?_)
        · have he := ok_f he hb
          refine And.intro (fun hb => ?_) (fun hb => ?_)
          · have he := ok_t he hb
            have he := ok_some he
            exact ⟨rfl, _, _, (leads_ren [] (l := [(6, .c (.bool false))]) (st' := []) rfl rfl trivial ⟨.inr rfl, trivial⟩), he⟩
          · have he := ok_f he hb
            refine seq_model mixed tys_ok t_laws_FnExactLowerBound (S := Unit) (I := (fun _ => (envOf [(1, .c (.imm (.int .i64) a1)), (2, .c (.imm (.sl .bool) a2)), (11, .c (.own 10000000 false)), (12, .c (.own 10000001 false))], [(10000000, .sl 3 (.int .i64) r8_ .shallow), (10000001, .sl 73 (.sl .bool) r9_ (.deep true .no))]))) (B := fun s => Ok (laws_FnExactLowerBound_j1 a1 a2 r8_ r9_ s) (fun r => k (.c (.bool r)) [])) ?_ ?_
            · rintro ⟨⟩ he
              obtain ⟨r15_, hr, he⟩ := ok_bind he
              refine ⟨r15_, hr, ?_⟩
              obtain ⟨r16_, hr, he⟩ := ok_bind he
              refine ⟨r16_, hr, ?_⟩
              refine And.intro (fun hb => ?_) (fun hb => ?_)
              · have he := ok_t he hb
                have he := ok_some he
                exact ⟨rfl, _, _, (leads_ren [] (l := [(6, .c (.bool false))]) (st' := []) rfl rfl trivial ⟨.inr rfl, trivial⟩), he⟩
              · have he := ok_f he hb
                obtain ⟨r17_, hr, he⟩ := ok_bind he
                refine ⟨r17_, hr, ?_⟩
                obtain ⟨r18_, hr, he⟩ := ok_bind he
                refine ⟨r18_, hr, ?_⟩
                refine And.intro (fun hb => ?_) (fun hb => ?_)
                · have he := ok_t he hb
                  have he := ok_some he
                  exact ⟨rfl, _, _, (leads_ren [] (l := [(6, .c (.bool false))]) (st' := []) rfl rfl trivial ⟨.inr rfl, trivial⟩), he⟩
                · have he := ok_f he hb
                  have he := ok_some he
                  exact ⟨rfl, _, _, (leads_ren [] (l := [(6, .c (.bool true))]) (st' := []) rfl rfl trivial ⟨.inr rfl, trivial⟩), he⟩
            · skip
              refine And.intro (by kernel_rfl) ?_
              obtain ⟨r13_, hq1, he⟩ := ok_bind he
              obtain ⟨r14_, hq2, he⟩ := ok_bind he
              refine And.intro ?_ (And.intro ?_ (trivial))
              · skip
                refine And.intro ?_ trivial
                refine And.intro ?_ trivial
                refine ⟨r13_, hq1, ?_⟩
                refine And.intro ?_ trivial
                refine ⟨r14_, hq2, ?_⟩
                refine And.intro (fun hb => ?_) (fun hb => ?_)
                · have he := ok_t he hb
                  have he := ok_some he
                  exact ⟨rfl, _, _, (leads_ren [] (l := [(6, .c (.bool false))]) (st' := []) rfl rfl trivial ⟨.inr rfl, trivial⟩), he⟩
                · have he := ok_f he hb
                  exact ⟨(), he, (leads_ren [(10000000, 42900), (10000001, 44900)] (l := [(1, .c (.imm (.int .i64) a1)), (2, .c (.imm (.sl .bool) a2)), (11, .c (.own 10000000 false)), (12, .c (.own 10000001 false))]) (st' := [(10000000, .sl 3 (.int .i64) r8_ .shallow), (10000001, .sl 73 (.sl .bool) r9_ (.deep true .no))]) rfl rfl ⟨⟨rfl, rfl⟩, ⟨rfl, rfl⟩, trivial⟩ ⟨.inl rfl, .inl rfl, ⟨⟨rfl, rfl⟩, trivial⟩, ⟨⟨rfl, rfl⟩, trivial⟩, trivial⟩)⟩
              · skip
                refine And.intro ?_ (And.intro ?_ (trivial))
                · skip
                  refine And.intro ?_ trivial
                  refine ⟨r13_, hq1, ?_⟩
                  refine And.intro ?_ trivial
                  refine ⟨r14_, hq2, ?_⟩
                  refine And.intro (fun hb => ?_) (fun hb => ?_)
                  · have he := ok_t he hb
                    have he := ok_some he
                    exact ⟨rfl, _, _, (leads_ren [] (l := [(6, .c (.bool false))]) (st' := []) rfl rfl trivial ⟨.inr rfl, trivial⟩), he⟩
                  · have he := ok_f he hb
                    exact ⟨(), he, (leads_ren [(10000000, 42900), (10000001, 44900)] (l := [(1, .c (.imm (.int .i64) a1)), (2, .c (.imm (.sl .bool) a2)), (11, .c (.own 10000000 false)), (12, .c (.own 10000001 false))]) (st' := [(10000000, .sl 3 (.int .i64) r8_ .shallow), (10000001, .sl 73 (.sl .bool) r9_ (.deep true .no))]) rfl rfl ⟨⟨rfl, rfl⟩, ⟨rfl, rfl⟩, trivial⟩ ⟨.inl rfl, .inl rfl, ⟨⟨rfl, rfl⟩, trivial⟩, ⟨⟨rfl, rfl⟩, trivial⟩, trivial⟩)⟩
                · skip
                  refine ⟨r13_, hq1, ?_⟩
                  refine And.intro ?_ trivial
                  refine And.intro ?_ trivial
                  refine ⟨r14_, hq2, ?_⟩
                  refine And.intro (fun hb => ?_) (fun hb => ?_)
                  · have he := ok_t he hb
                    have he := ok_some he
                    exact ⟨rfl, _, _, (leads_ren [] (l := [(6, .c (.bool false))]) (st' := []) rfl rfl trivial ⟨.inr rfl, trivial⟩), he⟩
                  · have he := ok_f he hb
                    exact ⟨(), he, (leads_ren [(10000000, 42900), (10000001, 44900)] (l := [(1, .c (.imm (.int .i64) a1)), (2, .c (.imm (.sl .bool) a2)), (11, .c (.own 10000000 false)), (12, .c (.own 10000001 false))]) (st' := [(10000000, .sl 3 (.int .i64) r8_ .shallow), (10000001, .sl 73 (.sl .bool) r9_ (.deep true .no))]) rfl rfl ⟨⟨rfl, rfl⟩, ⟨rfl, rfl⟩, trivial⟩ ⟨.inl rfl, .inl rfl, ⟨⟨rfl, rfl⟩, trivial⟩, ⟨⟨rfl, rfl⟩, trivial⟩, trivial⟩)⟩
        · have he := ok_t he hb
          have he := ok_some he
          exact ⟨rfl, _, _, (leads_ren [] (l := [(6, .c (.bool false))]) (st' := []) rfl rfl trivial ⟨.inr rfl, trivial⟩), he⟩

end Go.AE.Y
