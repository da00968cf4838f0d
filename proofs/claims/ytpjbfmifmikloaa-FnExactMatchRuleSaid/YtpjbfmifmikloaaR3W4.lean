/-
  Walks: each function keeps the contract that its model gives. No conditions.
-/
import Derived.Test.YtpjbfmifmikloaaR3Tab
import Derived.Test.YtpjbfmifmikloaaR3W3
namespace Go.AE.Y
open Go Go.AE Go.Proofs
set_option linter.unusedVariables false
set_option maxHeartbeats 2000000
set_option maxRecDepth 100000

noncomputable def c_laws_FnExactMatchRule : Con := fun args st => match args, st with
  | [.agg [.imm (.int .i64) a0_0, .imm (.pair (.int .i64) (.pair (.sl (.int .i64)) (.pair (.sl (.int .i64)) (.pair (.int .i64) (.sl (.sl (.int .i64))))))) a0_1], .c (.int .i64 a1), .c (.imm (.sl .bool) a2)], [] => .opt (Bool) (laws_FnExactMatchRule (a0_0, a0_1) a1 a2) (fun r => .ret (.c (.bool r)) [])
  | _, _ => .fail

noncomputable def C_laws_FnExactMatchRule : Cfg := { y := tys, n := 124, h := 0, tab := [(15, c_laws_szModel), (16, c_laws_szBoolSS), (18, c_laws_toModel), (19, c_laws_toBoolSS), (21, c_laws_eqModel), (22, c_laws_eqBoolSS), (34, c_laws_eqIntS), (35, c_laws_markModel), (36, c_laws_markIntS), (37, c_laws_heldIntS), (52, c_spec_MatchRule), (53, c_impl_MatchRule), (54, c_laws_markBoolSS)], cut := [16], hand := [(35, [0]), (36, [0]), (54, [0])], good := [], deep := [], sched := [(14, (.alt 0 (.alt 1 (.alt 2 (.alt 3 (.first 4 .done) .stop) .stop) .stop) (.alt 1 (.alt 0 (.alt 2 (.alt 3 (.first 4 .done) .stop) .stop) (.alt 2 (.alt 0 (.alt 3 (.first 4 .done) .stop) .stop) .stop)) .stop)))] }

theorem t_laws_FnExactMatchRule : TabOk Try.prog C_laws_FnExactMatchRule := by
  refine tabOk_of ?_
  simp only [C_laws_FnExactMatchRule, List.forall_mem_cons]
  exact ⟨k_laws_szModel, k_laws_szBoolSS, k_laws_toModel, k_laws_toBoolSS, k_laws_eqModel, k_laws_eqBoolSS, k_laws_eqIntS, k_laws_markModel, k_laws_markIntS, k_laws_heldIntS, k_spec_MatchRule, k_impl_MatchRule, k_laws_markBoolSS, fun p h => by cases h⟩

theorem k_laws_FnExactMatchRule : Entry Try.prog 11 c_laws_FnExactMatchRule := by
  refine entry_by (C := C_laws_FnExactMatchRule) mixed tys_ok t_laws_FnExactMatchRule (fn := Try.f11) (c := bd Try.f11) (by kernel_rfl) (by kernel_rfl) (by kernel_rfl) (by kernel_rfl) ?_
  intro args st k he
  unfold c_laws_FnExactMatchRule at he
  split at he
  rotate_left
  · exact he.elim
  rename_i a0_0 a0_1 a1 a2
  have he : Ok (laws_FnExactMatchRule (a0_0, a0_1) a1 a2) (fun r => k (.c (.bool r)) []) := he
  refine ⟨rfl, rfl, ?_⟩
  obtain ⟨r1_, hr, he⟩ := ok_bind he
  refine ⟨r1_, hr, ?_⟩
  refine And.intro (fun hb => ?_) (fun hb => ?_)
  · have he := ok_t he hb
    have he := ok_some he
    exact ⟨rfl, _, _, (leads_ren [] (l := [(6, .c (.bool true))]) (st' := []) rfl rfl trivial ⟨.inr rfl, trivial⟩), he⟩
  · have he := ok_f he hb
    obtain ⟨r2_, hr, he⟩ := ok_bind he
    refine ⟨r2_, hr, ?_⟩
    refine And.intro (fun hb => ?_) (fun hb => ?_)
    · have he := ok_t he hb
      have he := ok_some he
      exact ⟨rfl, _, _, (leads_ren [] (l := [(6, .c (.bool true))]) (st' := []) rfl rfl trivial ⟨.inr rfl, trivial⟩), he⟩
    · have he := ok_f he hb
      obtain ⟨r3_, hr, he⟩ := ok_bind he
      refine ⟨r3_, hr, ?_⟩
      obtain ⟨r4_, hr, he⟩ := ok_bind he
      refine ⟨r4_, hr, ?_⟩
      obtain ⟨r5_, hr, he⟩ := ok_bind he
      refine ⟨r5_, hr, ?_⟩
      obtain ⟨r6_, hr, he⟩ := ok_bind he
      refine ⟨r6_, hr, ?_⟩
      obtain ⟨r7_, hr, he⟩ := ok_bind he
      refine ⟨r7_, hr, ?_⟩
      obtain ⟨r8_, hr, he⟩ := ok_bind he
      refine ⟨r8_, hr, ?_⟩
      obtain ⟨r9_, hr, he⟩ := ok_bind he
      refine ⟨r9_, hr, ?_⟩
      refine And.intro (fun hb => ?_) (fun hb => ?_)
      · have he := ok_f he hb
        refine And.intro (fun hb => ?_) (fun hb => ?_)
        · have he := ok_t he hb
          have he := ok_some he
          exact ⟨rfl, _, _, (leads_ren [] (l := [(6, .c (.bool false))]) (st' := []) rfl rfl trivial ⟨.inr rfl, trivial⟩), he⟩
        · have he := ok_f he hb
          refine seq_model mixed tys_ok t_laws_FnExactMatchRule (S := Unit) (I := (fun _ => (envOf [(1, .c (.int .i64 a1)), (2, .c (.imm (.sl .bool) a2)), (3, .c (.ptr 10000000 0)), (8, .c (.own 10000001 false)), (9, .c (.bool r5_.1)), (10, .c (.ptr 10000002 0)), (11, .c (.own 10000003 false)), (12, .c (.own 10000004 false)), (13, .c (.bool r8_.1))], [(10000000, .rc [.imm (.int .i64) (a0_0, a0_1).1, .imm (.pair (.int .i64) (.pair (.sl (.int .i64)) (.pair (.sl (.int .i64)) (.pair (.int .i64) (.sl (.sl (.int .i64))))))) (a0_0, a0_1).2]), (10000001, .sl 3 (.int .i64) r5_.2 .shallow), (10000002, .rc [.own 10000005 false, .own 10000006 false]), (10000003, .sl 73 (.sl .bool) r7_ (.deep true .no)), (10000004, .sl 3 (.int .i64) r8_.2 .shallow), (10000005, .sl 3 (.int .i64) r6_.1 .shallow), (10000006, .sl 112 (.pair (.int .i64) (.pair (.sl (.int .i64)) (.pair (.sl (.int .i64)) (.pair (.int .i64) (.sl (.sl (.int .i64))))))) r6_.2 (.deep true .no))]))) (B := fun s => Ok (laws_FnExactMatchRule_j1 (a0_0, a0_1) a1 a2 r5_ r6_ r7_ r8_ s) (fun r => k (.c (.bool r)) [])) ?_ ?_
          · rintro ⟨⟩ he
            obtain ⟨r14_, hr, he⟩ := ok_bind he
            refine ⟨r14_, hr, ?_⟩
            obtain ⟨r15_, hr, he⟩ := ok_bind he
            refine ⟨r15_, hr, ?_⟩
            refine And.intro (fun hb => ?_) (fun hb => ?_)
            · have he := ok_t he hb
              have he := ok_some he
              exact ⟨rfl, _, _, (leads_ren [] (l := [(6, .c (.bool false))]) (st' := []) rfl rfl trivial ⟨.inr rfl, trivial⟩), he⟩
            · have he := ok_f he hb
              obtain ⟨r16_, hr, he⟩ := ok_bind he
              refine ⟨r16_, hr, ?_⟩
              obtain ⟨r17_, hr, he⟩ := ok_bind he
              refine ⟨r17_, hr, ?_⟩
              refine And.intro (fun hb => ?_) (fun hb => ?_)
              · have he := ok_f he hb
                obtain ⟨r18_, hr, he⟩ := ok_bind he
                refine ⟨r18_, hr, ?_⟩
                refine And.intro (fun hb => ?_) (fun hb => ?_)
                · have he := ok_f he hb
                  refine And.intro (fun hb => ?_) (fun hb => ?_)
                  · have he := ok_t he hb
                    have he := ok_some he
                    exact ⟨rfl, _, _, (leads_ren [] (l := [(6, .c (.bool false))]) (st' := []) rfl rfl trivial ⟨.inr rfl, trivial⟩), he⟩
                  · have he := ok_f he hb
                    obtain ⟨r19_, hr, he⟩ := ok_bind he
                    refine ⟨r19_, hr, ?_⟩
                    obtain ⟨r20_, hr, he⟩ := ok_bind he
                    refine ⟨r20_, hr, ?_⟩
                    refine And.intro (fun hb => ?_) (fun hb => ?_)
                    · have he := ok_t he hb
                      have he := ok_some he
                      exact ⟨rfl, _, _, (leads_ren [] (l := [(6, .c (.bool false))]) (st' := []) rfl rfl trivial ⟨.inr rfl, trivial⟩), he⟩
                    · have he := ok_f he hb
                      refine And.intro (fun hb => ?_) (fun hb => ?_)
                      · have he := ok_t he hb
                        have he := ok_some he
                        exact ⟨rfl, _, _, (leads_ren [] (l := [(6, .c (.bool false))]) (st' := []) rfl rfl trivial ⟨.inr rfl, trivial⟩), he⟩
                      · have he := ok_f he hb
                        obtain ⟨r21_, hr, he⟩ := ok_bind he
                        refine ⟨r21_, hr, ?_⟩
                        obtain ⟨r22_, hr, he⟩ := ok_bind he
                        refine ⟨r22_, hr, ?_⟩
                        obtain ⟨r23_, hr, he⟩ := ok_bind he
                        refine ⟨r23_, hr, ?_⟩
                        obtain ⟨r24_, hr, he⟩ := ok_bind he
                        refine ⟨r24_, hr, ?_⟩
                        refine And.intro (fun hb => ?_) (fun hb => ?_)
                        · have he := ok_f he hb
                          refine And.intro (fun hb => ?_) (fun hb => ?_)
                          · have he := ok_t he hb
                            have he := ok_some he
                            exact ⟨rfl, _, _, (leads_ren [] (l := [(6, .c (.bool false))]) (st' := []) rfl rfl trivial ⟨.inr rfl, trivial⟩), he⟩
                          · have he := ok_f he hb
                            obtain ⟨r25_, hr, he⟩ := ok_bind he
                            refine ⟨r25_, hr, ?_⟩
                            refine And.intro (fun hb => ?_) (fun hb => ?_)
                            · have he := ok_t he hb
                              have he := ok_some he
                              exact ⟨rfl, _, _, (leads_ren [] (l := [(6, .c (.bool false))]) (st' := []) rfl rfl trivial ⟨.inr rfl, trivial⟩), he⟩
                            · have he := ok_f he hb
                              refine And.intro (fun hb => ?_) (fun hb => ?_)
                              · have he := ok_t he hb
                                have he := ok_some he
                                exact ⟨rfl, _, _, (leads_ren [] (l := [(6, .c (.bool false))]) (st' := []) rfl rfl trivial ⟨.inr rfl, trivial⟩), he⟩
                              · have he := ok_f he hb
                                have he := ok_some he
                                exact ⟨rfl, _, _, (leads_ren [] (l := [(6, .c (.bool true))]) (st' := []) rfl rfl trivial ⟨.inr rfl, trivial⟩), he⟩
                        · have he := ok_t he hb
                          have he := ok_some he
                          exact ⟨rfl, _, _, (leads_ren [] (l := [(6, .c (.bool false))]) (st' := []) rfl rfl trivial ⟨.inr rfl, trivial⟩), he⟩
                · have he := ok_t he hb
                  have he := ok_some he
                  exact ⟨rfl, _, _, (leads_ren [] (l := [(6, .c (.bool false))]) (st' := []) rfl rfl trivial ⟨.inr rfl, trivial⟩), he⟩
              · have he := ok_t he hb
                have he := ok_some he
                exact ⟨rfl, _, _, (leads_ren [] (l := [(6, .c (.bool false))]) (st' := []) rfl rfl trivial ⟨.inr rfl, trivial⟩), he⟩
          · skip
            refine And.intro (by kernel_rfl) ?_
            obtain ⟨r12_, hq1, he⟩ := ok_bind he
            obtain ⟨r13_, hq2, he⟩ := ok_bind he
            refine And.intro ?_ (And.intro ?_ (trivial))
            · skip
              refine And.intro ?_ trivial
              refine And.intro ?_ trivial
              refine ⟨r12_, hq1, ?_⟩
              refine And.intro ?_ trivial
              refine ⟨r13_, hq2, ?_⟩
              refine And.intro (fun hb => ?_) (fun hb => ?_)
              · have he := ok_t he hb
                have he := ok_some he
                exact ⟨rfl, _, _, (leads_ren [] (l := [(6, .c (.bool false))]) (st' := []) rfl rfl trivial ⟨.inr rfl, trivial⟩), he⟩
              · have he := ok_f he hb
                exact ⟨(), he, (leads_ren [(10000000, 3), (10000001, 36900), (10000002, 10), (10000003, 42900), (10000004, 47900), (10000005, 40901), (10000006, 40902)] (l := [(1, .c (.int .i64 a1)), (2, .c (.imm (.sl .bool) a2)), (3, .c (.ptr 10000000 0)), (8, .c (.own 10000001 false)), (9, .c (.bool r5_.1)), (10, .c (.ptr 10000002 0)), (11, .c (.own 10000003 false)), (12, .c (.own 10000004 false)), (13, .c (.bool r8_.1))]) (st' := [(10000000, .rc [.imm (.int .i64) (a0_0, a0_1).1, .imm (.pair (.int .i64) (.pair (.sl (.int .i64)) (.pair (.sl (.int .i64)) (.pair (.int .i64) (.sl (.sl (.int .i64))))))) (a0_0, a0_1).2]), (10000001, .sl 3 (.int .i64) r5_.2 .shallow), (10000002, .rc [.own 10000005 false, .own 10000006 false]), (10000003, .sl 73 (.sl .bool) r7_ (.deep true .no)), (10000004, .sl 3 (.int .i64) r8_.2 .shallow), (10000005, .sl 3 (.int .i64) r6_.1 .shallow), (10000006, .sl 112 (.pair (.int .i64) (.pair (.sl (.int .i64)) (.pair (.sl (.int .i64)) (.pair (.int .i64) (.sl (.sl (.int .i64))))))) r6_.2 (.deep true .no))]) rfl rfl ⟨⟨.inl rfl, .inl rfl, trivial⟩, ⟨rfl, rfl⟩, ⟨⟨⟨rfl, rfl⟩, trivial⟩, ⟨⟨rfl, rfl⟩, trivial⟩, trivial⟩, ⟨rfl, rfl⟩, ⟨rfl, rfl⟩, ⟨rfl, rfl⟩, ⟨rfl, rfl⟩, trivial⟩ ⟨rfl, .inl rfl, ⟨⟨rfl, rfl⟩, rfl⟩, ⟨⟨rfl, rfl⟩, trivial⟩, .inl rfl, ⟨⟨rfl, rfl⟩, rfl⟩, ⟨⟨rfl, rfl⟩, trivial⟩, ⟨⟨rfl, rfl⟩, trivial⟩, .inl rfl, trivial⟩)⟩
            · skip
              refine And.intro ?_ (And.intro ?_ (trivial))
              · skip
                refine And.intro ?_ trivial
                refine ⟨r12_, hq1, ?_⟩
                refine And.intro ?_ trivial
                refine ⟨r13_, hq2, ?_⟩
                refine And.intro (fun hb => ?_) (fun hb => ?_)
                · have he := ok_t he hb
                  have he := ok_some he
                  exact ⟨rfl, _, _, (leads_ren [] (l := [(6, .c (.bool false))]) (st' := []) rfl rfl trivial ⟨.inr rfl, trivial⟩), he⟩
                · have he := ok_f he hb
                  exact ⟨(), he, (leads_ren [(10000000, 3), (10000001, 36900), (10000002, 10), (10000003, 42900), (10000004, 47900), (10000005, 40901), (10000006, 40902)] (l := [(1, .c (.int .i64 a1)), (2, .c (.imm (.sl .bool) a2)), (3, .c (.ptr 10000000 0)), (8, .c (.own 10000001 false)), (9, .c (.bool r5_.1)), (10, .c (.ptr 10000002 0)), (11, .c (.own 10000003 false)), (12, .c (.own 10000004 false)), (13, .c (.bool r8_.1))]) (st' := [(10000000, .rc [.imm (.int .i64) (a0_0, a0_1).1, .imm (.pair (.int .i64) (.pair (.sl (.int .i64)) (.pair (.sl (.int .i64)) (.pair (.int .i64) (.sl (.sl (.int .i64))))))) (a0_0, a0_1).2]), (10000001, .sl 3 (.int .i64) r5_.2 .shallow), (10000002, .rc [.own 10000005 false, .own 10000006 false]), (10000003, .sl 73 (.sl .bool) r7_ (.deep true .no)), (10000004, .sl 3 (.int .i64) r8_.2 .shallow), (10000005, .sl 3 (.int .i64) r6_.1 .shallow), (10000006, .sl 112 (.pair (.int .i64) (.pair (.sl (.int .i64)) (.pair (.sl (.int .i64)) (.pair (.int .i64) (.sl (.sl (.int .i64))))))) r6_.2 (.deep true .no))]) rfl rfl ⟨⟨.inl rfl, .inl rfl, trivial⟩, ⟨rfl, rfl⟩, ⟨⟨⟨rfl, rfl⟩, trivial⟩, ⟨⟨rfl, rfl⟩, trivial⟩, trivial⟩, ⟨rfl, rfl⟩, ⟨rfl, rfl⟩, ⟨rfl, rfl⟩, ⟨rfl, rfl⟩, trivial⟩ ⟨rfl, .inl rfl, ⟨⟨rfl, rfl⟩, rfl⟩, ⟨⟨rfl, rfl⟩, trivial⟩, .inl rfl, ⟨⟨rfl, rfl⟩, rfl⟩, ⟨⟨rfl, rfl⟩, trivial⟩, ⟨⟨rfl, rfl⟩, trivial⟩, .inl rfl, trivial⟩)⟩
              · skip
                refine ⟨r12_, hq1, ?_⟩
                refine And.intro ?_ trivial
                refine And.intro ?_ trivial
                refine ⟨r13_, hq2, ?_⟩
                refine And.intro (fun hb => ?_) (fun hb => ?_)
                · have he := ok_t he hb
                  have he := ok_some he
                  exact ⟨rfl, _, _, (leads_ren [] (l := [(6, .c (.bool false))]) (st' := []) rfl rfl trivial ⟨.inr rfl, trivial⟩), he⟩
                · have he := ok_f he hb
                  exact ⟨(), he, (leads_ren [(10000000, 3), (10000001, 36900), (10000002, 10), (10000003, 42900), (10000004, 47900), (10000005, 40901), (10000006, 40902)] (l := [(1, .c (.int .i64 a1)), (2, .c (.imm (.sl .bool) a2)), (3, .c (.ptr 10000000 0)), (8, .c (.own 10000001 false)), (9, .c (.bool r5_.1)), (10, .c (.ptr 10000002 0)), (11, .c (.own 10000003 false)), (12, .c (.own 10000004 false)), (13, .c (.bool r8_.1))]) (st' := [(10000000, .rc [.imm (.int .i64) (a0_0, a0_1).1, .imm (.pair (.int .i64) (.pair (.sl (.int .i64)) (.pair (.sl (.int .i64)) (.pair (.int .i64) (.sl (.sl (.int .i64))))))) (a0_0, a0_1).2]), (10000001, .sl 3 (.int .i64) r5_.2 .shallow), (10000002, .rc [.own 10000005 false, .own 10000006 false]), (10000003, .sl 73 (.sl .bool) r7_ (.deep true .no)), (10000004, .sl 3 (.int .i64) r8_.2 .shallow), (10000005, .sl 3 (.int .i64) r6_.1 .shallow), (10000006, .sl 112 (.pair (.int .i64) (.pair (.sl (.int .i64)) (.pair (.sl (.int .i64)) (.pair (.int .i64) (.sl (.sl (.int .i64))))))) r6_.2 (.deep true .no))]) rfl rfl ⟨⟨.inl rfl, .inl rfl, trivial⟩, ⟨rfl, rfl⟩, ⟨⟨⟨rfl, rfl⟩, trivial⟩, ⟨⟨rfl, rfl⟩, trivial⟩, trivial⟩, ⟨rfl, rfl⟩, ⟨rfl, rfl⟩, ⟨rfl, rfl⟩, ⟨rfl, rfl⟩, trivial⟩ ⟨rfl, .inl rfl, ⟨⟨rfl, rfl⟩, rfl⟩, ⟨⟨rfl, rfl⟩, trivial⟩, .inl rfl, ⟨⟨rfl, rfl⟩, rfl⟩, ⟨⟨rfl, rfl⟩, trivial⟩, ⟨⟨rfl, rfl⟩, trivial⟩, .inl rfl, trivial⟩)⟩
      · have he := ok_t he hb
        have he := ok_some he
        exact ⟨rfl, _, _, (leads_ren [] (l := [(6, .c (.bool false))]) (st' := []) rfl rfl trivial ⟨.inr rfl, trivial⟩), he⟩

end Go.AE.Y
