/-
  Walks: each function keeps the contract that its model gives. No conditions.
-/
import Derived.Test.YtpeelmjecjbfjaaR4Tab
import Derived.Test.YtpeelmjecjbfjaaR4W2
namespace Go.AE.Y
open Go Go.AE Go.Proofs
set_option linter.unusedVariables false
set_option maxHeartbeats 2000000
set_option maxRecDepth 100000

noncomputable def c_spec_ModelValid : Con := fun args st => match args, st with
  | [.agg [.imm (.int .i64) a0_0, .imm (.pair (.int .i64) (.pair (.sl (.int .i64)) (.pair (.sl (.int .i64)) (.pair (.int .i64) (.sl (.sl (.int .i64))))))) a0_1]], [] => .opt (Bool) (spec_ModelValid (a0_0, a0_1)) (fun r => .ret (.c (.bool r)) [])
  | _, _ => .fail

noncomputable def C_spec_ModelValid : Cfg := { y := tys, n := 74, h := 0, tab := [(255, c_spec_l6Rule)], cut := [8], hand := [], good := [], deep := [], sched := [(13, (.first 1 (.first 3 (.alt 0 (.alt 2 (.first 4 (.first 5 (.alt 6 (.first 7 .done) .stop))) .stop) (.alt 2 (.first 4 (.first 5 (.alt 0 (.alt 6 (.first 7 .done) .stop) .stop))) .stop)))))] }

theorem t_spec_ModelValid : TabOk Try.prog C_spec_ModelValid := by
  refine tabOk_of ?_
  simp only [C_spec_ModelValid, List.forall_mem_cons]
  exact ⟨k_spec_l6Rule, fun p h => by cases h⟩

theorem k_spec_ModelValid : Entry Try.prog 196 c_spec_ModelValid := by
  refine entry_by (C := C_spec_ModelValid) mixed tys_ok t_spec_ModelValid (fn := Try.f196) (c := bd Try.f196) (by kernel_rfl) (by kernel_rfl) (by kernel_rfl) (by kernel_rfl) ?_
  intro args st k he
  unfold c_spec_ModelValid at he
  split at he
  rotate_left
  · exact he.elim
  rename_i a0_0 a0_1
  have he : Ok (spec_ModelValid (a0_0, a0_1)) (fun r => k (.c (.bool r)) []) := he
  refine ⟨rfl, rfl, ?_⟩
  refine seq_model mixed tys_ok t_spec_ModelValid (S := Int) (I := (fun i2 => (envOf [(1, .c (.ptr 10001000 0)), (3, .c (.int .i64 i2))], [(10001000, .rc [.imm (.int .i64) (a0_0, a0_1).1, .imm (.pair (.int .i64) (.pair (.sl (.int .i64)) (.pair (.sl (.int .i64)) (.pair (.int .i64) (.sl (.sl (.int .i64))))))) (a0_0, a0_1).2])]))) (B := fun s => Ok (spec_ModelValid_j1 (a0_0, a0_1) s) (fun r => k (.c (.bool r)) [])) ?_ ?_
  · rintro i2 he
    refine And.intro (fun hb => ?_) (fun hb => ?_)
    · have he := ok_f he hb
      refine And.intro (fun hb => ?_) (fun hb => ?_)
      · have he := ok_f he hb
        refine And.intro (fun hb => ?_) (fun hb => ?_)
        · have he := ok_f he hb
          refine And.intro (fun hb => ?_) (fun hb => ?_)
          · have he := ok_t he hb
            have he := ok_some he
            exact ⟨rfl, _, _, (leads_ren [] (l := [(2, .c (.bool false))]) (st' := []) rfl rfl trivial ⟨.inr rfl, trivial⟩), he⟩
          · have he := ok_f he hb
            refine loop_model mixed tys_ok t_spec_ModelValid (S := Int) (I := (fun i3 => (envOf [(1, .c (.ptr 10002000 0)), (5, .c (.int .i64 i3))], [(10002000, .rc [.imm (.int .i64) (a0_0, a0_1).1, .imm (.pair (.int .i64) (.pair (.sl (.int .i64)) (.pair (.sl (.int .i64)) (.pair (.int .i64) (.sl (.sl (.int .i64))))))) (a0_0, a0_1).2])]))) (f := spec_ModelValid_l1 (a0_0, a0_1)) (K := (fun r => k (.c (.bool r)) [])) he (leads_ren [(10002000, 10001000)] (l := [(1, .c (.ptr 10002000 0)), (5, .c (.int .i64 (0:Int)))]) (st' := [(10002000, .rc [.imm (.int .i64) (a0_0, a0_1).1, .imm (.pair (.int .i64) (.pair (.sl (.int .i64)) (.pair (.sl (.int .i64)) (.pair (.int .i64) (.sl (.sl (.int .i64))))))) (a0_0, a0_1).2])]) rfl rfl ⟨⟨.inl rfl, .inl rfl, trivial⟩, trivial⟩ ⟨⟨⟨rfl, rfl⟩, rfl⟩, rfl, trivial⟩) ?_
            rintro i3 J1 he
            refine And.intro (fun hb => ?_) (fun hb => ?_)
            · have he := ok_t he hb
              refine And.intro (by kernel_rfl) ?_
              have he := ok_rq he
              have hq1 := he.1
              have he := he.2
              obtain ⟨r2_, hq2, he⟩ := ok_bind he
              refine And.intro ?_ (And.intro ?_ (trivial))
              · skip
                refine And.intro ?_ trivial
                refine And.intro hq1 ?_
                refine And.intro ?_ trivial
                refine ⟨r2_, hq2, ?_⟩
                refine And.intro (fun hb => ?_) (fun hb => ?_)
                · have he := ok_t he hb
                  have he := ok_some he
                  exact ⟨rfl, _, _, (leads_ren [] (l := [(2, .c (.bool false))]) (st' := []) rfl rfl trivial ⟨.inr rfl, trivial⟩), he⟩
                · have he := ok_f he hb
                  have he := ok_rq he
                  refine And.intro he.1 ?_
                  have he := he.2
                  have he := ok_some he
                  exact ⟨(i3 + (1:Int)), he, (leads_ren [] (l := [(1, .c (.ptr 10002000 0)), (5, .c (.int .i64 (i3 + (1:Int))))]) (st' := [(10002000, .rc [.imm (.int .i64) (a0_0, a0_1).1, .imm (.pair (.int .i64) (.pair (.sl (.int .i64)) (.pair (.sl (.int .i64)) (.pair (.int .i64) (.sl (.sl (.int .i64))))))) (a0_0, a0_1).2])]) rfl rfl ⟨⟨.inl rfl, .inl rfl, trivial⟩, trivial⟩ ⟨⟨⟨rfl, rfl⟩, rfl⟩, rfl, trivial⟩)⟩
              · skip
                refine And.intro hq1 ?_
                refine And.intro ?_ trivial
                refine And.intro ?_ trivial
                refine ⟨r2_, hq2, ?_⟩
                refine And.intro (fun hb => ?_) (fun hb => ?_)
                · have he := ok_t he hb
                  have he := ok_some he
                  exact ⟨rfl, _, _, (leads_ren [] (l := [(2, .c (.bool false))]) (st' := []) rfl rfl trivial ⟨.inr rfl, trivial⟩), he⟩
                · have he := ok_f he hb
                  have he := ok_rq he
                  refine And.intro he.1 ?_
                  have he := he.2
                  have he := ok_some he
                  exact ⟨(i3 + (1:Int)), he, (leads_ren [] (l := [(1, .c (.ptr 10002000 0)), (5, .c (.int .i64 (i3 + (1:Int))))]) (st' := [(10002000, .rc [.imm (.int .i64) (a0_0, a0_1).1, .imm (.pair (.int .i64) (.pair (.sl (.int .i64)) (.pair (.sl (.int .i64)) (.pair (.int .i64) (.sl (.sl (.int .i64))))))) (a0_0, a0_1).2])]) rfl rfl ⟨⟨.inl rfl, .inl rfl, trivial⟩, trivial⟩ ⟨⟨⟨rfl, rfl⟩, rfl⟩, rfl, trivial⟩)⟩
            · have he := ok_f he hb
              have he := ok_some he
              exact ⟨rfl, _, _, (leads_ren [] (l := [(2, .c (.bool true))]) (st' := []) rfl rfl trivial ⟨.inr rfl, trivial⟩), he⟩
        · have he := ok_t he hb
          have he := ok_some he
          exact ⟨rfl, _, _, (leads_ren [] (l := [(2, .c (.bool false))]) (st' := []) rfl rfl trivial ⟨.inr rfl, trivial⟩), he⟩
      · have he := ok_t he hb
        have he := ok_some he
        exact ⟨rfl, _, _, (leads_ren [] (l := [(2, .c (.bool false))]) (st' := []) rfl rfl trivial ⟨.inr rfl, trivial⟩), he⟩
    · have he := ok_t he hb
      have he := ok_some he
      exact ⟨rfl, _, _, (leads_ren [] (l := [(2, .c (.bool false))]) (st' := []) rfl rfl trivial ⟨.inr rfl, trivial⟩), he⟩
  · skip
    refine loop_model mixed tys_ok t_spec_ModelValid (S := Int × Int) (I := (fun (i, i1) => (envOf [(1, .c (.ptr 10000000 0)), (3, .c (.int .i64 i)), (4, .c (.int .i64 i1))], [(10000000, .rc [.imm (.int .i64) (a0_0, a0_1).1, .imm (.pair (.int .i64) (.pair (.sl (.int .i64)) (.pair (.sl (.int .i64)) (.pair (.int .i64) (.sl (.sl (.int .i64))))))) (a0_0, a0_1).2])]))) (f := spec_ModelValid_l2 (a0_0, a0_1)) (K := (fun r => k (.c (.bool r)) [])) he (leads_ren [(10000000, 1)] (l := [(1, .c (.ptr 10000000 0)), (3, .c (.int .i64 (0:Int))), (4, .c (.int .i64 (0:Int)))]) (st' := [(10000000, .rc [.imm (.int .i64) (a0_0, a0_1).1, .imm (.pair (.int .i64) (.pair (.sl (.int .i64)) (.pair (.sl (.int .i64)) (.pair (.int .i64) (.sl (.sl (.int .i64))))))) (a0_0, a0_1).2])]) rfl rfl ⟨⟨.inl rfl, .inl rfl, trivial⟩, trivial⟩ ⟨⟨⟨rfl, rfl⟩, rfl⟩, rfl, rfl, trivial⟩) ?_
    rintro ⟨i, i1⟩ J1 he
    refine And.intro (fun hb => ?_) (fun hb => ?_)
    · have he := ok_t he hb
      refine And.intro (fun hb => ?_) (fun hb => ?_)
      · have he := ok_t he hb
        have he := ok_rq he
        refine And.intro he.1 ?_
        have he := he.2
        refine And.intro (fun hb => ?_) (fun hb => ?_)
        · have he := ok_f he hb
          have he := ok_rq he
          refine And.intro he.1 ?_
          have he := he.2
          refine And.intro (fun hb => ?_) (fun hb => ?_)
          · have he := ok_t he hb
            have he := ok_some he
            exact ⟨rfl, _, _, (leads_ren [] (l := [(2, .c (.bool false))]) (st' := []) rfl rfl trivial ⟨.inr rfl, trivial⟩), he⟩
          · have he := ok_f he hb
            have he := ok_rq he
            refine And.intro he.1 ?_
            have he := he.2
            have he := ok_rq he
            refine And.intro he.1 ?_
            have he := he.2
            have he := ok_rq he
            refine And.intro he.1 ?_
            have he := he.2
            have he := ok_rq he
            refine And.intro he.1 ?_
            have he := he.2
            have he := ok_some he
            exact ⟨(((i + ((a0_0, a0_1).1.getD i1.toNat 0)) + (1:Int)), (i1 + (1:Int))), he, (leads_ren [] (l := [(1, .c (.ptr 10000000 0)), (3, .c (.int .i64 ((i + ((a0_0, a0_1).1.getD i1.toNat 0)) + (1:Int)))), (4, .c (.int .i64 (i1 + (1:Int))))]) (st' := [(10000000, .rc [.imm (.int .i64) (a0_0, a0_1).1, .imm (.pair (.int .i64) (.pair (.sl (.int .i64)) (.pair (.sl (.int .i64)) (.pair (.int .i64) (.sl (.sl (.int .i64))))))) (a0_0, a0_1).2])]) rfl rfl ⟨⟨.inl rfl, .inl rfl, trivial⟩, trivial⟩ ⟨⟨⟨rfl, rfl⟩, rfl⟩, rfl, rfl, trivial⟩)⟩
        · have he := ok_t he hb
          have he := ok_some he
          exact ⟨rfl, _, _, (leads_ren [] (l := [(2, .c (.bool false))]) (st' := []) rfl rfl trivial ⟨.inr rfl, trivial⟩), he⟩
      · have he := ok_f he hb
        exact ⟨i, ok_up he, (leads_ren [(10001000, 10000000)] (l := [(1, .c (.ptr 10001000 0)), (3, .c (.int .i64 i))]) (st' := [(10001000, .rc [.imm (.int .i64) (a0_0, a0_1).1, .imm (.pair (.int .i64) (.pair (.sl (.int .i64)) (.pair (.sl (.int .i64)) (.pair (.int .i64) (.sl (.sl (.int .i64))))))) (a0_0, a0_1).2])]) rfl rfl ⟨⟨.inl rfl, .inl rfl, trivial⟩, trivial⟩ ⟨⟨⟨rfl, rfl⟩, rfl⟩, rfl, trivial⟩)⟩
    · have he := ok_f he hb
      exact ⟨i, ok_up he, (leads_ren [(10001000, 10000000)] (l := [(1, .c (.ptr 10001000 0)), (3, .c (.int .i64 i))]) (st' := [(10001000, .rc [.imm (.int .i64) (a0_0, a0_1).1, .imm (.pair (.int .i64) (.pair (.sl (.int .i64)) (.pair (.sl (.int .i64)) (.pair (.int .i64) (.sl (.sl (.int .i64))))))) (a0_0, a0_1).2])]) rfl rfl ⟨⟨.inl rfl, .inl rfl, trivial⟩, trivial⟩ ⟨⟨⟨rfl, rfl⟩, rfl⟩, rfl, trivial⟩)⟩

noncomputable def c_spec_PermValid : Con := fun args st => match args, st with
  | [.agg [.imm (.int .i64) m_0, .imm (.pair (.int .i64) (.pair (.sl (.int .i64)) (.pair (.sl (.int .i64)) (.pair (.int .i64) (.sl (.sl (.int .i64))))))) m_1], .c (.imm (.int .i64) perm)], [] => .opt (Bool) (spec_PermValid (m_0, m_1) perm) (fun r => .ret (.c (.bool r)) [])
  | _, _ => .fail

noncomputable def C_spec_PermValid : Cfg := { y := tys, n := 43, h := 0, tab := [(196, c_spec_ModelValid), (213, c_spec_l6Vars)], cut := [], hand := [], good := [], deep := [], sched := [] }

theorem t_spec_PermValid : TabOk Try.prog C_spec_PermValid := by
  refine tabOk_of ?_
  simp only [C_spec_PermValid, List.forall_mem_cons]
  exact ⟨k_spec_ModelValid, k_spec_l6Vars, fun p h => by cases h⟩

theorem k_spec_PermValid : Entry Try.prog 125 c_spec_PermValid := by
  refine entry_by (C := C_spec_PermValid) mixed tys_ok t_spec_PermValid (fn := Try.f125) (c := bd Try.f125) (by kernel_rfl) (by kernel_rfl) (by kernel_rfl) (by kernel_rfl) ?_
  intro args st k he
  unfold c_spec_PermValid at he
  split at he
  rotate_left
  · exact he.elim
  rename_i m_0 m_1 perm
  have he : Ok (spec_PermValid (m_0, m_1) perm) (fun r => k (.c (.bool r)) []) := he
  refine ⟨rfl, rfl, ?_⟩
  obtain ⟨r1_, hr, he⟩ := ok_bind he
  refine ⟨r1_, hr, ?_⟩
  refine And.intro (fun hb => ?_) (fun hb => ?_)
  · have he := ok_f he hb
    refine And.intro (fun hb => ?_) (fun hb => ?_)
    · have he := ok_f he hb
      obtain ⟨r2_, hr, he⟩ := ok_bind he
      refine ⟨r2_, hr, ?_⟩
      refine And.intro (fun hb => ?_) (fun hb => ?_)
      · have he := ok_t he hb
        have he := ok_some he
        exact ⟨rfl, _, _, (leads_ren [] (l := [(4, .c (.bool false))]) (st' := []) rfl rfl trivial ⟨.inr rfl, trivial⟩), he⟩
      · have he := ok_f he hb
        refine loop_model mixed tys_ok t_spec_PermValid (S := Int) (I := (fun i => (envOf [(1, .c (.imm (.int .i64) perm)), (2, .c (.ptr 10000000 0)), (5, .c (.int .i64 i))], [(10000000, .rc [.imm (.int .i64) (m_0, m_1).1, .imm (.pair (.int .i64) (.pair (.sl (.int .i64)) (.pair (.sl (.int .i64)) (.pair (.int .i64) (.sl (.sl (.int .i64))))))) (m_0, m_1).2])]))) (f := spec_PermValid_l1 (m_0, m_1) perm) (K := (fun r => k (.c (.bool r)) [])) he (leads_ren [(10000000, 2)] (l := [(1, .c (.imm (.int .i64) perm)), (2, .c (.ptr 10000000 0)), (5, .c (.int .i64 (0:Int)))]) (st' := [(10000000, .rc [.imm (.int .i64) (m_0, m_1).1, .imm (.pair (.int .i64) (.pair (.sl (.int .i64)) (.pair (.sl (.int .i64)) (.pair (.int .i64) (.sl (.sl (.int .i64))))))) (m_0, m_1).2])]) rfl rfl ⟨⟨.inl rfl, .inl rfl, trivial⟩, trivial⟩ ⟨.inl rfl, ⟨⟨rfl, rfl⟩, rfl⟩, rfl, trivial⟩) ?_
        rintro i J1 he
        refine And.intro (fun hb => ?_) (fun hb => ?_)
        · have he := ok_t he hb
          refine And.intro (by kernel_rfl) ?_
          have he := ok_rq he
          refine And.intro he.1 ?_
          have he := he.2
          have he := ok_rq he
          refine And.intro he.1 ?_
          have he := he.2
          have he := ok_rq he
          refine And.intro he.1 ?_
          have he := he.2
          refine And.intro (fun hb => ?_) (fun hb => ?_)
          · have he := ok_t he hb
            have he := ok_some he
            exact ⟨rfl, _, _, (leads_ren [] (l := [(4, .c (.bool false))]) (st' := []) rfl rfl trivial ⟨.inr rfl, trivial⟩), he⟩
          · have he := ok_f he hb
            have he := ok_rq he
            refine And.intro he.1 ?_
            have he := he.2
            have he := ok_some he
            exact ⟨(i + (1:Int)), he, (leads_ren [] (l := [(1, .c (.imm (.int .i64) perm)), (2, .c (.ptr 10000000 0)), (5, .c (.int .i64 (i + (1:Int))))]) (st' := [(10000000, .rc [.imm (.int .i64) (m_0, m_1).1, .imm (.pair (.int .i64) (.pair (.sl (.int .i64)) (.pair (.sl (.int .i64)) (.pair (.int .i64) (.sl (.sl (.int .i64))))))) (m_0, m_1).2])]) rfl rfl ⟨⟨.inl rfl, .inl rfl, trivial⟩, trivial⟩ ⟨.inl rfl, ⟨⟨rfl, rfl⟩, rfl⟩, rfl, trivial⟩)⟩
        · have he := ok_f he hb
          have he := ok_some he
          exact ⟨rfl, _, _, (leads_ren [] (l := [(4, .c (.bool true))]) (st' := []) rfl rfl trivial ⟨.inr rfl, trivial⟩), he⟩
    · have he := ok_t he hb
      have he := ok_some he
      exact ⟨rfl, _, _, (leads_ren [] (l := [(4, .c (.bool false))]) (st' := []) rfl rfl trivial ⟨.inr rfl, trivial⟩), he⟩
  · have he := ok_t he hb
    have he := ok_some he
    exact ⟨rfl, _, _, (leads_ren [] (l := [(4, .c (.bool false))]) (st' := []) rfl rfl trivial ⟨.inr rfl, trivial⟩), he⟩

noncomputable def c_spec_l10Rename : Con := fun args st => match args, st with
  | [.agg [.int .i64 r__0, .imm (.int .i64) r__1, .imm (.int .i64) r__2, .int .i64 r__3, .imm (.sl (.int .i64)) r__4], .c (.imm (.int .i64) perm)], [] => .opt (Int × Int × (List Int) × (List Int) × (List (List Int))) (spec_l10Rename (r__0, (r__1, (r__2, (r__3, r__4)))) perm) (fun r => .ret (.agg [.int .i64 r.1, .own 901 false, .own 902 false, .int .i64 r.2.1, .own 903 false]) [(900, .rc [.int .i64 r.1, .own 901 false, .own 902 false, .int .i64 r.2.1, .own 903 false]), (901, .sl 3 (.int .i64) r.2.2.1 .shallow), (902, .sl 3 (.int .i64) r.2.2.2.1 .shallow), (903, .sl 23 (.sl (.int .i64)) r.2.2.2.2 (.deep true .no))])
  | _, _ => .fail

noncomputable def C_spec_l10Rename : Cfg := { y := tys, n := 57, h := 0, tab := [], cut := [1, 2, 6], hand := [], good := [], deep := [53], sched := [(1, (.first 0 (.first 1 (.first 3 (.first 4 (.first 6 (.first 7 (.alt 2 (.alt 5 (.alt 8 (.alt 9 (.alt 10 .done .stop) .stop) (.alt 9 (.alt 8 (.alt 10 .done .stop) .stop) .stop)) (.alt 9 (.alt 5 (.alt 8 (.alt 10 .done .stop) .stop) .stop) .stop)) (.alt 9 (.alt 2 (.alt 5 (.alt 8 (.alt 10 .done .stop) .stop) .stop) .stop) .stop))))))))), (5, (.first 0 (.first 2 (.first 3 (.first 4 (.first 5 (.first 6 (.first 7 (.first 8 (.first 9 (.alt 1 (.alt 10 (.alt 11 (.first 12 (.alt 13 .done .stop)) .stop) .stop) (.alt 10 (.alt 1 (.alt 11 (.first 12 (.alt 13 .done .stop)) .stop) .stop) .stop)))))))))))), (9, (.first 0 (.first 3 (.first 4 (.first 5 (.first 6 (.first 7 (.alt 1 (.alt 2 (.alt 8 (.alt 9 (.alt 10 (.first 11 (.alt 12 .done .stop)) .stop) .stop) .stop) .stop) (.alt 2 (.alt 1 (.alt 8 (.alt 9 (.alt 10 (.first 11 (.alt 12 .done .stop)) .stop) .stop) .stop) (.alt 8 (.alt 1 (.alt 9 (.alt 10 (.first 11 (.alt 12 .done .stop)) .stop) .stop) (.alt 9 (.alt 1 (.alt 10 (.first 11 (.alt 12 .done .stop)) .stop) .stop) .stop)) .stop)) .stop)))))))))] }

theorem t_spec_l10Rename : TabOk Try.prog C_spec_l10Rename := tabOk_of (fun p h => by cases h)

theorem k_spec_l10Rename : Entry Try.prog 126 c_spec_l10Rename := by
  refine entry_by (C := C_spec_l10Rename) mixed tys_ok t_spec_l10Rename (fn := Try.f126) (c := bd Try.f126) (by kernel_rfl) (by kernel_rfl) (by kernel_rfl) (by kernel_rfl) ?_
  intro args st k he
  unfold c_spec_l10Rename at he
  split at he
  rotate_left
  · exact he.elim
  rename_i r__0 r__1 r__2 r__3 r__4 perm
  have he : Ok (spec_l10Rename (r__0, (r__1, (r__2, (r__3, r__4)))) perm) (fun r => k (.agg [.int .i64 r.1, .own 901 false, .own 902 false, .int .i64 r.2.1, .own 903 false]) [(900, .rc [.int .i64 r.1, .own 901 false, .own 902 false, .int .i64 r.2.1, .own 903 false]), (901, .sl 3 (.int .i64) r.2.2.1 .shallow), (902, .sl 3 (.int .i64) r.2.2.2.1 .shallow), (903, .sl 23 (.sl (.int .i64)) r.2.2.2.2 (.deep true .no))]) := he
  refine ⟨rfl, rfl, ?_⟩
  refine seq_model mixed tys_ok t_spec_l10Rename (S := Unit) (I := (fun _ => (envOf [(1, .c (.imm (.int .i64) perm)), (2, .c (.iptr (.pair (.int .i64) (.pair (.sl (.int .i64)) (.pair (.sl (.int .i64)) (.pair (.int .i64) (.sl (.sl (.int .i64))))))) (r__0, (r__1, (r__2, (r__3, r__4)))) 0)), (4, .c (.ptr 10000000 0))], [(10000000, .rc [.int .i64 (0:Int), .nil, .nil, .int .i64 (0:Int), .nil])]))) (B := fun s => Ok (spec_l10Rename_j1 (r__0, (r__1, (r__2, (r__3, r__4)))) perm s) (fun r => k (.agg [.int .i64 r.1, .own 901 false, .own 902 false, .int .i64 r.2.1, .own 903 false]) [(900, .rc [.int .i64 r.1, .own 901 false, .own 902 false, .int .i64 r.2.1, .own 903 false]), (901, .sl 3 (.int .i64) r.2.2.1 .shallow), (902, .sl 3 (.int .i64) r.2.2.2.1 .shallow), (903, .sl 23 (.sl (.int .i64)) r.2.2.2.2 (.deep true .no))])) ?_ ?_
  · rintro ⟨⟩ he
    refine seq_model mixed tys_ok t_spec_l10Rename (S := Unit) (I := (fun _ => (envOf [(1, .c (.imm (.int .i64) perm)), (2, .c (.iptr (.pair (.int .i64) (.pair (.sl (.int .i64)) (.pair (.sl (.int .i64)) (.pair (.int .i64) (.sl (.sl (.int .i64))))))) (r__0, (r__1, (r__2, (r__3, r__4)))) 0)), (4, .c (.ptr 10001000 0)), (5, .c (.ptr 10001001 0))], [(10001000, .rc [.int .i64 (0:Int), .nil, .nil, .int .i64 (0:Int), .nil]), (10001001, .rc [.int .i64 (r__0, (r__1, (r__2, (r__3, r__4)))).1, .nil, .own 10001002 false, .int .i64 (r__0, (r__1, (r__2, (r__3, r__4)))).2.2.2.1, .nil]), (10001002, .sl 3 (.int .i64) (([] : List Int) ++ (r__0, (r__1, (r__2, (r__3, r__4)))).2.2.1) .shallow)]))) (B := fun s => Ok (spec_l10Rename_j2 (r__0, (r__1, (r__2, (r__3, r__4)))) perm s) (fun r => k (.agg [.int .i64 r.1, .own 901 false, .own 902 false, .int .i64 r.2.1, .own 903 false]) [(900, .rc [.int .i64 r.1, .own 901 false, .own 902 false, .int .i64 r.2.1, .own 903 false]), (901, .sl 3 (.int .i64) r.2.2.1 .shallow), (902, .sl 3 (.int .i64) r.2.2.2.1 .shallow), (903, .sl 23 (.sl (.int .i64)) r.2.2.2.2 (.deep true .no))])) ?_ ?_
    · rintro ⟨⟩ he
      refine seq_model mixed tys_ok t_spec_l10Rename (S := (List Int)) (I := (fun out_11 => (envOf [(2, .c (.iptr (.pair (.int .i64) (.pair (.sl (.int .i64)) (.pair (.sl (.int .i64)) (.pair (.int .i64) (.sl (.sl (.int .i64))))))) (r__0, (r__1, (r__2, (r__3, r__4)))) 0)), (4, .c (.ptr 10003000 0)), (5, .c (.ptr 10003001 0))], [(10003000, .rc [.int .i64 (0:Int), .nil, .nil, .int .i64 (0:Int), .nil]), (10003001, .rc [.int .i64 (r__0, (r__1, (r__2, (r__3, r__4)))).1, .own 10003002 false, .own 10003003 false, .int .i64 (r__0, (r__1, (r__2, (r__3, r__4)))).2.2.2.1, .nil]), (10003002, .sl 3 (.int .i64) out_11 .shallow), (10003003, .sl 3 (.int .i64) (([] : List Int) ++ (r__0, (r__1, (r__2, (r__3, r__4)))).2.2.1) .shallow)]))) (B := fun s => Ok (spec_l10Rename_j3 (r__0, (r__1, (r__2, (r__3, r__4)))) s) (fun r => k (.agg [.int .i64 r.1, .own 901 false, .own 902 false, .int .i64 r.2.1, .own 903 false]) [(900, .rc [.int .i64 r.1, .own 901 false, .own 902 false, .int .i64 r.2.1, .own 903 false]), (901, .sl 3 (.int .i64) r.2.2.1 .shallow), (902, .sl 3 (.int .i64) r.2.2.2.1 .shallow), (903, .sl 23 (.sl (.int .i64)) r.2.2.2.2 (.deep true .no))])) ?_ ?_
      · rintro out_11 he
        refine loop_model mixed tys_ok t_spec_l10Rename (S := Int × (List (List Int))) (I := (fun (i1, out_4) => (envOf [(2, .c (.iptr (.pair (.int .i64) (.pair (.sl (.int .i64)) (.pair (.sl (.int .i64)) (.pair (.int .i64) (.sl (.sl (.int .i64))))))) (r__0, (r__1, (r__2, (r__3, r__4)))) 0)), (4, .c (.ptr 10004000 0)), (5, .c (.ptr 10004001 0)), (7, .c (.int .i64 i1))], [(10004000, .rc [.int .i64 (0:Int), .nil, .nil, .int .i64 (0:Int), .nil]), (10004001, .rc [.int .i64 (r__0, (r__1, (r__2, (r__3, r__4)))).1, .own 10004002 false, .own 10004003 false, .int .i64 (r__0, (r__1, (r__2, (r__3, r__4)))).2.2.2.1, .own 10004004 false]), (10004002, .sl 3 (.int .i64) out_11 .shallow), (10004003, .sl 3 (.int .i64) (([] : List Int) ++ (r__0, (r__1, (r__2, (r__3, r__4)))).2.2.1) .shallow), (10004004, .sl 23 (.sl (.int .i64)) out_4 (.deep true .no))]))) (f := spec_l10Rename_l1 (r__0, (r__1, (r__2, (r__3, r__4)))) out_11) (K := (fun r => k (.agg [.int .i64 r.1, .own 901 false, .own 902 false, .int .i64 r.2.1, .own 903 false]) [(900, .rc [.int .i64 r.1, .own 901 false, .own 902 false, .int .i64 r.2.1, .own 903 false]), (901, .sl 3 (.int .i64) r.2.2.1 .shallow), (902, .sl 3 (.int .i64) r.2.2.2.1 .shallow), (903, .sl 23 (.sl (.int .i64)) r.2.2.2.2 (.deep true .no))])) he (leads_ren [(10004000, 10003000), (10004001, 10003001), (10004002, 10003002), (10004003, 10003003)] (l := [(2, .c (.iptr (.pair (.int .i64) (.pair (.sl (.int .i64)) (.pair (.sl (.int .i64)) (.pair (.int .i64) (.sl (.sl (.int .i64))))))) (r__0, (r__1, (r__2, (r__3, r__4)))) 0)), (4, .c (.ptr 10004000 0)), (5, .c (.ptr 10004001 0)), (7, .c (.int .i64 (0:Int)))]) (st' := [(10004000, .rc [.int .i64 (0:Int), .nil, .nil, .int .i64 (0:Int), .nil]), (10004001, .rc [.int .i64 (r__0, (r__1, (r__2, (r__3, r__4)))).1, .own 10004002 false, .own 10004003 false, .int .i64 (r__0, (r__1, (r__2, (r__3, r__4)))).2.2.2.1, .own 10004004 false]), (10004002, .sl 3 (.int .i64) out_11 .shallow), (10004003, .sl 3 (.int .i64) (([] : List Int) ++ (r__0, (r__1, (r__2, (r__3, r__4)))).2.2.1) .shallow), (10004004, .sl 23 (.sl (.int .i64)) ([] : List (List Int)) (.deep true .no))]) rfl rfl ⟨⟨rfl, rfl, rfl, rfl, rfl, trivial⟩, ⟨rfl, ⟨⟨rfl, rfl⟩, trivial⟩, ⟨⟨rfl, rfl⟩, trivial⟩, rfl, ⟨rfl, trivial⟩, trivial⟩, ⟨rfl, rfl⟩, ⟨rfl, rfl⟩, trivial, trivial⟩ ⟨.inl rfl, ⟨⟨rfl, rfl⟩, rfl⟩, ⟨⟨rfl, rfl⟩, rfl⟩, rfl, trivial⟩) ?_
        rintro ⟨i1, out_4⟩ J1 he
        refine And.intro (fun hb => ?_) (fun hb => ?_)
        · have he := ok_t he hb
          refine And.intro (by kernel_rfl) ?_
          have he := ok_rq he
          refine And.intro he.1 ?_
          have he := he.2
          have he := ok_rq he
          have hq1 := he.1
          have he := he.2
          have he := ok_rq he
          have hq2 := he.1
          have he := he.2
          refine And.intro ?_ (And.intro ?_ (trivial))
          · skip
            refine And.intro ?_ trivial
            refine And.intro ?_ trivial
            refine And.intro hq1 ?_
            refine And.intro ?_ trivial
            refine And.intro ?_ trivial
            refine And.intro hq2 ?_
            refine And.intro ?_ trivial
            have he := ok_rq he
            refine And.intro he.1 ?_
            have he := he.2
            have he := ok_some he
            exact ⟨((i1 + (1:Int)), (out_4 ++ [(([] : List Int) ++ ((r__0, (r__1, (r__2, (r__3, r__4)))).2.2.2.2.getD i1.toNat []))])), he, (leads_ren [(10004004, 54)] (l := [(2, .c (.iptr (.pair (.int .i64) (.pair (.sl (.int .i64)) (.pair (.sl (.int .i64)) (.pair (.int .i64) (.sl (.sl (.int .i64))))))) (r__0, (r__1, (r__2, (r__3, r__4)))) 0)), (4, .c (.ptr 10004000 0)), (5, .c (.ptr 10004001 0)), (7, .c (.int .i64 (i1 + (1:Int))))]) (st' := [(10004000, .rc [.int .i64 (0:Int), .nil, .nil, .int .i64 (0:Int), .nil]), (10004001, .rc [.int .i64 (r__0, (r__1, (r__2, (r__3, r__4)))).1, .own 10004002 false, .own 10004003 false, .int .i64 (r__0, (r__1, (r__2, (r__3, r__4)))).2.2.2.1, .own 10004004 false]), (10004002, .sl 3 (.int .i64) out_11 .shallow), (10004003, .sl 3 (.int .i64) (([] : List Int) ++ (r__0, (r__1, (r__2, (r__3, r__4)))).2.2.1) .shallow), (10004004, .sl 23 (.sl (.int .i64)) (out_4 ++ [(([] : List Int) ++ ((r__0, (r__1, (r__2, (r__3, r__4)))).2.2.2.2.getD i1.toNat []))]) (.deep true .no))]) rfl rfl ⟨⟨rfl, rfl, rfl, rfl, rfl, trivial⟩, ⟨rfl, ⟨⟨rfl, rfl⟩, trivial⟩, ⟨⟨rfl, rfl⟩, trivial⟩, rfl, ⟨⟨rfl, rfl⟩, trivial⟩, trivial⟩, ⟨rfl, rfl⟩, ⟨rfl, rfl⟩, ⟨rfl, rfl⟩, trivial⟩ ⟨.inl rfl, ⟨⟨rfl, rfl⟩, rfl⟩, ⟨⟨rfl, rfl⟩, rfl⟩, rfl, trivial⟩)⟩
          · skip
            refine And.intro ?_ (And.intro ?_ (trivial))
            · skip
              refine And.intro ?_ trivial
              refine And.intro hq1 ?_
              refine And.intro ?_ trivial
              refine And.intro ?_ trivial
              refine And.intro hq2 ?_
              refine And.intro ?_ trivial
              have he := ok_rq he
              refine And.intro he.1 ?_
              have he := he.2
              have he := ok_some he
              exact ⟨((i1 + (1:Int)), (out_4 ++ [(([] : List Int) ++ ((r__0, (r__1, (r__2, (r__3, r__4)))).2.2.2.2.getD i1.toNat []))])), he, (leads_ren [(10004004, 54)] (l := [(2, .c (.iptr (.pair (.int .i64) (.pair (.sl (.int .i64)) (.pair (.sl (.int .i64)) (.pair (.int .i64) (.sl (.sl (.int .i64))))))) (r__0, (r__1, (r__2, (r__3, r__4)))) 0)), (4, .c (.ptr 10004000 0)), (5, .c (.ptr 10004001 0)), (7, .c (.int .i64 (i1 + (1:Int))))]) (st' := [(10004000, .rc [.int .i64 (0:Int), .nil, .nil, .int .i64 (0:Int), .nil]), (10004001, .rc [.int .i64 (r__0, (r__1, (r__2, (r__3, r__4)))).1, .own 10004002 false, .own 10004003 false, .int .i64 (r__0, (r__1, (r__2, (r__3, r__4)))).2.2.2.1, .own 10004004 false]), (10004002, .sl 3 (.int .i64) out_11 .shallow), (10004003, .sl 3 (.int .i64) (([] : List Int) ++ (r__0, (r__1, (r__2, (r__3, r__4)))).2.2.1) .shallow), (10004004, .sl 23 (.sl (.int .i64)) (out_4 ++ [(([] : List Int) ++ ((r__0, (r__1, (r__2, (r__3, r__4)))).2.2.2.2.getD i1.toNat []))]) (.deep true .no))]) rfl rfl ⟨⟨rfl, rfl, rfl, rfl, rfl, trivial⟩, ⟨rfl, ⟨⟨rfl, rfl⟩, trivial⟩, ⟨⟨rfl, rfl⟩, trivial⟩, rfl, ⟨⟨rfl, rfl⟩, trivial⟩, trivial⟩, ⟨rfl, rfl⟩, ⟨rfl, rfl⟩, ⟨rfl, rfl⟩, trivial⟩ ⟨.inl rfl, ⟨⟨rfl, rfl⟩, rfl⟩, ⟨⟨rfl, rfl⟩, rfl⟩, rfl, trivial⟩)⟩
            · skip
              refine And.intro hq1 ?_
              refine And.intro ?_ (And.intro ?_ (trivial))
              · skip
                refine And.intro ?_ trivial
                refine And.intro ?_ trivial
                refine And.intro hq2 ?_
                refine And.intro ?_ trivial
                have he := ok_rq he
                refine And.intro he.1 ?_
                have he := he.2
                have he := ok_some he
                exact ⟨((i1 + (1:Int)), (out_4 ++ [(([] : List Int) ++ ((r__0, (r__1, (r__2, (r__3, r__4)))).2.2.2.2.getD i1.toNat []))])), he, (leads_ren [(10004004, 54)] (l := [(2, .c (.iptr (.pair (.int .i64) (.pair (.sl (.int .i64)) (.pair (.sl (.int .i64)) (.pair (.int .i64) (.sl (.sl (.int .i64))))))) (r__0, (r__1, (r__2, (r__3, r__4)))) 0)), (4, .c (.ptr 10004000 0)), (5, .c (.ptr 10004001 0)), (7, .c (.int .i64 (i1 + (1:Int))))]) (st' := [(10004000, .rc [.int .i64 (0:Int), .nil, .nil, .int .i64 (0:Int), .nil]), (10004001, .rc [.int .i64 (r__0, (r__1, (r__2, (r__3, r__4)))).1, .own 10004002 false, .own 10004003 false, .int .i64 (r__0, (r__1, (r__2, (r__3, r__4)))).2.2.2.1, .own 10004004 false]), (10004002, .sl 3 (.int .i64) out_11 .shallow), (10004003, .sl 3 (.int .i64) (([] : List Int) ++ (r__0, (r__1, (r__2, (r__3, r__4)))).2.2.1) .shallow), (10004004, .sl 23 (.sl (.int .i64)) (out_4 ++ [(([] : List Int) ++ ((r__0, (r__1, (r__2, (r__3, r__4)))).2.2.2.2.getD i1.toNat []))]) (.deep true .no))]) rfl rfl ⟨⟨rfl, rfl, rfl, rfl, rfl, trivial⟩, ⟨rfl, ⟨⟨rfl, rfl⟩, trivial⟩, ⟨⟨rfl, rfl⟩, trivial⟩, rfl, ⟨⟨rfl, rfl⟩, trivial⟩, trivial⟩, ⟨rfl, rfl⟩, ⟨rfl, rfl⟩, ⟨rfl, rfl⟩, trivial⟩ ⟨.inl rfl, ⟨⟨rfl, rfl⟩, rfl⟩, ⟨⟨rfl, rfl⟩, rfl⟩, rfl, trivial⟩)⟩
              · skip
                refine And.intro ?_ trivial
                refine And.intro ?_ trivial
                refine And.intro hq2 ?_
                refine And.intro ?_ trivial
                have he := ok_rq he
                refine And.intro he.1 ?_
                have he := he.2
                have he := ok_some he
                exact ⟨((i1 + (1:Int)), (out_4 ++ [(([] : List Int) ++ ((r__0, (r__1, (r__2, (r__3, r__4)))).2.2.2.2.getD i1.toNat []))])), he, (leads_ren [(10004004, 54)] (l := [(2, .c (.iptr (.pair (.int .i64) (.pair (.sl (.int .i64)) (.pair (.sl (.int .i64)) (.pair (.int .i64) (.sl (.sl (.int .i64))))))) (r__0, (r__1, (r__2, (r__3, r__4)))) 0)), (4, .c (.ptr 10004000 0)), (5, .c (.ptr 10004001 0)), (7, .c (.int .i64 (i1 + (1:Int))))]) (st' := [(10004000, .rc [.int .i64 (0:Int), .nil, .nil, .int .i64 (0:Int), .nil]), (10004001, .rc [.int .i64 (r__0, (r__1, (r__2, (r__3, r__4)))).1, .own 10004002 false, .own 10004003 false, .int .i64 (r__0, (r__1, (r__2, (r__3, r__4)))).2.2.2.1, .own 10004004 false]), (10004002, .sl 3 (.int .i64) out_11 .shallow), (10004003, .sl 3 (.int .i64) (([] : List Int) ++ (r__0, (r__1, (r__2, (r__3, r__4)))).2.2.1) .shallow), (10004004, .sl 23 (.sl (.int .i64)) (out_4 ++ [(([] : List Int) ++ ((r__0, (r__1, (r__2, (r__3, r__4)))).2.2.2.2.getD i1.toNat []))]) (.deep true .no))]) rfl rfl ⟨⟨rfl, rfl, rfl, rfl, rfl, trivial⟩, ⟨rfl, ⟨⟨rfl, rfl⟩, trivial⟩, ⟨⟨rfl, rfl⟩, trivial⟩, rfl, ⟨⟨rfl, rfl⟩, trivial⟩, trivial⟩, ⟨rfl, rfl⟩, ⟨rfl, rfl⟩, ⟨rfl, rfl⟩, trivial⟩ ⟨.inl rfl, ⟨⟨rfl, rfl⟩, rfl⟩, ⟨⟨rfl, rfl⟩, rfl⟩, rfl, trivial⟩)⟩
        · have he := ok_f he hb
          have he := ok_some he
          exact ⟨rfl, _, _, (leads_ren [(900, 10004000), (901, 10004002), (902, 10004003), (903, 10004004)] (l := [(4, .c (.ptr 900 0))]) (st' := [(900, .rc [.int .i64 (r__0, (r__1, (r__2, (r__3, r__4)))).1, .own 901 false, .own 902 false, .int .i64 (r__0, (r__1, (r__2, (r__3, r__4)))).2.2.2.1, .own 903 false]), (901, .sl 3 (.int .i64) out_11 .shallow), (902, .sl 3 (.int .i64) (([] : List Int) ++ (r__0, (r__1, (r__2, (r__3, r__4)))).2.2.1) .shallow), (903, .sl 23 (.sl (.int .i64)) out_4 (.deep true .no))]) rfl rfl ⟨⟨rfl, ⟨⟨rfl, rfl⟩, trivial⟩, ⟨⟨rfl, rfl⟩, trivial⟩, rfl, ⟨⟨rfl, rfl⟩, trivial⟩, trivial⟩, ⟨rfl, rfl⟩, ⟨rfl, rfl⟩, ⟨rfl, rfl⟩, trivial⟩ ⟨⟨⟨rfl, rfl⟩, rfl⟩, trivial⟩), he⟩
      · skip
        refine loop_model mixed tys_ok t_spec_l10Rename (S := Int × (List Int)) (I := (fun (i, out_1) => (envOf [(1, .c (.imm (.int .i64) perm)), (2, .c (.iptr (.pair (.int .i64) (.pair (.sl (.int .i64)) (.pair (.sl (.int .i64)) (.pair (.int .i64) (.sl (.sl (.int .i64))))))) (r__0, (r__1, (r__2, (r__3, r__4)))) 0)), (4, .c (.ptr 10002000 0)), (5, .c (.ptr 10002001 0)), (6, .c (.int .i64 i))], [(10002000, .rc [.int .i64 (0:Int), .nil, .nil, .int .i64 (0:Int), .nil]), (10002001, .rc [.int .i64 (r__0, (r__1, (r__2, (r__3, r__4)))).1, .own 10002002 false, .own 10002003 false, .int .i64 (r__0, (r__1, (r__2, (r__3, r__4)))).2.2.2.1, .nil]), (10002002, .sl 3 (.int .i64) out_1 .shallow), (10002003, .sl 3 (.int .i64) (([] : List Int) ++ (r__0, (r__1, (r__2, (r__3, r__4)))).2.2.1) .shallow)]))) (f := spec_l10Rename_l2 (r__0, (r__1, (r__2, (r__3, r__4)))) perm) (K := (fun r => k (.agg [.int .i64 r.1, .own 901 false, .own 902 false, .int .i64 r.2.1, .own 903 false]) [(900, .rc [.int .i64 r.1, .own 901 false, .own 902 false, .int .i64 r.2.1, .own 903 false]), (901, .sl 3 (.int .i64) r.2.2.1 .shallow), (902, .sl 3 (.int .i64) r.2.2.2.1 .shallow), (903, .sl 23 (.sl (.int .i64)) r.2.2.2.2 (.deep true .no))])) he (leads_ren [(10002000, 10001000), (10002001, 10001001), (10002003, 10001002)] (l := [(1, .c (.imm (.int .i64) perm)), (2, .c (.iptr (.pair (.int .i64) (.pair (.sl (.int .i64)) (.pair (.sl (.int .i64)) (.pair (.int .i64) (.sl (.sl (.int .i64))))))) (r__0, (r__1, (r__2, (r__3, r__4)))) 0)), (4, .c (.ptr 10002000 0)), (5, .c (.ptr 10002001 0)), (6, .c (.int .i64 (0:Int)))]) (st' := [(10002000, .rc [.int .i64 (0:Int), .nil, .nil, .int .i64 (0:Int), .nil]), (10002001, .rc [.int .i64 (r__0, (r__1, (r__2, (r__3, r__4)))).1, .own 10002002 false, .own 10002003 false, .int .i64 (r__0, (r__1, (r__2, (r__3, r__4)))).2.2.2.1, .nil]), (10002002, .sl 3 (.int .i64) ([] : List Int) .shallow), (10002003, .sl 3 (.int .i64) (([] : List Int) ++ (r__0, (r__1, (r__2, (r__3, r__4)))).2.2.1) .shallow)]) rfl rfl ⟨⟨rfl, rfl, rfl, rfl, rfl, trivial⟩, ⟨rfl, ⟨rfl, trivial⟩, ⟨⟨rfl, rfl⟩, trivial⟩, rfl, rfl, trivial⟩, trivial, ⟨rfl, rfl⟩, trivial⟩ ⟨.inl rfl, .inl rfl, ⟨⟨rfl, rfl⟩, rfl⟩, ⟨⟨rfl, rfl⟩, rfl⟩, rfl, trivial⟩) ?_
        rintro ⟨i, out_1⟩ J1 he
        refine And.intro (fun hb => ?_) (fun hb => ?_)
        · have he := ok_t he hb
          refine And.intro (by kernel_rfl) ?_
          have he := ok_rq he
          refine And.intro he.1 ?_
          have he := he.2
          have he := ok_rq he
          refine And.intro he.1 ?_
          have he := he.2
          have he := ok_rq he
          have hq1 := he.1
          have he := he.2
          refine And.intro ?_ (And.intro ?_ (trivial))
          · skip
            refine And.intro ?_ trivial
            refine And.intro ?_ trivial
            refine And.intro hq1 ?_
            refine And.intro ?_ trivial
            have he := ok_rq he
            refine And.intro he.1 ?_
            have he := he.2
            have he := ok_some he
            exact ⟨((i + (1:Int)), (out_1 ++ [(perm.getD ((r__0, (r__1, (r__2, (r__3, r__4)))).2.1.getD i.toNat 0).toNat 0)])), he, (leads_ren [(10002002, 35)] (l := [(1, .c (.imm (.int .i64) perm)), (2, .c (.iptr (.pair (.int .i64) (.pair (.sl (.int .i64)) (.pair (.sl (.int .i64)) (.pair (.int .i64) (.sl (.sl (.int .i64))))))) (r__0, (r__1, (r__2, (r__3, r__4)))) 0)), (4, .c (.ptr 10002000 0)), (5, .c (.ptr 10002001 0)), (6, .c (.int .i64 (i + (1:Int))))]) (st' := [(10002000, .rc [.int .i64 (0:Int), .nil, .nil, .int .i64 (0:Int), .nil]), (10002001, .rc [.int .i64 (r__0, (r__1, (r__2, (r__3, r__4)))).1, .own 10002002 false, .own 10002003 false, .int .i64 (r__0, (r__1, (r__2, (r__3, r__4)))).2.2.2.1, .nil]), (10002002, .sl 3 (.int .i64) (out_1 ++ [(perm.getD ((r__0, (r__1, (r__2, (r__3, r__4)))).2.1.getD i.toNat 0).toNat 0)]) .shallow), (10002003, .sl 3 (.int .i64) (([] : List Int) ++ (r__0, (r__1, (r__2, (r__3, r__4)))).2.2.1) .shallow)]) rfl rfl ⟨⟨rfl, rfl, rfl, rfl, rfl, trivial⟩, ⟨rfl, ⟨⟨rfl, rfl⟩, trivial⟩, ⟨⟨rfl, rfl⟩, trivial⟩, rfl, rfl, trivial⟩, ⟨rfl, rfl⟩, ⟨rfl, rfl⟩, trivial⟩ ⟨.inl rfl, .inl rfl, ⟨⟨rfl, rfl⟩, rfl⟩, ⟨⟨rfl, rfl⟩, rfl⟩, rfl, trivial⟩)⟩
          · skip
            refine And.intro ?_ trivial
            refine And.intro ?_ trivial
            refine And.intro hq1 ?_
            refine And.intro ?_ trivial
            have he := ok_rq he
            refine And.intro he.1 ?_
            have he := he.2
            have he := ok_some he
            exact ⟨((i + (1:Int)), (out_1 ++ [(perm.getD ((r__0, (r__1, (r__2, (r__3, r__4)))).2.1.getD i.toNat 0).toNat 0)])), he, (leads_ren [(10002002, 35)] (l := [(1, .c (.imm (.int .i64) perm)), (2, .c (.iptr (.pair (.int .i64) (.pair (.sl (.int .i64)) (.pair (.sl (.int .i64)) (.pair (.int .i64) (.sl (.sl (.int .i64))))))) (r__0, (r__1, (r__2, (r__3, r__4)))) 0)), (4, .c (.ptr 10002000 0)), (5, .c (.ptr 10002001 0)), (6, .c (.int .i64 (i + (1:Int))))]) (st' := [(10002000, .rc [.int .i64 (0:Int), .nil, .nil, .int .i64 (0:Int), .nil]), (10002001, .rc [.int .i64 (r__0, (r__1, (r__2, (r__3, r__4)))).1, .own 10002002 false, .own 10002003 false, .int .i64 (r__0, (r__1, (r__2, (r__3, r__4)))).2.2.2.1, .nil]), (10002002, .sl 3 (.int .i64) (out_1 ++ [(perm.getD ((r__0, (r__1, (r__2, (r__3, r__4)))).2.1.getD i.toNat 0).toNat 0)]) .shallow), (10002003, .sl 3 (.int .i64) (([] : List Int) ++ (r__0, (r__1, (r__2, (r__3, r__4)))).2.2.1) .shallow)]) rfl rfl ⟨⟨rfl, rfl, rfl, rfl, rfl, trivial⟩, ⟨rfl, ⟨⟨rfl, rfl⟩, trivial⟩, ⟨⟨rfl, rfl⟩, trivial⟩, rfl, rfl, trivial⟩, ⟨rfl, rfl⟩, ⟨rfl, rfl⟩, trivial⟩ ⟨.inl rfl, .inl rfl, ⟨⟨rfl, rfl⟩, rfl⟩, ⟨⟨rfl, rfl⟩, rfl⟩, rfl, trivial⟩)⟩
        · have he := ok_f he hb
          exact ⟨out_1, ok_up he, (leads_ren [(10003000, 10002000), (10003001, 10002001), (10003002, 10002002), (10003003, 10002003)] (l := [(2, .c (.iptr (.pair (.int .i64) (.pair (.sl (.int .i64)) (.pair (.sl (.int .i64)) (.pair (.int .i64) (.sl (.sl (.int .i64))))))) (r__0, (r__1, (r__2, (r__3, r__4)))) 0)), (4, .c (.ptr 10003000 0)), (5, .c (.ptr 10003001 0))]) (st' := [(10003000, .rc [.int .i64 (0:Int), .nil, .nil, .int .i64 (0:Int), .nil]), (10003001, .rc [.int .i64 (r__0, (r__1, (r__2, (r__3, r__4)))).1, .own 10003002 false, .own 10003003 false, .int .i64 (r__0, (r__1, (r__2, (r__3, r__4)))).2.2.2.1, .nil]), (10003002, .sl 3 (.int .i64) out_1 .shallow), (10003003, .sl 3 (.int .i64) (([] : List Int) ++ (r__0, (r__1, (r__2, (r__3, r__4)))).2.2.1) .shallow)]) rfl rfl ⟨⟨rfl, rfl, rfl, rfl, rfl, trivial⟩, ⟨rfl, ⟨⟨rfl, rfl⟩, trivial⟩, ⟨⟨rfl, rfl⟩, trivial⟩, rfl, rfl, trivial⟩, ⟨rfl, rfl⟩, ⟨rfl, rfl⟩, trivial⟩ ⟨.inl rfl, ⟨⟨rfl, rfl⟩, rfl⟩, ⟨⟨rfl, rfl⟩, rfl⟩, trivial⟩)⟩
    · skip
      refine And.intro (by kernel_rfl) ?_
      have he := ok_rq he
      have hq1 := he.1
      have he := he.2
      refine And.intro ?_ (And.intro ?_ (trivial))
      · skip
        refine And.intro ?_ (And.intro ?_ (trivial))
        · skip
          refine And.intro hq1 ?_
          refine And.intro ?_ (And.intro ?_ (trivial))
          · skip
            refine And.intro ?_ trivial
            refine And.intro ?_ trivial
            exact ⟨(), he, (leads_ren [(10001000, 10000000), (10001001, 5), (10001002, 13)] (l := [(1, .c (.imm (.int .i64) perm)), (2, .c (.iptr (.pair (.int .i64) (.pair (.sl (.int .i64)) (.pair (.sl (.int .i64)) (.pair (.int .i64) (.sl (.sl (.int .i64))))))) (r__0, (r__1, (r__2, (r__3, r__4)))) 0)), (4, .c (.ptr 10001000 0)), (5, .c (.ptr 10001001 0))]) (st' := [(10001000, .rc [.int .i64 (0:Int), .nil, .nil, .int .i64 (0:Int), .nil]), (10001001, .rc [.int .i64 (r__0, (r__1, (r__2, (r__3, r__4)))).1, .nil, .own 10001002 false, .int .i64 (r__0, (r__1, (r__2, (r__3, r__4)))).2.2.2.1, .nil]), (10001002, .sl 3 (.int .i64) (([] : List Int) ++ (r__0, (r__1, (r__2, (r__3, r__4)))).2.2.1) .shallow)]) rfl rfl ⟨⟨rfl, rfl, rfl, rfl, rfl, trivial⟩, ⟨rfl, rfl, ⟨⟨rfl, rfl⟩, trivial⟩, rfl, rfl, trivial⟩, ⟨rfl, rfl⟩, trivial⟩ ⟨.inl rfl, .inl rfl, ⟨⟨rfl, rfl⟩, rfl⟩, ⟨⟨rfl, rfl⟩, rfl⟩, trivial⟩)⟩
          · skip
            refine And.intro ?_ trivial
            refine And.intro ?_ trivial
            exact ⟨(), he, (leads_ren [(10001000, 10000000), (10001001, 5), (10001002, 13)] (l := [(1, .c (.imm (.int .i64) perm)), (2, .c (.iptr (.pair (.int .i64) (.pair (.sl (.int .i64)) (.pair (.sl (.int .i64)) (.pair (.int .i64) (.sl (.sl (.int .i64))))))) (r__0, (r__1, (r__2, (r__3, r__4)))) 0)), (4, .c (.ptr 10001000 0)), (5, .c (.ptr 10001001 0))]) (st' := [(10001000, .rc [.int .i64 (0:Int), .nil, .nil, .int .i64 (0:Int), .nil]), (10001001, .rc [.int .i64 (r__0, (r__1, (r__2, (r__3, r__4)))).1, .nil, .own 10001002 false, .int .i64 (r__0, (r__1, (r__2, (r__3, r__4)))).2.2.2.1, .nil]), (10001002, .sl 3 (.int .i64) (([] : List Int) ++ (r__0, (r__1, (r__2, (r__3, r__4)))).2.2.1) .shallow)]) rfl rfl ⟨⟨rfl, rfl, rfl, rfl, rfl, trivial⟩, ⟨rfl, rfl, ⟨⟨rfl, rfl⟩, trivial⟩, rfl, rfl, trivial⟩, ⟨rfl, rfl⟩, trivial⟩ ⟨.inl rfl, .inl rfl, ⟨⟨rfl, rfl⟩, rfl⟩, ⟨⟨rfl, rfl⟩, rfl⟩, trivial⟩)⟩
        · skip
          refine And.intro ?_ trivial
          refine And.intro hq1 ?_
          refine And.intro ?_ trivial
          refine And.intro ?_ trivial
          exact ⟨(), he, (leads_ren [(10001000, 10000000), (10001001, 5), (10001002, 13)] (l := [(1, .c (.imm (.int .i64) perm)), (2, .c (.iptr (.pair (.int .i64) (.pair (.sl (.int .i64)) (.pair (.sl (.int .i64)) (.pair (.int .i64) (.sl (.sl (.int .i64))))))) (r__0, (r__1, (r__2, (r__3, r__4)))) 0)), (4, .c (.ptr 10001000 0)), (5, .c (.ptr 10001001 0))]) (st' := [(10001000, .rc [.int .i64 (0:Int), .nil, .nil, .int .i64 (0:Int), .nil]), (10001001, .rc [.int .i64 (r__0, (r__1, (r__2, (r__3, r__4)))).1, .nil, .own 10001002 false, .int .i64 (r__0, (r__1, (r__2, (r__3, r__4)))).2.2.2.1, .nil]), (10001002, .sl 3 (.int .i64) (([] : List Int) ++ (r__0, (r__1, (r__2, (r__3, r__4)))).2.2.1) .shallow)]) rfl rfl ⟨⟨rfl, rfl, rfl, rfl, rfl, trivial⟩, ⟨rfl, rfl, ⟨⟨rfl, rfl⟩, trivial⟩, rfl, rfl, trivial⟩, ⟨rfl, rfl⟩, trivial⟩ ⟨.inl rfl, .inl rfl, ⟨⟨rfl, rfl⟩, rfl⟩, ⟨⟨rfl, rfl⟩, rfl⟩, trivial⟩)⟩
      · skip
        refine And.intro ?_ trivial
        refine And.intro ?_ trivial
        refine And.intro hq1 ?_
        refine And.intro ?_ trivial
        refine And.intro ?_ trivial
        exact ⟨(), he, (leads_ren [(10001000, 10000000), (10001001, 5), (10001002, 13)] (l := [(1, .c (.imm (.int .i64) perm)), (2, .c (.iptr (.pair (.int .i64) (.pair (.sl (.int .i64)) (.pair (.sl (.int .i64)) (.pair (.int .i64) (.sl (.sl (.int .i64))))))) (r__0, (r__1, (r__2, (r__3, r__4)))) 0)), (4, .c (.ptr 10001000 0)), (5, .c (.ptr 10001001 0))]) (st' := [(10001000, .rc [.int .i64 (0:Int), .nil, .nil, .int .i64 (0:Int), .nil]), (10001001, .rc [.int .i64 (r__0, (r__1, (r__2, (r__3, r__4)))).1, .nil, .own 10001002 false, .int .i64 (r__0, (r__1, (r__2, (r__3, r__4)))).2.2.2.1, .nil]), (10001002, .sl 3 (.int .i64) (([] : List Int) ++ (r__0, (r__1, (r__2, (r__3, r__4)))).2.2.1) .shallow)]) rfl rfl ⟨⟨rfl, rfl, rfl, rfl, rfl, trivial⟩, ⟨rfl, rfl, ⟨⟨rfl, rfl⟩, trivial⟩, rfl, rfl, trivial⟩, ⟨rfl, rfl⟩, trivial⟩ ⟨.inl rfl, .inl rfl, ⟨⟨rfl, rfl⟩, rfl⟩, ⟨⟨rfl, rfl⟩, rfl⟩, trivial⟩)⟩
  · skip
    exact ⟨(), he, (leads_ren [(10000000, 4)] (l := [(1, .c (.imm (.int .i64) perm)), (2, .c (.iptr (.pair (.int .i64) (.pair (.sl (.int .i64)) (.pair (.sl (.int .i64)) (.pair (.int .i64) (.sl (.sl (.int .i64))))))) (r__0, (r__1, (r__2, (r__3, r__4)))) 0)), (4, .c (.ptr 10000000 0))]) (st' := [(10000000, .rc [.int .i64 (0:Int), .nil, .nil, .int .i64 (0:Int), .nil])]) rfl rfl ⟨⟨rfl, rfl, rfl, rfl, rfl, trivial⟩, trivial⟩ ⟨.inl rfl, .inr ⟨2, rfl, ⟨rfl, rfl⟩, rfl⟩, ⟨⟨rfl, rfl⟩, rfl⟩, trivial⟩)⟩

noncomputable def c_spec_PermuteModel : Con := fun args st => match args, st with
  | [.agg [.imm (.int .i64) m_0, .imm (.pair (.int .i64) (.pair (.sl (.int .i64)) (.pair (.sl (.int .i64)) (.pair (.int .i64) (.sl (.sl (.int .i64))))))) m_1], .c (.imm (.int .i64) perm)], [] => .opt (Bool × (List Int) × (List (Int × (List Int) × (List Int) × Int × (List (List Int))))) (spec_PermuteModel (m_0, m_1) perm) (fun r => .ret (.tup [.agg [.own 901 false, .own 902 false], .c (.bool r.1)]) [(900, .rc [.own 901 false, .own 902 false]), (901, .sl 3 (.int .i64) r.2.1 .shallow), (902, .sl 124 (.pair (.int .i64) (.pair (.sl (.int .i64)) (.pair (.sl (.int .i64)) (.pair (.int .i64) (.sl (.sl (.int .i64))))))) r.2.2 (.deep true .no))])
  | _, _ => .fail

noncomputable def C_spec_PermuteModel : Cfg := { y := tys, n := 38, h := 0, tab := [(125, c_spec_PermValid), (126, c_spec_l10Rename)], cut := [], hand := [], good := [], deep := [34], sched := [(7, (.first 0 (.first 2 (.first 4 (.first 7 (.alt 1 (.alt 3 (.first 5 (.first 6 (.alt 8 (.alt 9 (.alt 10 (.first 11 (.alt 12 .done .stop)) .stop) .stop) .stop))) .stop) (.alt 3 (.first 5 (.first 6 (.alt 1 (.alt 8 (.alt 9 (.alt 10 (.first 11 (.alt 12 .done .stop)) .stop) .stop) .stop) (.alt 8 (.alt 1 (.alt 9 (.alt 10 (.first 11 (.alt 12 .done .stop)) .stop) .stop) (.alt 9 (.alt 1 (.alt 10 (.first 11 (.alt 12 .done .stop)) .stop) .stop) .stop)) .stop)))) .stop)))))))] }

theorem t_spec_PermuteModel : TabOk Try.prog C_spec_PermuteModel := by
  refine tabOk_of ?_
  simp only [C_spec_PermuteModel, List.forall_mem_cons]
  exact ⟨k_spec_PermValid, k_spec_l10Rename, fun p h => by cases h⟩

theorem k_spec_PermuteModel : Entry Try.prog 36 c_spec_PermuteModel := by
  refine entry_by (C := C_spec_PermuteModel) mixed tys_ok t_spec_PermuteModel (fn := Try.f36) (c := bd Try.f36) (by kernel_rfl) (by kernel_rfl) (by kernel_rfl) (by kernel_rfl) ?_
  intro args st k he
  unfold c_spec_PermuteModel at he
  split at he
  rotate_left
  · exact he.elim
  rename_i m_0 m_1 perm
  have he : Ok (spec_PermuteModel (m_0, m_1) perm) (fun r => k (.tup [.agg [.own 901 false, .own 902 false], .c (.bool r.1)]) [(900, .rc [.own 901 false, .own 902 false]), (901, .sl 3 (.int .i64) r.2.1 .shallow), (902, .sl 124 (.pair (.int .i64) (.pair (.sl (.int .i64)) (.pair (.sl (.int .i64)) (.pair (.int .i64) (.sl (.sl (.int .i64))))))) r.2.2 (.deep true .no))]) := he
  refine ⟨rfl, rfl, ?_⟩
  obtain ⟨r1_, hr, he⟩ := ok_bind he
  refine ⟨r1_, hr, ?_⟩
  refine And.intro (fun hb => ?_) (fun hb => ?_)
  · have he := ok_t he hb
    have he := ok_some he
    exact ⟨rfl, _, _, (leads_ren [(900, 4)] (l := [(4, .c (.ptr 900 0)), (5, .c (.bool false))]) (st' := [(900, .rc [.own 901 false, .own 902 false]), (901, .sl 3 (.int .i64) ([] : List Int) .shallow), (902, .sl 124 (.pair (.int .i64) (.pair (.sl (.int .i64)) (.pair (.sl (.int .i64)) (.pair (.int .i64) (.sl (.sl (.int .i64))))))) ([] : List (Int × (List Int) × (List Int) × Int × (List (List Int)))) (.deep true .no))]) rfl rfl ⟨⟨⟨rfl, trivial⟩, ⟨rfl, trivial⟩, trivial⟩, trivial, trivial, trivial⟩ ⟨⟨⟨rfl, rfl⟩, rfl⟩, .inr rfl, trivial⟩), he⟩
  · have he := ok_f he hb
    have he := ok_rq he
    refine And.intro he.1 ?_
    have he := he.2
    refine loop_model mixed tys_ok t_spec_PermuteModel (S := Int × (List (Int × (List Int) × (List Int) × Int × (List (List Int))))) (I := (fun (i, out_1) => (envOf [(1, .c (.imm (.int .i64) perm)), (2, .c (.ptr 10000000 0)), (4, .c (.ptr 10000001 0)), (6, .c (.ptr 10000002 0)), (7, .c (.int .i64 i))], [(10000000, .rc [.imm (.int .i64) (m_0, m_1).1, .imm (.pair (.int .i64) (.pair (.sl (.int .i64)) (.pair (.sl (.int .i64)) (.pair (.int .i64) (.sl (.sl (.int .i64))))))) (m_0, m_1).2]), (10000001, .rc [.nil, .nil]), (10000002, .rc [.own 10000003 false, .own 10000004 false]), (10000003, .sl 3 (.int .i64) (([] : List Int) ++ (m_0, m_1).1) .shallow), (10000004, .sl 124 (.pair (.int .i64) (.pair (.sl (.int .i64)) (.pair (.sl (.int .i64)) (.pair (.int .i64) (.sl (.sl (.int .i64))))))) out_1 (.deep true .no))]))) (f := spec_PermuteModel_l1 (m_0, m_1) perm) (K := (fun r => k (.tup [.agg [.own 901 false, .own 902 false], .c (.bool r.1)]) [(900, .rc [.own 901 false, .own 902 false]), (901, .sl 3 (.int .i64) r.2.1 .shallow), (902, .sl 124 (.pair (.int .i64) (.pair (.sl (.int .i64)) (.pair (.sl (.int .i64)) (.pair (.int .i64) (.sl (.sl (.int .i64))))))) r.2.2 (.deep true .no))])) he (leads_ren [(10000000, 2), (10000001, 4), (10000002, 6), (10000003, 16)] (l := [(1, .c (.imm (.int .i64) perm)), (2, .c (.ptr 10000000 0)), (4, .c (.ptr 10000001 0)), (6, .c (.ptr 10000002 0)), (7, .c (.int .i64 (0:Int)))]) (st' := [(10000000, .rc [.imm (.int .i64) (m_0, m_1).1, .imm (.pair (.int .i64) (.pair (.sl (.int .i64)) (.pair (.sl (.int .i64)) (.pair (.int .i64) (.sl (.sl (.int .i64))))))) (m_0, m_1).2]), (10000001, .rc [.nil, .nil]), (10000002, .rc [.own 10000003 false, .own 10000004 false]), (10000003, .sl 3 (.int .i64) (([] : List Int) ++ (m_0, m_1).1) .shallow), (10000004, .sl 124 (.pair (.int .i64) (.pair (.sl (.int .i64)) (.pair (.sl (.int .i64)) (.pair (.int .i64) (.sl (.sl (.int .i64))))))) ([] : List (Int × (List Int) × (List Int) × Int × (List (List Int)))) (.deep true .no))]) rfl rfl ⟨⟨.inl rfl, .inl rfl, trivial⟩, ⟨rfl, rfl, trivial⟩, ⟨⟨⟨rfl, rfl⟩, trivial⟩, ⟨rfl, trivial⟩, trivial⟩, ⟨rfl, rfl⟩, trivial, trivial⟩ ⟨.inl rfl, ⟨⟨rfl, rfl⟩, rfl⟩, ⟨⟨rfl, rfl⟩, rfl⟩, ⟨⟨rfl, rfl⟩, rfl⟩, rfl, trivial⟩) ?_
    rintro ⟨i, out_1⟩ J1 he
    refine And.intro (fun hb => ?_) (fun hb => ?_)
    · have he := ok_t he hb
      refine And.intro (by kernel_rfl) ?_
      have he := ok_rq he
      have hq1 := he.1
      have he := he.2
      obtain ⟨r4_, hq2, he⟩ := ok_bind he
      have he := ok_rq he
      have hq3 := he.1
      have he := he.2
      refine And.intro ?_ (And.intro ?_ (trivial))
      · skip
        refine And.intro ?_ trivial
        refine And.intro hq1 ?_
        refine And.intro ?_ trivial
        refine ⟨r4_, hq2, ?_⟩
        refine And.intro ?_ trivial
        refine And.intro ?_ trivial
        refine And.intro hq3 ?_
        refine And.intro ?_ trivial
        have he := ok_rq he
        refine And.intro he.1 ?_
        have he := he.2
        have he := ok_some he
        exact ⟨((i + (1:Int)), (out_1 ++ [(r4_.1, (r4_.2.2.1, (r4_.2.2.2.1, (r4_.2.1, r4_.2.2.2.2))))])), he, (leads_ren [(10000004, 35)] (l := [(1, .c (.imm (.int .i64) perm)), (2, .c (.ptr 10000000 0)), (4, .c (.ptr 10000001 0)), (6, .c (.ptr 10000002 0)), (7, .c (.int .i64 (i + (1:Int))))]) (st' := [(10000000, .rc [.imm (.int .i64) (m_0, m_1).1, .imm (.pair (.int .i64) (.pair (.sl (.int .i64)) (.pair (.sl (.int .i64)) (.pair (.int .i64) (.sl (.sl (.int .i64))))))) (m_0, m_1).2]), (10000001, .rc [.nil, .nil]), (10000002, .rc [.own 10000003 false, .own 10000004 false]), (10000003, .sl 3 (.int .i64) (([] : List Int) ++ (m_0, m_1).1) .shallow), (10000004, .sl 124 (.pair (.int .i64) (.pair (.sl (.int .i64)) (.pair (.sl (.int .i64)) (.pair (.int .i64) (.sl (.sl (.int .i64))))))) (out_1 ++ [(r4_.1, (r4_.2.2.1, (r4_.2.2.2.1, (r4_.2.1, r4_.2.2.2.2))))]) (.deep true .no))]) rfl rfl ⟨⟨.inl rfl, .inl rfl, trivial⟩, ⟨rfl, rfl, trivial⟩, ⟨⟨⟨rfl, rfl⟩, trivial⟩, ⟨⟨rfl, rfl⟩, trivial⟩, trivial⟩, ⟨rfl, rfl⟩, ⟨rfl, rfl⟩, trivial⟩ ⟨.inl rfl, ⟨⟨rfl, rfl⟩, rfl⟩, ⟨⟨rfl, rfl⟩, rfl⟩, ⟨⟨rfl, rfl⟩, rfl⟩, rfl, trivial⟩)⟩
      · skip
        refine And.intro hq1 ?_
        refine And.intro ?_ (And.intro ?_ (trivial))
        · skip
          refine And.intro ?_ trivial
          refine ⟨r4_, hq2, ?_⟩
          refine And.intro ?_ trivial
          refine And.intro ?_ trivial
          refine And.intro hq3 ?_
          refine And.intro ?_ trivial
          have he := ok_rq he
          refine And.intro he.1 ?_
          have he := he.2
          have he := ok_some he
          exact ⟨((i + (1:Int)), (out_1 ++ [(r4_.1, (r4_.2.2.1, (r4_.2.2.2.1, (r4_.2.1, r4_.2.2.2.2))))])), he, (leads_ren [(10000004, 35)] (l := [(1, .c (.imm (.int .i64) perm)), (2, .c (.ptr 10000000 0)), (4, .c (.ptr 10000001 0)), (6, .c (.ptr 10000002 0)), (7, .c (.int .i64 (i + (1:Int))))]) (st' := [(10000000, .rc [.imm (.int .i64) (m_0, m_1).1, .imm (.pair (.int .i64) (.pair (.sl (.int .i64)) (.pair (.sl (.int .i64)) (.pair (.int .i64) (.sl (.sl (.int .i64))))))) (m_0, m_1).2]), (10000001, .rc [.nil, .nil]), (10000002, .rc [.own 10000003 false, .own 10000004 false]), (10000003, .sl 3 (.int .i64) (([] : List Int) ++ (m_0, m_1).1) .shallow), (10000004, .sl 124 (.pair (.int .i64) (.pair (.sl (.int .i64)) (.pair (.sl (.int .i64)) (.pair (.int .i64) (.sl (.sl (.int .i64))))))) (out_1 ++ [(r4_.1, (r4_.2.2.1, (r4_.2.2.2.1, (r4_.2.1, r4_.2.2.2.2))))]) (.deep true .no))]) rfl rfl ⟨⟨.inl rfl, .inl rfl, trivial⟩, ⟨rfl, rfl, trivial⟩, ⟨⟨⟨rfl, rfl⟩, trivial⟩, ⟨⟨rfl, rfl⟩, trivial⟩, trivial⟩, ⟨rfl, rfl⟩, ⟨rfl, rfl⟩, trivial⟩ ⟨.inl rfl, ⟨⟨rfl, rfl⟩, rfl⟩, ⟨⟨rfl, rfl⟩, rfl⟩, ⟨⟨rfl, rfl⟩, rfl⟩, rfl, trivial⟩)⟩
        · skip
          refine ⟨r4_, hq2, ?_⟩
          refine And.intro ?_ (And.intro ?_ (trivial))
          · skip
            refine And.intro ?_ trivial
            refine And.intro ?_ trivial
            refine And.intro hq3 ?_
            refine And.intro ?_ trivial
            have he := ok_rq he
            refine And.intro he.1 ?_
            have he := he.2
            have he := ok_some he
            exact ⟨((i + (1:Int)), (out_1 ++ [(r4_.1, (r4_.2.2.1, (r4_.2.2.2.1, (r4_.2.1, r4_.2.2.2.2))))])), he, (leads_ren [(10000004, 35)] (l := [(1, .c (.imm (.int .i64) perm)), (2, .c (.ptr 10000000 0)), (4, .c (.ptr 10000001 0)), (6, .c (.ptr 10000002 0)), (7, .c (.int .i64 (i + (1:Int))))]) (st' := [(10000000, .rc [.imm (.int .i64) (m_0, m_1).1, .imm (.pair (.int .i64) (.pair (.sl (.int .i64)) (.pair (.sl (.int .i64)) (.pair (.int .i64) (.sl (.sl (.int .i64))))))) (m_0, m_1).2]), (10000001, .rc [.nil, .nil]), (10000002, .rc [.own 10000003 false, .own 10000004 false]), (10000003, .sl 3 (.int .i64) (([] : List Int) ++ (m_0, m_1).1) .shallow), (10000004, .sl 124 (.pair (.int .i64) (.pair (.sl (.int .i64)) (.pair (.sl (.int .i64)) (.pair (.int .i64) (.sl (.sl (.int .i64))))))) (out_1 ++ [(r4_.1, (r4_.2.2.1, (r4_.2.2.2.1, (r4_.2.1, r4_.2.2.2.2))))]) (.deep true .no))]) rfl rfl ⟨⟨.inl rfl, .inl rfl, trivial⟩, ⟨rfl, rfl, trivial⟩, ⟨⟨⟨rfl, rfl⟩, trivial⟩, ⟨⟨rfl, rfl⟩, trivial⟩, trivial⟩, ⟨rfl, rfl⟩, ⟨rfl, rfl⟩, trivial⟩ ⟨.inl rfl, ⟨⟨rfl, rfl⟩, rfl⟩, ⟨⟨rfl, rfl⟩, rfl⟩, ⟨⟨rfl, rfl⟩, rfl⟩, rfl, trivial⟩)⟩
          · skip
            refine And.intro ?_ trivial
            refine And.intro ?_ trivial
            refine And.intro hq3 ?_
            refine And.intro ?_ trivial
            have he := ok_rq he
            refine And.intro he.1 ?_
            have he := he.2
            have he := ok_some he
            exact ⟨((i + (1:Int)), (out_1 ++ [(r4_.1, (r4_.2.2.1, (r4_.2.2.2.1, (r4_.2.1, r4_.2.2.2.2))))])), he, (leads_ren [(10000004, 35)] (l := [(1, .c (.imm (.int .i64) perm)), (2, .c (.ptr 10000000 0)), (4, .c (.ptr 10000001 0)), (6, .c (.ptr 10000002 0)), (7, .c (.int .i64 (i + (1:Int))))]) (st' := [(10000000, .rc [.imm (.int .i64) (m_0, m_1).1, .imm (.pair (.int .i64) (.pair (.sl (.int .i64)) (.pair (.sl (.int .i64)) (.pair (.int .i64) (.sl (.sl (.int .i64))))))) (m_0, m_1).2]), (10000001, .rc [.nil, .nil]), (10000002, .rc [.own 10000003 false, .own 10000004 false]), (10000003, .sl 3 (.int .i64) (([] : List Int) ++ (m_0, m_1).1) .shallow), (10000004, .sl 124 (.pair (.int .i64) (.pair (.sl (.int .i64)) (.pair (.sl (.int .i64)) (.pair (.int .i64) (.sl (.sl (.int .i64))))))) (out_1 ++ [(r4_.1, (r4_.2.2.1, (r4_.2.2.2.1, (r4_.2.1, r4_.2.2.2.2))))]) (.deep true .no))]) rfl rfl ⟨⟨.inl rfl, .inl rfl, trivial⟩, ⟨rfl, rfl, trivial⟩, ⟨⟨⟨rfl, rfl⟩, trivial⟩, ⟨⟨rfl, rfl⟩, trivial⟩, trivial⟩, ⟨rfl, rfl⟩, ⟨rfl, rfl⟩, trivial⟩ ⟨.inl rfl, ⟨⟨rfl, rfl⟩, rfl⟩, ⟨⟨rfl, rfl⟩, rfl⟩, ⟨⟨rfl, rfl⟩, rfl⟩, rfl, trivial⟩)⟩
    · have he := ok_f he hb
      have he := ok_some he
      exact ⟨rfl, _, _, (leads_ren [(900, 10000001), (901, 10000003), (902, 10000004)] (l := [(4, .c (.ptr 900 0)), (5, .c (.bool true))]) (st' := [(900, .rc [.own 901 false, .own 902 false]), (901, .sl 3 (.int .i64) (([] : List Int) ++ (m_0, m_1).1) .shallow), (902, .sl 124 (.pair (.int .i64) (.pair (.sl (.int .i64)) (.pair (.sl (.int .i64)) (.pair (.int .i64) (.sl (.sl (.int .i64))))))) out_1 (.deep true .no))]) rfl rfl ⟨⟨⟨⟨rfl, rfl⟩, trivial⟩, ⟨⟨rfl, rfl⟩, trivial⟩, trivial⟩, ⟨rfl, rfl⟩, ⟨rfl, rfl⟩, trivial⟩ ⟨⟨⟨rfl, rfl⟩, rfl⟩, .inr rfl, trivial⟩), he⟩

noncomputable def c_impl_CellsValid : Con := fun args st => match args, st with
  | [.agg [.imm (.int .i64) m_0, .imm (.pair (.int .i64) (.pair (.sl (.int .i64)) (.pair (.sl (.int .i64)) (.pair (.int .i64) (.sl (.sl (.int .i64))))))) m_1], .c (.imm (.int .i64) cells)], [] => .opt (Bool) (impl_CellsValid (m_0, m_1) cells) (fun r => .ret (.c (.bool r)) [])
  | _, _ => .fail

noncomputable def C_impl_CellsValid : Cfg := { y := tys, n := 34, h := 0, tab := [(39, c_impl_ModelValid), (101, c_impl_within)], cut := [], hand := [], good := [], deep := [], sched := [] }

theorem t_impl_CellsValid : TabOk Try.prog C_impl_CellsValid := by
  refine tabOk_of ?_
  simp only [C_impl_CellsValid, List.forall_mem_cons]
  exact ⟨k_impl_ModelValid, k_impl_within, fun p h => by cases h⟩

theorem k_impl_CellsValid : Entry Try.prog 108 c_impl_CellsValid := by
  refine entry_by (C := C_impl_CellsValid) mixed tys_ok t_impl_CellsValid (fn := Try.f108) (c := bd Try.f108) (by kernel_rfl) (by kernel_rfl) (by kernel_rfl) (by kernel_rfl) ?_
  intro args st k he
  unfold c_impl_CellsValid at he
  split at he
  rotate_left
  · exact he.elim
  rename_i m_0 m_1 cells
  have he : Ok (impl_CellsValid (m_0, m_1) cells) (fun r => k (.c (.bool r)) []) := he
  refine ⟨rfl, rfl, ?_⟩
  obtain ⟨r1_, hr, he⟩ := ok_bind he
  refine ⟨r1_, hr, ?_⟩
  refine And.intro (fun hb => ?_) (fun hb => ?_)
  · have he := ok_f he hb
    refine And.intro (fun hb => ?_) (fun hb => ?_)
    · have he := ok_t he hb
      have he := ok_some he
      exact ⟨rfl, _, _, (leads_ren [] (l := [(4, .c (.bool false))]) (st' := []) rfl rfl trivial ⟨.inr rfl, trivial⟩), he⟩
    · have he := ok_f he hb
      refine loop_model mixed tys_ok t_impl_CellsValid (S := Int) (I := (fun i => (envOf [(2, .c (.ptr 10000000 0)), (18, .c (.imm (.int .i64) cells)), (19, .c (.int .i64 (cells.length:Int))), (20, .c (.int .i64 i))], [(10000000, .rc [.imm (.int .i64) (m_0, m_1).1, .imm (.pair (.int .i64) (.pair (.sl (.int .i64)) (.pair (.sl (.int .i64)) (.pair (.int .i64) (.sl (.sl (.int .i64))))))) (m_0, m_1).2])]))) (f := impl_CellsValid_l1 (m_0, m_1) cells) (K := (fun r => k (.c (.bool r)) [])) he (leads_ren [(10000000, 2)] (l := [(2, .c (.ptr 10000000 0)), (18, .c (.imm (.int .i64) cells)), (19, .c (.int .i64 (cells.length:Int))), (20, .c (.int .i64 (0:Int)))]) (st' := [(10000000, .rc [.imm (.int .i64) (m_0, m_1).1, .imm (.pair (.int .i64) (.pair (.sl (.int .i64)) (.pair (.sl (.int .i64)) (.pair (.int .i64) (.sl (.sl (.int .i64))))))) (m_0, m_1).2])]) rfl rfl ⟨⟨.inl rfl, .inl rfl, trivial⟩, trivial⟩ ⟨⟨⟨rfl, rfl⟩, rfl⟩, .inl rfl, rfl, rfl, trivial⟩) ?_
      rintro i J1 he
      refine And.intro (fun hb => ?_) (fun hb => ?_)
      · have he := ok_t he hb
        have he := ok_rq he
        refine And.intro he.1 ?_
        have he := he.2
        have he := ok_rq he
        refine And.intro he.1 ?_
        have he := he.2
        obtain ⟨r2_, hr, he⟩ := ok_bind he
        refine ⟨r2_, hr, ?_⟩
        refine And.intro (fun hb => ?_) (fun hb => ?_)
        · have he := ok_t he hb
          have he := ok_some he
          exact ⟨rfl, _, _, (leads_ren [] (l := [(4, .c (.bool false))]) (st' := []) rfl rfl trivial ⟨.inr rfl, trivial⟩), he⟩
        · have he := ok_f he hb
          have he := ok_rq he
          refine And.intro he.1 ?_
          have he := he.2
          have he := ok_some he
          exact ⟨(i + (1:Int)), he, (leads_ren [] (l := [(2, .c (.ptr 10000000 0)), (18, .c (.imm (.int .i64) cells)), (19, .c (.int .i64 (cells.length:Int))), (20, .c (.int .i64 (i + (1:Int))))]) (st' := [(10000000, .rc [.imm (.int .i64) (m_0, m_1).1, .imm (.pair (.int .i64) (.pair (.sl (.int .i64)) (.pair (.sl (.int .i64)) (.pair (.int .i64) (.sl (.sl (.int .i64))))))) (m_0, m_1).2])]) rfl rfl ⟨⟨.inl rfl, .inl rfl, trivial⟩, trivial⟩ ⟨⟨⟨rfl, rfl⟩, rfl⟩, .inl rfl, rfl, rfl, trivial⟩)⟩
      · have he := ok_f he hb
        have he := ok_some he
        exact ⟨rfl, _, _, (leads_ren [] (l := [(4, .c (.bool true))]) (st' := []) rfl rfl trivial ⟨.inr rfl, trivial⟩), he⟩
  · have he := ok_t he hb
    have he := ok_some he
    exact ⟨rfl, _, _, (leads_ren [] (l := [(4, .c (.bool false))]) (st' := []) rfl rfl trivial ⟨.inr rfl, trivial⟩), he⟩

noncomputable def c_impl_PermuteCells : Con := fun args st => match args, st with
  | [.agg [.imm (.int .i64) m_0, .imm (.pair (.int .i64) (.pair (.sl (.int .i64)) (.pair (.sl (.int .i64)) (.pair (.int .i64) (.sl (.sl (.int .i64))))))) m_1], .c (.imm (.int .i64) perm), .c (.imm (.int .i64) cells)], [] => .opt (Bool × (List Int)) (impl_PermuteCells (m_0, m_1) perm cells) (fun r => .ret (.tup [.c (.own 900 false), .c (.bool r.1)]) [(900, .sl 3 (.int .i64) r.2 .shallow)])
  | _, _ => .fail

noncomputable def C_impl_PermuteCells : Cfg := { y := tys, n := 40, h := 0, tab := [(108, c_impl_CellsValid), (123, c_impl_PermValid)], cut := [], hand := [], good := [], deep := [], sched := [] }

theorem t_impl_PermuteCells : TabOk Try.prog C_impl_PermuteCells := by
  refine tabOk_of ?_
  simp only [C_impl_PermuteCells, List.forall_mem_cons]
  exact ⟨k_impl_CellsValid, k_impl_PermValid, fun p h => by cases h⟩

theorem k_impl_PermuteCells : Entry Try.prog 37 c_impl_PermuteCells := by
  refine entry_by (C := C_impl_PermuteCells) mixed tys_ok t_impl_PermuteCells (fn := Try.f37) (c := bd Try.f37) (by kernel_rfl) (by kernel_rfl) (by kernel_rfl) (by kernel_rfl) ?_
  intro args st k he
  unfold c_impl_PermuteCells at he
  split at he
  rotate_left
  · exact he.elim
  rename_i m_0 m_1 perm cells
  have he : Ok (impl_PermuteCells (m_0, m_1) perm cells) (fun r => k (.tup [.c (.own 900 false), .c (.bool r.1)]) [(900, .sl 3 (.int .i64) r.2 .shallow)]) := he
  refine ⟨rfl, rfl, ?_⟩
  obtain ⟨r1_, hr, he⟩ := ok_bind he
  refine ⟨r1_, hr, ?_⟩
  refine And.intro (fun hb => ?_) (fun hb => ?_)
  · have he := ok_f he hb
    obtain ⟨r2_, hr, he⟩ := ok_bind he
    refine ⟨r2_, hr, ?_⟩
    refine And.intro (fun hb => ?_) (fun hb => ?_)
    · have he := ok_t he hb
      have he := ok_some he
      exact ⟨rfl, _, _, (leads_ren [] (l := [(6, .c (.own 900 false)), (7, .c (.bool false))]) (st' := [(900, .sl 3 (.int .i64) ([] : List Int) .shallow)]) rfl rfl ⟨trivial, trivial⟩ ⟨⟨rfl, trivial⟩, .inr rfl, trivial⟩), he⟩
    · have he := ok_f he hb
      have he := ok_rq he
      refine And.intro he.1 ?_
      have he := he.2
      refine loop_model mixed tys_ok t_impl_PermuteCells (S := Int × (List Int)) (I := (fun (i, out) => (envOf [(1, .c (.imm (.int .i64) perm)), (8, .c (.own 10000000 false)), (24, .c (.imm (.int .i64) cells)), (25, .c (.int .i64 (cells.length:Int))), (26, .c (.int .i64 i))], [(10000000, .sl 3 (.int .i64) out .shallow)]))) (f := impl_PermuteCells_l1 perm cells) (K := (fun r => k (.tup [.c (.own 900 false), .c (.bool r.1)]) [(900, .sl 3 (.int .i64) r.2 .shallow)])) he (leads_ren [(10000000, 23)] (l := [(1, .c (.imm (.int .i64) perm)), (8, .c (.own 10000000 false)), (24, .c (.imm (.int .i64) cells)), (25, .c (.int .i64 (cells.length:Int))), (26, .c (.int .i64 (0:Int)))]) (st' := [(10000000, .sl 3 (.int .i64) (List.replicate (cells.length:Int).toNat 0) .shallow)]) rfl rfl ⟨⟨rfl, rfl⟩, trivial⟩ ⟨.inl rfl, ⟨⟨rfl, rfl⟩, trivial⟩, .inl rfl, rfl, rfl, trivial⟩) ?_
      rintro ⟨i, out⟩ J1 he
      refine And.intro (fun hb => ?_) (fun hb => ?_)
      · have he := ok_t he hb
        have he := ok_rq he
        refine And.intro he.1 ?_
        have he := he.2
        have he := ok_rq he
        refine And.intro he.1 ?_
        have he := he.2
        have he := ok_rq he
        refine And.intro he.1 ?_
        have he := he.2
        have he := ok_rq he
        refine And.intro he.1 ?_
        have he := he.2
        have he := ok_some he
        exact ⟨((i + (1:Int)), (out.set (perm.getD i.toNat 0).toNat (cells.getD i.toNat 0))), he, (leads_ren [] (l := [(1, .c (.imm (.int .i64) perm)), (8, .c (.own 10000000 false)), (24, .c (.imm (.int .i64) cells)), (25, .c (.int .i64 (cells.length:Int))), (26, .c (.int .i64 (i + (1:Int))))]) (st' := [(10000000, .sl 3 (.int .i64) (out.set (perm.getD i.toNat 0).toNat (cells.getD i.toNat 0)) .shallow)]) rfl rfl ⟨⟨rfl, rfl⟩, trivial⟩ ⟨.inl rfl, ⟨⟨rfl, rfl⟩, trivial⟩, .inl rfl, rfl, rfl, trivial⟩)⟩
      · have he := ok_f he hb
        have he := ok_some he
        exact ⟨rfl, _, _, (leads_ren [(900, 10000000)] (l := [(6, .c (.own 900 false)), (7, .c (.bool true))]) (st' := [(900, .sl 3 (.int .i64) out .shallow)]) rfl rfl ⟨⟨rfl, rfl⟩, trivial⟩ ⟨⟨⟨rfl, rfl⟩, trivial⟩, .inr rfl, trivial⟩), he⟩
  · have he := ok_t he hb
    have he := ok_some he
    exact ⟨rfl, _, _, (leads_ren [] (l := [(6, .c (.own 900 false)), (7, .c (.bool false))]) (st' := [(900, .sl 3 (.int .i64) ([] : List Int) .shallow)]) rfl rfl ⟨trivial, trivial⟩ ⟨⟨rfl, trivial⟩, .inr rfl, trivial⟩), he⟩

noncomputable def c_slices_Equal_int : Con := fun args st => match args, st with
  | [.c (.imm (.int .i64) s1_), .c (.imm (.int .i64) s2_)], [] => .opt (Bool) (slices_Equal_int s1_ s2_) (fun r => .ret (.c (.bool r)) [])
  | _, _ => .fail

noncomputable def C_slices_Equal_int : Cfg := { y := tys, n := 26, h := 0, tab := [], cut := [], hand := [], good := [], deep := [], sched := [] }

theorem t_slices_Equal_int : TabOk Try.prog C_slices_Equal_int := tabOk_of (fun p h => by cases h)

theorem k_slices_Equal_int : Entry Try.prog 127 c_slices_Equal_int := by
  refine entry_by (C := C_slices_Equal_int) mixed tys_ok t_slices_Equal_int (fn := Try.f127) (c := bd Try.f127) (by kernel_rfl) (by kernel_rfl) (by kernel_rfl) (by kernel_rfl) ?_
  intro args st k he
  unfold c_slices_Equal_int at he
  split at he
  rotate_left
  · exact he.elim
  rename_i s1_ s2_
  have he : Ok (slices_Equal_int s1_ s2_) (fun r => k (.c (.bool r)) []) := he
  refine ⟨rfl, rfl, ?_⟩
  refine And.intro (fun hb => ?_) (fun hb => ?_)
  · have he := ok_t he hb
    have he := ok_some he
    exact ⟨rfl, _, _, Leads.refl _ _, he⟩
  · have he := ok_f he hb
    refine loop_model mixed tys_ok t_slices_Equal_int (S := Int) (I := (fun i => (envOf [(0, .c (.imm (.int .i64) s1_)), (1, .c (.imm (.int .i64) s2_)), (12, .c (.int .i64 (s1_.length:Int))), (13, .c (.int .i64 i))], []))) (f := slices_Equal_int_l1 s1_ s2_) (K := (fun r => k (.c (.bool r)) [])) he (leads_ren [] (l := [(0, .c (.imm (.int .i64) s1_)), (1, .c (.imm (.int .i64) s2_)), (12, .c (.int .i64 (s1_.length:Int))), (13, .c (.int .i64 (0:Int)))]) (st' := []) rfl rfl trivial ⟨.inl rfl, .inl rfl, rfl, rfl, trivial⟩) ?_
    rintro i J1 he
    refine And.intro (fun hb => ?_) (fun hb => ?_)
    · have he := ok_t he hb
      refine And.intro (by kernel_rfl) ?_
      have he := ok_rq he
      refine And.intro he.1 ?_
      have he := he.2
      have he := ok_rq he
      refine And.intro he.1 ?_
      have he := he.2
      refine And.intro (fun hb => ?_) (fun hb => ?_)
      · have he := ok_t he hb
        have he := ok_some he
        exact ⟨rfl, _, _, Leads.refl _ _, he⟩
      · have he := ok_f he hb
        have he := ok_rq he
        refine And.intro he.1 ?_
        have he := he.2
        have he := ok_some he
        exact ⟨(i + (1:Int)), he, (leads_ren [] (l := [(0, .c (.imm (.int .i64) s1_)), (1, .c (.imm (.int .i64) s2_)), (12, .c (.int .i64 (s1_.length:Int))), (13, .c (.int .i64 (i + (1:Int))))]) (st' := []) rfl rfl trivial ⟨.inl rfl, .inl rfl, rfl, rfl, trivial⟩)⟩
    · have he := ok_f he hb
      have he := ok_some he
      exact ⟨rfl, _, _, Leads.refl _ _, he⟩

noncomputable def c_slices_EqualFunc_s_int__slices_Equal_int : Con := fun args st => match args, st with
  | [.c (.imm (.sl (.int .i64)) s1_), .c (.imm (.sl (.int .i64)) s2_), .c (.fn 127 [])], [] => .opt (Bool) (slices_EqualFunc_s_int__slices_Equal_int s1_ s2_) (fun r => .ret (.c (.bool r)) [])
  | _, _ => .fail

noncomputable def C_slices_EqualFunc_s_int__slices_Equal_int : Cfg := { y := tys, n := 32, h := 0, tab := [(127, c_slices_Equal_int)], cut := [], hand := [], good := [], deep := [], sched := [] }

theorem t_slices_EqualFunc_s_int__slices_Equal_int : TabOk Try.prog C_slices_EqualFunc_s_int__slices_Equal_int := by
  refine tabOk_of ?_
  simp only [C_slices_EqualFunc_s_int__slices_Equal_int, List.forall_mem_cons]
  exact ⟨k_slices_Equal_int, fun p h => by cases h⟩

theorem k_slices_EqualFunc_s_int__slices_Equal_int : Entry Try.prog 214 c_slices_EqualFunc_s_int__slices_Equal_int := by
  refine entry_by (C := C_slices_EqualFunc_s_int__slices_Equal_int) mixed tys_ok t_slices_EqualFunc_s_int__slices_Equal_int (fn := Try.f214) (c := bd Try.f214) (by kernel_rfl) (by kernel_rfl) (by kernel_rfl) (by kernel_rfl) ?_
  intro args st k he
  unfold c_slices_EqualFunc_s_int__slices_Equal_int at he
  split at he
  rotate_left
  · exact he.elim
  rename_i s1_ s2_
  have he : Ok (slices_EqualFunc_s_int__slices_Equal_int s1_ s2_) (fun r => k (.c (.bool r)) []) := he
  refine ⟨rfl, rfl, ?_⟩
  refine And.intro (fun hb => ?_) (fun hb => ?_)
  · have he := ok_t he hb
    have he := ok_some he
    exact ⟨rfl, _, _, Leads.refl _ _, he⟩
  · have he := ok_f he hb
    refine loop_model mixed tys_ok t_slices_EqualFunc_s_int__slices_Equal_int (S := Int) (I := (fun i => (envOf [(1, .c (.imm (.sl (.int .i64)) s2_)), (2, .c (.fn 127 [])), (15, .c (.imm (.sl (.int .i64)) s1_)), (16, .c (.int .i64 (s1_.length:Int))), (17, .c (.int .i64 i))], []))) (f := slices_EqualFunc_s_int__slices_Equal_int_l1 s1_ s2_) (K := (fun r => k (.c (.bool r)) [])) he (leads_ren [] (l := [(1, .c (.imm (.sl (.int .i64)) s2_)), (2, .c (.fn 127 [])), (15, .c (.imm (.sl (.int .i64)) s1_)), (16, .c (.int .i64 (s1_.length:Int))), (17, .c (.int .i64 (0:Int)))]) (st' := []) rfl rfl trivial ⟨.inl rfl, ⟨rfl, trivial⟩, .inl rfl, rfl, rfl, trivial⟩) ?_
    rintro i J1 he
    refine And.intro (fun hb => ?_) (fun hb => ?_)
    · have he := ok_t he hb
      have he := ok_rq he
      refine And.intro he.1 ?_
      have he := he.2
      have he := ok_rq he
      refine And.intro he.1 ?_
      have he := he.2
      obtain ⟨r1_, hr, he⟩ := ok_bind he
      refine ⟨r1_, hr, ?_⟩
      refine And.intro (fun hb => ?_) (fun hb => ?_)
      · have he := ok_t he hb
        have he := ok_some he
        exact ⟨rfl, _, _, Leads.refl _ _, he⟩
      · have he := ok_f he hb
        have he := ok_rq he
        refine And.intro he.1 ?_
        have he := he.2
        have he := ok_some he
        exact ⟨(i + (1:Int)), he, (leads_ren [] (l := [(1, .c (.imm (.sl (.int .i64)) s2_)), (2, .c (.fn 127 [])), (15, .c (.imm (.sl (.int .i64)) s1_)), (16, .c (.int .i64 (s1_.length:Int))), (17, .c (.int .i64 (i + (1:Int))))]) (st' := []) rfl rfl trivial ⟨.inl rfl, ⟨rfl, trivial⟩, .inl rfl, rfl, rfl, trivial⟩)⟩
    · have he := ok_f he hb
      have he := ok_some he
      exact ⟨rfl, _, _, Leads.refl _ _, he⟩

noncomputable def c_impl_sameRule : Con := fun args st => match args, st with
  | [.agg [.int .i64 a_0, .imm (.int .i64) a_1, .imm (.int .i64) a_2, .int .i64 a_3, .imm (.sl (.int .i64)) a_4], .agg [.int .i64 b_0, .imm (.int .i64) b_1, .imm (.int .i64) b_2, .int .i64 b_3, .imm (.sl (.int .i64)) b_4]], [] => .opt (Bool) (impl_sameRule (a_0, (a_1, (a_2, (a_3, a_4)))) (b_0, (b_1, (b_2, (b_3, b_4))))) (fun r => .ret (.c (.bool r)) [])
  | _, _ => .fail

noncomputable def C_impl_sameRule : Cfg := { y := tys, n := 38, h := 0, tab := [(127, c_slices_Equal_int), (214, c_slices_EqualFunc_s_int__slices_Equal_int)], cut := [], hand := [], good := [], deep := [], sched := [] }

theorem t_impl_sameRule : TabOk Try.prog C_impl_sameRule := by
  refine tabOk_of ?_
  simp only [C_impl_sameRule, List.forall_mem_cons]
  exact ⟨k_slices_Equal_int, k_slices_EqualFunc_s_int__slices_Equal_int, fun p h => by cases h⟩

theorem k_impl_sameRule : Entry Try.prog 129 c_impl_sameRule := by
  refine entry_by (C := C_impl_sameRule) mixed tys_ok t_impl_sameRule (fn := Try.f129) (c := bd Try.f129) (by kernel_rfl) (by kernel_rfl) (by kernel_rfl) (by kernel_rfl) ?_
  intro args st k he
  unfold c_impl_sameRule at he
  split at he
  rotate_left
  · exact he.elim
  rename_i a_0 a_1 a_2 a_3 a_4 b_0 b_1 b_2 b_3 b_4
  have he : Ok (impl_sameRule (a_0, (a_1, (a_2, (a_3, a_4)))) (b_0, (b_1, (b_2, (b_3, b_4))))) (fun r => k (.c (.bool r)) []) := he
  refine ⟨rfl, rfl, ?_⟩
  refine And.intro (fun hb => ?_) (fun hb => ?_)
  · have he := ok_t he hb
    obtain ⟨r1_, hr, he⟩ := ok_bind he
    refine ⟨r1_, hr, ?_⟩
    refine And.intro (fun hb => ?_) (fun hb => ?_)
    · have he := ok_t he hb
      obtain ⟨r2_, hr, he⟩ := ok_bind he
      refine ⟨r2_, hr, ?_⟩
      refine And.intro (fun hb => ?_) (fun hb => ?_)
      · have he := ok_t he hb
        refine And.intro (fun hb => ?_) (fun hb => ?_)
        · have he := ok_t he hb
          obtain ⟨r3_, hr, he⟩ := ok_bind he
          refine ⟨r3_, hr, ?_⟩
          have he := ok_some he
          exact ⟨rfl, _, _, (leads_ren [] (l := [(4, .c (.bool r3_))]) (st' := []) rfl rfl trivial ⟨.inl rfl, trivial⟩), he⟩
        · have he := ok_f he hb
          have he := ok_some he
          exact ⟨rfl, _, _, (leads_ren [] (l := [(4, .c (.bool false))]) (st' := []) rfl rfl trivial ⟨.inr rfl, trivial⟩), he⟩
      · have he := ok_f he hb
        have he := ok_some he
        exact ⟨rfl, _, _, (leads_ren [] (l := [(4, .c (.bool false))]) (st' := []) rfl rfl trivial ⟨.inr rfl, trivial⟩), he⟩
    · have he := ok_f he hb
      have he := ok_some he
      exact ⟨rfl, _, _, (leads_ren [] (l := [(4, .c (.bool false))]) (st' := []) rfl rfl trivial ⟨.inr rfl, trivial⟩), he⟩
  · have he := ok_f he hb
    have he := ok_some he
    exact ⟨rfl, _, _, (leads_ren [] (l := [(4, .c (.bool false))]) (st' := []) rfl rfl trivial ⟨.inr rfl, trivial⟩), he⟩

noncomputable def c_slices_EqualFunc_impl_Rule__impl_sameRule : Con := fun args st => match args, st with
  | [.c (.imm (.pair (.int .i64) (.pair (.sl (.int .i64)) (.pair (.sl (.int .i64)) (.pair (.int .i64) (.sl (.sl (.int .i64))))))) s1_), .c (.imm (.pair (.int .i64) (.pair (.sl (.int .i64)) (.pair (.sl (.int .i64)) (.pair (.int .i64) (.sl (.sl (.int .i64))))))) s2_), .c (.fn 129 [])], [] => .opt (Bool) (slices_EqualFunc_impl_Rule__impl_sameRule s1_ s2_) (fun r => .ret (.c (.bool r)) [])
  | _, _ => .fail

noncomputable def C_slices_EqualFunc_impl_Rule__impl_sameRule : Cfg := { y := tys, n := 32, h := 0, tab := [(129, c_impl_sameRule)], cut := [], hand := [], good := [], deep := [], sched := [] }

theorem t_slices_EqualFunc_impl_Rule__impl_sameRule : TabOk Try.prog C_slices_EqualFunc_impl_Rule__impl_sameRule := by
  refine tabOk_of ?_
  simp only [C_slices_EqualFunc_impl_Rule__impl_sameRule, List.forall_mem_cons]
  exact ⟨k_impl_sameRule, fun p h => by cases h⟩

theorem k_slices_EqualFunc_impl_Rule__impl_sameRule : Entry Try.prog 128 c_slices_EqualFunc_impl_Rule__impl_sameRule := by
  refine entry_by (C := C_slices_EqualFunc_impl_Rule__impl_sameRule) mixed tys_ok t_slices_EqualFunc_impl_Rule__impl_sameRule (fn := Try.f128) (c := bd Try.f128) (by kernel_rfl) (by kernel_rfl) (by kernel_rfl) (by kernel_rfl) ?_
  intro args st k he
  unfold c_slices_EqualFunc_impl_Rule__impl_sameRule at he
  split at he
  rotate_left
  · exact he.elim
  rename_i s1_ s2_
  have he : Ok (slices_EqualFunc_impl_Rule__impl_sameRule s1_ s2_) (fun r => k (.c (.bool r)) []) := he
  refine ⟨rfl, rfl, ?_⟩
  refine And.intro (fun hb => ?_) (fun hb => ?_)
  · have he := ok_t he hb
    have he := ok_some he
    exact ⟨rfl, _, _, Leads.refl _ _, he⟩
  · have he := ok_f he hb
    refine loop_model mixed tys_ok t_slices_EqualFunc_impl_Rule__impl_sameRule (S := Int) (I := (fun i => (envOf [(1, .c (.imm (.pair (.int .i64) (.pair (.sl (.int .i64)) (.pair (.sl (.int .i64)) (.pair (.int .i64) (.sl (.sl (.int .i64))))))) s2_)), (2, .c (.fn 129 [])), (15, .c (.imm (.pair (.int .i64) (.pair (.sl (.int .i64)) (.pair (.sl (.int .i64)) (.pair (.int .i64) (.sl (.sl (.int .i64))))))) s1_)), (16, .c (.int .i64 (s1_.length:Int))), (17, .c (.int .i64 i))], []))) (f := slices_EqualFunc_impl_Rule__impl_sameRule_l1 s1_ s2_) (K := (fun r => k (.c (.bool r)) [])) he (leads_ren [] (l := [(1, .c (.imm (.pair (.int .i64) (.pair (.sl (.int .i64)) (.pair (.sl (.int .i64)) (.pair (.int .i64) (.sl (.sl (.int .i64))))))) s2_)), (2, .c (.fn 129 [])), (15, .c (.imm (.pair (.int .i64) (.pair (.sl (.int .i64)) (.pair (.sl (.int .i64)) (.pair (.int .i64) (.sl (.sl (.int .i64))))))) s1_)), (16, .c (.int .i64 (s1_.length:Int))), (17, .c (.int .i64 (0:Int)))]) (st' := []) rfl rfl trivial ⟨.inl rfl, ⟨rfl, trivial⟩, .inl rfl, rfl, rfl, trivial⟩) ?_
    rintro i J1 he
    refine And.intro (fun hb => ?_) (fun hb => ?_)
    · have he := ok_t he hb
      have he := ok_rq he
      refine And.intro he.1 ?_
      have he := he.2
      have he := ok_rq he
      refine And.intro he.1 ?_
      have he := he.2
      obtain ⟨r1_, hr, he⟩ := ok_bind he
      refine ⟨r1_, hr, ?_⟩
      refine And.intro (fun hb => ?_) (fun hb => ?_)
      · have he := ok_t he hb
        have he := ok_some he
        exact ⟨rfl, _, _, (leads_ren [] (l := [(6, .c (.bool false))]) (st' := []) rfl rfl trivial ⟨.inr rfl, trivial⟩), he⟩
      · have he := ok_f he hb
        have he := ok_rq he
        refine And.intro he.1 ?_
        have he := he.2
        have he := ok_some he
        exact ⟨(i + (1:Int)), he, (leads_ren [] (l := [(1, .c (.imm (.pair (.int .i64) (.pair (.sl (.int .i64)) (.pair (.sl (.int .i64)) (.pair (.int .i64) (.sl (.sl (.int .i64))))))) s2_)), (2, .c (.fn 129 [])), (15, .c (.imm (.pair (.int .i64) (.pair (.sl (.int .i64)) (.pair (.sl (.int .i64)) (.pair (.int .i64) (.sl (.sl (.int .i64))))))) s1_)), (16, .c (.int .i64 (s1_.length:Int))), (17, .c (.int .i64 (i + (1:Int))))]) (st' := []) rfl rfl trivial ⟨.inl rfl, ⟨rfl, trivial⟩, .inl rfl, rfl, rfl, trivial⟩)⟩
    · have he := ok_f he hb
      have he := ok_some he
      exact ⟨rfl, _, _, Leads.refl _ _, he⟩

noncomputable def c_impl_ModelSame : Con := fun args st => match args, st with
  | [.agg [.imm (.int .i64) a_0, .imm (.pair (.int .i64) (.pair (.sl (.int .i64)) (.pair (.sl (.int .i64)) (.pair (.int .i64) (.sl (.sl (.int .i64))))))) a_1], .agg [.imm (.int .i64) b_0, .imm (.pair (.int .i64) (.pair (.sl (.int .i64)) (.pair (.sl (.int .i64)) (.pair (.int .i64) (.sl (.sl (.int .i64))))))) b_1]], [] => .opt (Bool) (impl_ModelSame (a_0, a_1) (b_0, b_1)) (fun r => .ret (.c (.bool r)) [])
  | _, _ => .fail

noncomputable def C_impl_ModelSame : Cfg := { y := tys, n := 17, h := 0, tab := [(127, c_slices_Equal_int), (128, c_slices_EqualFunc_impl_Rule__impl_sameRule)], cut := [], hand := [], good := [], deep := [], sched := [] }

theorem t_impl_ModelSame : TabOk Try.prog C_impl_ModelSame := by
  refine tabOk_of ?_
  simp only [C_impl_ModelSame, List.forall_mem_cons]
  exact ⟨k_slices_Equal_int, k_slices_EqualFunc_impl_Rule__impl_sameRule, fun p h => by cases h⟩

theorem k_impl_ModelSame : Entry Try.prog 38 c_impl_ModelSame := by
  refine entry_by (C := C_impl_ModelSame) mixed tys_ok t_impl_ModelSame (fn := Try.f38) (c := bd Try.f38) (by kernel_rfl) (by kernel_rfl) (by kernel_rfl) (by kernel_rfl) ?_
  intro args st k he
  unfold c_impl_ModelSame at he
  split at he
  rotate_left
  · exact he.elim
  rename_i a_0 a_1 b_0 b_1
  have he : Ok (impl_ModelSame (a_0, a_1) (b_0, b_1)) (fun r => k (.c (.bool r)) []) := he
  refine ⟨rfl, rfl, ?_⟩
  obtain ⟨r1_, hr, he⟩ := ok_bind he
  refine ⟨r1_, hr, ?_⟩
  refine And.intro (fun hb => ?_) (fun hb => ?_)
  · have he := ok_t he hb
    obtain ⟨r2_, hr, he⟩ := ok_bind he
    refine ⟨r2_, hr, ?_⟩
    have he := ok_some he
    exact ⟨rfl, _, _, (leads_ren [] (l := [(4, .c (.bool r2_))]) (st' := []) rfl rfl trivial ⟨.inl rfl, trivial⟩), he⟩
  · have he := ok_f he hb
    have he := ok_some he
    exact ⟨rfl, _, _, (leads_ren [] (l := [(4, .c (.bool false))]) (st' := []) rfl rfl trivial ⟨.inr rfl, trivial⟩), he⟩

noncomputable def c_impl_Rule_holds_1 : Con := fun args st => match args, st with
  | [.c (.imm (.int .i64) row), .c (.ptr 0 0)], [(0, .rc [.imm (.int .i64) o0])] => .opt (Bool) (impl_Rule_holds_1 row o0) (fun r => .ret (.c (.bool r)) [(0, .rc [.imm (.int .i64) o0])])
  | _, _ => .fail

noncomputable def C_impl_Rule_holds_1 : Cfg := { y := tys, n := 7, h := 1, tab := [(127, c_slices_Equal_int)], cut := [], hand := [], good := [], deep := [], sched := [] }

theorem t_impl_Rule_holds_1 : TabOk Try.prog C_impl_Rule_holds_1 := by
  refine tabOk_of ?_
  simp only [C_impl_Rule_holds_1, List.forall_mem_cons]
  exact ⟨k_slices_Equal_int, fun p h => by cases h⟩

theorem k_impl_Rule_holds_1 : Entry Try.prog 282 c_impl_Rule_holds_1 := by
  refine entry_by (C := C_impl_Rule_holds_1) mixed tys_ok t_impl_Rule_holds_1 (fn := Try.f282) (c := bd Try.f282) (by kernel_rfl) (by kernel_rfl) (by kernel_rfl) (by kernel_rfl) ?_
  intro args st k he
  unfold c_impl_Rule_holds_1 at he
  split at he
  rotate_left
  · exact he.elim
  rename_i row o0
  have he : Ok (impl_Rule_holds_1 row o0) (fun r => k (.c (.bool r)) [(0, .rc [.imm (.int .i64) o0])]) := he
  refine ⟨rfl, rfl, ?_⟩
  obtain ⟨r1_, hr, he⟩ := ok_bind he
  refine ⟨r1_, hr, ?_⟩
  have he := ok_some he
  exact ⟨rfl, _, _, (leads_ren [] (l := [(3, .c (.bool r1_))]) (st' := [(0, .rc [.imm (.int .i64) o0])]) rfl rfl ⟨⟨.inl rfl, trivial⟩, trivial⟩ ⟨.inl rfl, trivial⟩), he⟩

noncomputable def c_slices_IndexFunc_s_int__impl_Rule_holds_1 : Con := fun args st => match args, st with
  | [.c (.imm (.sl (.int .i64)) s_), .c (.fn 282 [0])], [(0, .rc [.imm (.int .i64) o0])] => .opt (Int) (slices_IndexFunc_s_int__impl_Rule_holds_1 s_ o0) (fun r => .ret (.c (.int .i64 r)) [(0, .rc [.imm (.int .i64) o0])])
  | _, _ => .fail

noncomputable def C_slices_IndexFunc_s_int__impl_Rule_holds_1 : Cfg := { y := tys, n := 19, h := 1, tab := [(282, c_impl_Rule_holds_1)], cut := [], hand := [], good := [], deep := [], sched := [] }

theorem t_slices_IndexFunc_s_int__impl_Rule_holds_1 : TabOk Try.prog C_slices_IndexFunc_s_int__impl_Rule_holds_1 := by
  refine tabOk_of ?_
  simp only [C_slices_IndexFunc_s_int__impl_Rule_holds_1, List.forall_mem_cons]
  exact ⟨k_impl_Rule_holds_1, fun p h => by cases h⟩

theorem k_slices_IndexFunc_s_int__impl_Rule_holds_1 : Entry Try.prog 263 c_slices_IndexFunc_s_int__impl_Rule_holds_1 := by
  refine entry_by (C := C_slices_IndexFunc_s_int__impl_Rule_holds_1) mixed tys_ok t_slices_IndexFunc_s_int__impl_Rule_holds_1 (fn := Try.f263) (c := bd Try.f263) (by kernel_rfl) (by kernel_rfl) (by kernel_rfl) (by kernel_rfl) ?_
  intro args st k he
  unfold c_slices_IndexFunc_s_int__impl_Rule_holds_1 at he
  split at he
  rotate_left
  · exact he.elim
  rename_i s_ o0
  have he : Ok (slices_IndexFunc_s_int__impl_Rule_holds_1 s_ o0) (fun r => k (.c (.int .i64 r)) [(0, .rc [.imm (.int .i64) o0])]) := he
  refine ⟨rfl, rfl, ?_⟩
  refine loop_model mixed tys_ok t_slices_IndexFunc_s_int__impl_Rule_holds_1 (S := Int) (I := (fun i => (envOf [(0, .c (.imm (.sl (.int .i64)) s_)), (1, .c (.fn 282 [0])), (7, .c (.int .i64 (s_.length:Int))), (8, .c (.int .i64 i))], [(0, .rc [.imm (.int .i64) o0])]))) (f := slices_IndexFunc_s_int__impl_Rule_holds_1_l1 s_ o0) (K := (fun r => k (.c (.int .i64 r)) [(0, .rc [.imm (.int .i64) o0])])) he (leads_ren [] (l := [(0, .c (.imm (.sl (.int .i64)) s_)), (1, .c (.fn 282 [0])), (7, .c (.int .i64 (s_.length:Int))), (8, .c (.int .i64 (0:Int)))]) (st' := [(0, .rc [.imm (.int .i64) o0])]) rfl rfl ⟨⟨.inl rfl, trivial⟩, trivial⟩ ⟨.inl rfl, ⟨rfl, ⟨⟨rfl, rfl⟩, trivial⟩⟩, rfl, rfl, trivial⟩) ?_
  rintro i J1 he
  refine And.intro (fun hb => ?_) (fun hb => ?_)
  · have he := ok_t he hb
    have he := ok_rq he
    refine And.intro he.1 ?_
    have he := he.2
    obtain ⟨r1_, hr, he⟩ := ok_bind he
    refine ⟨r1_, hr, ?_⟩
    refine And.intro (fun hb => ?_) (fun hb => ?_)
    · have he := ok_t he hb
      have he := ok_some he
      exact ⟨rfl, _, _, (leads_ren [] (l := [(4, .c (.int .i64 i))]) (st' := [(0, .rc [.imm (.int .i64) o0])]) rfl rfl ⟨⟨.inl rfl, trivial⟩, trivial⟩ ⟨rfl, trivial⟩), he⟩
    · have he := ok_f he hb
      have he := ok_rq he
      refine And.intro he.1 ?_
      have he := he.2
      have he := ok_some he
      exact ⟨(i + (1:Int)), he, (leads_ren [] (l := [(0, .c (.imm (.sl (.int .i64)) s_)), (1, .c (.fn 282 [0])), (7, .c (.int .i64 (s_.length:Int))), (8, .c (.int .i64 (i + (1:Int))))]) (st' := [(0, .rc [.imm (.int .i64) o0])]) rfl rfl ⟨⟨.inl rfl, trivial⟩, trivial⟩ ⟨.inl rfl, ⟨rfl, ⟨⟨rfl, rfl⟩, trivial⟩⟩, rfl, rfl, trivial⟩)⟩
  · have he := ok_f he hb
    have he := ok_some he
    exact ⟨rfl, _, _, (leads_ren [] (l := [(4, .c (.int .i64 (-1:Int)))]) (st' := [(0, .rc [.imm (.int .i64) o0])]) rfl rfl ⟨⟨.inl rfl, trivial⟩, trivial⟩ ⟨rfl, trivial⟩), he⟩

noncomputable def c_slices_ContainsFunc_s_int__impl_Rule_holds_1 : Con := fun args st => match args, st with
  | [.c (.imm (.sl (.int .i64)) s_), .c (.fn 282 [0])], [(0, .rc [.imm (.int .i64) o0])] => .opt (Bool) (slices_ContainsFunc_s_int__impl_Rule_holds_1 s_ o0) (fun r => .ret (.c (.bool r)) [(0, .rc [.imm (.int .i64) o0])])
  | _, _ => .fail

noncomputable def C_slices_ContainsFunc_s_int__impl_Rule_holds_1 : Cfg := { y := tys, n := 9, h := 1, tab := [(263, c_slices_IndexFunc_s_int__impl_Rule_holds_1)], cut := [], hand := [], good := [], deep := [], sched := [] }

theorem t_slices_ContainsFunc_s_int__impl_Rule_holds_1 : TabOk Try.prog C_slices_ContainsFunc_s_int__impl_Rule_holds_1 := by
  refine tabOk_of ?_
  simp only [C_slices_ContainsFunc_s_int__impl_Rule_holds_1, List.forall_mem_cons]
  exact ⟨k_slices_IndexFunc_s_int__impl_Rule_holds_1, fun p h => by cases h⟩

theorem k_slices_ContainsFunc_s_int__impl_Rule_holds_1 : Entry Try.prog 217 c_slices_ContainsFunc_s_int__impl_Rule_holds_1 := by
  refine entry_by (C := C_slices_ContainsFunc_s_int__impl_Rule_holds_1) mixed tys_ok t_slices_ContainsFunc_s_int__impl_Rule_holds_1 (fn := Try.f217) (c := bd Try.f217) (by kernel_rfl) (by kernel_rfl) (by kernel_rfl) (by kernel_rfl) ?_
  intro args st k he
  unfold c_slices_ContainsFunc_s_int__impl_Rule_holds_1 at he
  split at he
  rotate_left
  · exact he.elim
  rename_i s_ o0
  have he : Ok (slices_ContainsFunc_s_int__impl_Rule_holds_1 s_ o0) (fun r => k (.c (.bool r)) [(0, .rc [.imm (.int .i64) o0])]) := he
  refine ⟨rfl, rfl, ?_⟩
  obtain ⟨r1_, hr, he⟩ := ok_bind he
  refine ⟨r1_, hr, ?_⟩
  have he := ok_some he
  exact ⟨rfl, _, _, (leads_ren [] (l := [(4, .c (.bool (decide ((0:Int) ≤ r1_))))]) (st' := [(0, .rc [.imm (.int .i64) o0])]) rfl rfl ⟨⟨.inl rfl, trivial⟩, trivial⟩ ⟨.inl rfl, trivial⟩), he⟩

noncomputable def c_impl_Rule_holds : Con := fun args st => match args, st with
  | [.agg [.int .i64 r__0, .imm (.int .i64) r__1, .imm (.int .i64) r__2, .int .i64 r__3, .imm (.sl (.int .i64)) r__4], .c (.imm (.int .i64) vals)], [] => .opt (Bool) (impl_Rule_holds (r__0, (r__1, (r__2, (r__3, r__4)))) vals) (fun r => .ret (.c (.bool r)) [])
  | _, _ => .fail

noncomputable def C_impl_Rule_holds : Cfg := { y := tys, n := 63, h := 0, tab := [(211, c_slices_Contains_int), (217, c_slices_ContainsFunc_s_int__impl_Rule_holds_1)], cut := [], hand := [], good := [], deep := [], sched := [] }

theorem t_impl_Rule_holds : TabOk Try.prog C_impl_Rule_holds := by
  refine tabOk_of ?_
  simp only [C_impl_Rule_holds, List.forall_mem_cons]
  exact ⟨k_slices_Contains_int, k_slices_ContainsFunc_s_int__impl_Rule_holds_1, fun p h => by cases h⟩

theorem k_impl_Rule_holds : Entry Try.prog 258 c_impl_Rule_holds := by
  refine entry_by (C := C_impl_Rule_holds) mixed tys_ok t_impl_Rule_holds (fn := Try.f258) (c := bd Try.f258) (by kernel_rfl) (by kernel_rfl) (by kernel_rfl) (by kernel_rfl) ?_
  intro args st k he
  unfold c_impl_Rule_holds at he
  split at he
  rotate_left
  · exact he.elim
  rename_i r__0 r__1 r__2 r__3 r__4 vals
  have he : Ok (impl_Rule_holds (r__0, (r__1, (r__2, (r__3, r__4)))) vals) (fun r => k (.c (.bool r)) []) := he
  refine ⟨rfl, rfl, ?_⟩
  refine And.intro (fun hb => ?_) (fun hb => ?_)
  · have he := ok_t he hb
    refine loop_model mixed tys_ok t_impl_Rule_holds (S := Int × Int) (I := (fun (sum, i) => (envOf [(2, .c (.ptr 10000000 0)), (5, .c (.int .i64 sum)), (14, .c (.imm (.int .i64) vals)), (15, .c (.int .i64 (vals.length:Int))), (16, .c (.int .i64 i))], [(10000000, .rc [.int .i64 (r__0, (r__1, (r__2, (r__3, r__4)))).1, .imm (.int .i64) (r__0, (r__1, (r__2, (r__3, r__4)))).2.1, .imm (.int .i64) (r__0, (r__1, (r__2, (r__3, r__4)))).2.2.1, .int .i64 (r__0, (r__1, (r__2, (r__3, r__4)))).2.2.2.1, .imm (.sl (.int .i64)) (r__0, (r__1, (r__2, (r__3, r__4)))).2.2.2.2])]))) (f := impl_Rule_holds_l1 (r__0, (r__1, (r__2, (r__3, r__4)))) vals) (K := (fun r => k (.c (.bool r)) [])) he (leads_ren [(10000000, 2)] (l := [(2, .c (.ptr 10000000 0)), (5, .c (.int .i64 (0:Int))), (14, .c (.imm (.int .i64) vals)), (15, .c (.int .i64 (vals.length:Int))), (16, .c (.int .i64 (0:Int)))]) (st' := [(10000000, .rc [.int .i64 (r__0, (r__1, (r__2, (r__3, r__4)))).1, .imm (.int .i64) (r__0, (r__1, (r__2, (r__3, r__4)))).2.1, .imm (.int .i64) (r__0, (r__1, (r__2, (r__3, r__4)))).2.2.1, .int .i64 (r__0, (r__1, (r__2, (r__3, r__4)))).2.2.2.1, .imm (.sl (.int .i64)) (r__0, (r__1, (r__2, (r__3, r__4)))).2.2.2.2])]) rfl rfl ⟨⟨rfl, .inl rfl, .inl rfl, rfl, .inl rfl, trivial⟩, trivial⟩ ⟨⟨⟨rfl, rfl⟩, rfl⟩, rfl, .inl rfl, rfl, rfl, trivial⟩) ?_
    rintro ⟨sum, i⟩ J1 he
    refine And.intro (fun hb => ?_) (fun hb => ?_)
    · have he := ok_t he hb
      have he := ok_rq he
      refine And.intro he.1 ?_
      have he := he.2
      have he := ok_rq he
      refine And.intro he.1 ?_
      have he := he.2
      have he := ok_rq he
      refine And.intro he.1 ?_
      have he := he.2
      have he := ok_rq he
      refine And.intro he.1 ?_
      have he := he.2
      have he := ok_rq he
      refine And.intro he.1 ?_
      have he := he.2
      have he := ok_some he
      exact ⟨((sum + (((r__0, (r__1, (r__2, (r__3, r__4)))).2.2.1.getD i.toNat 0) * (vals.getD i.toNat 0))), (i + (1:Int))), he, (leads_ren [] (l := [(2, .c (.ptr 10000000 0)), (5, .c (.int .i64 (sum + (((r__0, (r__1, (r__2, (r__3, r__4)))).2.2.1.getD i.toNat 0) * (vals.getD i.toNat 0))))), (14, .c (.imm (.int .i64) vals)), (15, .c (.int .i64 (vals.length:Int))), (16, .c (.int .i64 (i + (1:Int))))]) (st' := [(10000000, .rc [.int .i64 (r__0, (r__1, (r__2, (r__3, r__4)))).1, .imm (.int .i64) (r__0, (r__1, (r__2, (r__3, r__4)))).2.1, .imm (.int .i64) (r__0, (r__1, (r__2, (r__3, r__4)))).2.2.1, .int .i64 (r__0, (r__1, (r__2, (r__3, r__4)))).2.2.2.1, .imm (.sl (.int .i64)) (r__0, (r__1, (r__2, (r__3, r__4)))).2.2.2.2])]) rfl rfl ⟨⟨rfl, .inl rfl, .inl rfl, rfl, .inl rfl, trivial⟩, trivial⟩ ⟨⟨⟨rfl, rfl⟩, rfl⟩, rfl, .inl rfl, rfl, rfl, trivial⟩)⟩
    · have he := ok_f he hb
      have he := ok_some he
      exact ⟨rfl, _, _, (leads_ren [] (l := [(4, .c (.bool (decide ((r__0, (r__1, (r__2, (r__3, r__4)))).2.2.2.1 ≤ sum))))]) (st' := []) rfl rfl trivial ⟨.inl rfl, trivial⟩), he⟩
  · have he := ok_f he hb
    refine And.intro (fun hb => ?_) (fun hb => ?_)
    · have he := ok_t he hb
      refine loop_model mixed tys_ok t_impl_Rule_holds (S := Int) (I := (fun i1 => (envOf [(3, .c (.ptr 10001000 0)), (37, .c (.imm (.int .i64) vals)), (38, .c (.int .i64 (vals.length:Int))), (39, .c (.int .i64 i1))], [(10001000, .rc [.imm (.int .i64) vals])]))) (f := impl_Rule_holds_l2 vals) (K := (fun r => k (.c (.bool r)) [])) he (leads_ren [(10001000, 3)] (l := [(3, .c (.ptr 10001000 0)), (37, .c (.imm (.int .i64) vals)), (38, .c (.int .i64 (vals.length:Int))), (39, .c (.int .i64 (0:Int)))]) (st' := [(10001000, .rc [.imm (.int .i64) vals])]) rfl rfl ⟨⟨.inl rfl, trivial⟩, trivial⟩ ⟨⟨⟨rfl, rfl⟩, rfl⟩, .inl rfl, rfl, rfl, trivial⟩) ?_
      rintro i1 J1 he
      refine And.intro (fun hb => ?_) (fun hb => ?_)
      · have he := ok_t he hb
        have he := ok_rq he
        refine And.intro he.1 ?_
        have he := he.2
        have he := ok_rq he
        refine And.intro he.1 ?_
        have he := he.2
        obtain ⟨r1_, hr, he⟩ := ok_bind he
        refine ⟨r1_, hr, ?_⟩
        refine And.intro (fun hb => ?_) (fun hb => ?_)
        · have he := ok_t he hb
          have he := ok_some he
          exact ⟨rfl, _, _, (leads_ren [] (l := [(4, .c (.bool false))]) (st' := []) rfl rfl trivial ⟨.inr rfl, trivial⟩), he⟩
        · have he := ok_f he hb
          have he := ok_rq he
          refine And.intro he.1 ?_
          have he := he.2
          have he := ok_some he
          exact ⟨(i1 + (1:Int)), he, (leads_ren [] (l := [(3, .c (.ptr 10001000 0)), (37, .c (.imm (.int .i64) vals)), (38, .c (.int .i64 (vals.length:Int))), (39, .c (.int .i64 (i1 + (1:Int))))]) (st' := [(10001000, .rc [.imm (.int .i64) vals])]) rfl rfl ⟨⟨.inl rfl, trivial⟩, trivial⟩ ⟨⟨⟨rfl, rfl⟩, rfl⟩, .inl rfl, rfl, rfl, trivial⟩)⟩
      · have he := ok_f he hb
        have he := ok_some he
        exact ⟨rfl, _, _, (leads_ren [] (l := [(4, .c (.bool true))]) (st' := []) rfl rfl trivial ⟨.inr rfl, trivial⟩), he⟩
    · have he := ok_f he hb
      refine And.intro (fun hb => ?_) (fun hb => ?_)
      · have he := ok_t he hb
        obtain ⟨r2_, hr, he⟩ := ok_bind he
        refine ⟨r2_, hr, ?_⟩
        have he := ok_some he
        exact ⟨rfl, _, _, (leads_ren [] (l := [(4, .c (.bool r2_))]) (st' := []) rfl rfl trivial ⟨.inl rfl, trivial⟩), he⟩
      · have he := ok_f he hb
        refine And.intro (by kernel_rfl) ?_
        have he := ok_rq he
        refine And.intro he.1 ?_
        have he := he.2
        have he := ok_rq he
        refine And.intro he.1 ?_
        have he := he.2
        have he := ok_some he
        exact ⟨rfl, _, _, (leads_ren [] (l := [(4, .c (.bool (decide ((vals.getD (0:Int).toNat 0) < (vals.getD (1:Int).toNat 0)))))]) (st' := []) rfl rfl trivial ⟨.inl rfl, trivial⟩), he⟩

noncomputable def c_impl_Rule_at : Con := fun args st => match args, st with
  | [.agg [.int .i64 r__0, .imm (.int .i64) r__1, .imm (.int .i64) r__2, .int .i64 r__3, .imm (.sl (.int .i64)) r__4], .c (.imm (.int .i64) cells)], [] => .opt (Bool) (impl_Rule_at (r__0, (r__1, (r__2, (r__3, r__4)))) cells) (fun r => .ret (.c (.bool r)) [])
  | _, _ => .fail

noncomputable def C_impl_Rule_at : Cfg := { y := tys, n := 26, h := 0, tab := [(258, c_impl_Rule_holds)], cut := [7], hand := [], good := [], deep := [], sched := [] }

theorem t_impl_Rule_at : TabOk Try.prog C_impl_Rule_at := by
  refine tabOk_of ?_
  simp only [C_impl_Rule_at, List.forall_mem_cons]
  exact ⟨k_impl_Rule_holds, fun p h => by cases h⟩

theorem k_impl_Rule_at : Entry Try.prog 198 c_impl_Rule_at := by
  refine entry_by (C := C_impl_Rule_at) mixed tys_ok t_impl_Rule_at (fn := Try.f198) (c := bd Try.f198) (by kernel_rfl) (by kernel_rfl) (by kernel_rfl) (by kernel_rfl) ?_
  intro args st k he
  unfold c_impl_Rule_at at he
  split at he
  rotate_left
  · exact he.elim
  rename_i r__0 r__1 r__2 r__3 r__4 cells
  have he : Ok (impl_Rule_at (r__0, (r__1, (r__2, (r__3, r__4)))) cells) (fun r => k (.c (.bool r)) []) := he
  refine ⟨rfl, rfl, ?_⟩
  refine seq_model mixed tys_ok t_impl_Rule_at (S := (List Int)) (I := (fun vals1 => (envOf [(2, .c (.ptr 10001000 0)), (5, .c (.own 10001001 false))], [(10001000, .rc [.int .i64 (r__0, (r__1, (r__2, (r__3, r__4)))).1, .imm (.int .i64) (r__0, (r__1, (r__2, (r__3, r__4)))).2.1, .imm (.int .i64) (r__0, (r__1, (r__2, (r__3, r__4)))).2.2.1, .int .i64 (r__0, (r__1, (r__2, (r__3, r__4)))).2.2.2.1, .imm (.sl (.int .i64)) (r__0, (r__1, (r__2, (r__3, r__4)))).2.2.2.2]), (10001001, .sl 3 (.int .i64) vals1 .shallow)]))) (B := fun s => Ok (impl_Rule_at_j1 (r__0, (r__1, (r__2, (r__3, r__4)))) s) (fun r => k (.c (.bool r)) [])) ?_ ?_
  · rintro vals1 he
    obtain ⟨r1_, hr, he⟩ := ok_bind he
    refine ⟨r1_, hr, ?_⟩
    have he := ok_some he
    exact ⟨rfl, _, _, (leads_ren [] (l := [(4, .c (.bool r1_))]) (st' := []) rfl rfl trivial ⟨.inl rfl, trivial⟩), he⟩
  · skip
    refine loop_model mixed tys_ok t_impl_Rule_at (S := Int × (List Int)) (I := (fun (i, vals) => (envOf [(1, .c (.imm (.int .i64) cells)), (2, .c (.ptr 10000000 0)), (5, .c (.own 10000001 false)), (9, .c (.imm (.int .i64) (r__0, (r__1, (r__2, (r__3, r__4)))).2.1)), (10, .c (.int .i64 ((r__0, (r__1, (r__2, (r__3, r__4)))).2.1.length:Int))), (11, .c (.int .i64 i))], [(10000000, .rc [.int .i64 (r__0, (r__1, (r__2, (r__3, r__4)))).1, .imm (.int .i64) (r__0, (r__1, (r__2, (r__3, r__4)))).2.1, .imm (.int .i64) (r__0, (r__1, (r__2, (r__3, r__4)))).2.2.1, .int .i64 (r__0, (r__1, (r__2, (r__3, r__4)))).2.2.2.1, .imm (.sl (.int .i64)) (r__0, (r__1, (r__2, (r__3, r__4)))).2.2.2.2]), (10000001, .sl 3 (.int .i64) vals .shallow)]))) (f := impl_Rule_at_l1 (r__0, (r__1, (r__2, (r__3, r__4)))) cells) (K := (fun r => k (.c (.bool r)) [])) he (leads_ren [(10000000, 2)] (l := [(1, .c (.imm (.int .i64) cells)), (2, .c (.ptr 10000000 0)), (5, .c (.own 10000001 false)), (9, .c (.imm (.int .i64) (r__0, (r__1, (r__2, (r__3, r__4)))).2.1)), (10, .c (.int .i64 ((r__0, (r__1, (r__2, (r__3, r__4)))).2.1.length:Int))), (11, .c (.int .i64 (0:Int)))]) (st' := [(10000000, .rc [.int .i64 (r__0, (r__1, (r__2, (r__3, r__4)))).1, .imm (.int .i64) (r__0, (r__1, (r__2, (r__3, r__4)))).2.1, .imm (.int .i64) (r__0, (r__1, (r__2, (r__3, r__4)))).2.2.1, .int .i64 (r__0, (r__1, (r__2, (r__3, r__4)))).2.2.2.1, .imm (.sl (.int .i64)) (r__0, (r__1, (r__2, (r__3, r__4)))).2.2.2.2]), (10000001, .sl 3 (.int .i64) ([] : List Int) .shallow)]) rfl rfl ⟨⟨rfl, .inl rfl, .inl rfl, rfl, .inl rfl, trivial⟩, trivial, trivial⟩ ⟨.inl rfl, ⟨⟨rfl, rfl⟩, rfl⟩, ⟨rfl, trivial⟩, .inl rfl, rfl, rfl, trivial⟩) ?_
    rintro ⟨i, vals⟩ J1 he
    refine And.intro (fun hb => ?_) (fun hb => ?_)
    · have he := ok_t he hb
      have he := ok_rq he
      refine And.intro he.1 ?_
      have he := he.2
      have he := ok_rq he
      refine And.intro he.1 ?_
      have he := he.2
      have he := ok_rq he
      refine And.intro he.1 ?_
      have he := he.2
      have he := ok_rq he
      refine And.intro he.1 ?_
      have he := he.2
      have he := ok_some he
      exact ⟨((i + (1:Int)), (vals ++ [(cells.getD ((r__0, (r__1, (r__2, (r__3, r__4)))).2.1.getD i.toNat 0).toNat 0)])), he, (leads_ren [(10000001, 21)] (l := [(1, .c (.imm (.int .i64) cells)), (2, .c (.ptr 10000000 0)), (5, .c (.own 10000001 false)), (9, .c (.imm (.int .i64) (r__0, (r__1, (r__2, (r__3, r__4)))).2.1)), (10, .c (.int .i64 ((r__0, (r__1, (r__2, (r__3, r__4)))).2.1.length:Int))), (11, .c (.int .i64 (i + (1:Int))))]) (st' := [(10000000, .rc [.int .i64 (r__0, (r__1, (r__2, (r__3, r__4)))).1, .imm (.int .i64) (r__0, (r__1, (r__2, (r__3, r__4)))).2.1, .imm (.int .i64) (r__0, (r__1, (r__2, (r__3, r__4)))).2.2.1, .int .i64 (r__0, (r__1, (r__2, (r__3, r__4)))).2.2.2.1, .imm (.sl (.int .i64)) (r__0, (r__1, (r__2, (r__3, r__4)))).2.2.2.2]), (10000001, .sl 3 (.int .i64) (vals ++ [(cells.getD ((r__0, (r__1, (r__2, (r__3, r__4)))).2.1.getD i.toNat 0).toNat 0)]) .shallow)]) rfl rfl ⟨⟨rfl, .inl rfl, .inl rfl, rfl, .inl rfl, trivial⟩, ⟨rfl, rfl⟩, trivial⟩ ⟨.inl rfl, ⟨⟨rfl, rfl⟩, rfl⟩, ⟨⟨rfl, rfl⟩, trivial⟩, .inl rfl, rfl, rfl, trivial⟩)⟩
    · have he := ok_f he hb
      exact ⟨vals, ok_up he, (leads_ren [(10001000, 10000000), (10001001, 10000001)] (l := [(2, .c (.ptr 10001000 0)), (5, .c (.own 10001001 false))]) (st' := [(10001000, .rc [.int .i64 (r__0, (r__1, (r__2, (r__3, r__4)))).1, .imm (.int .i64) (r__0, (r__1, (r__2, (r__3, r__4)))).2.1, .imm (.int .i64) (r__0, (r__1, (r__2, (r__3, r__4)))).2.2.1, .int .i64 (r__0, (r__1, (r__2, (r__3, r__4)))).2.2.2.1, .imm (.sl (.int .i64)) (r__0, (r__1, (r__2, (r__3, r__4)))).2.2.2.2]), (10001001, .sl 3 (.int .i64) vals .shallow)]) rfl rfl ⟨⟨rfl, .inl rfl, .inl rfl, rfl, .inl rfl, trivial⟩, ⟨rfl, rfl⟩, trivial⟩ ⟨⟨⟨rfl, rfl⟩, rfl⟩, ⟨⟨rfl, rfl⟩, trivial⟩, trivial⟩)⟩

noncomputable def c_impl_Model_solves_1 : Con := fun args st => match args, st with
  | [.agg [.int .i64 r__0, .imm (.int .i64) r__1, .imm (.int .i64) r__2, .int .i64 r__3, .imm (.sl (.int .i64)) r__4], .c (.ptr 0 0)], [(0, .rc [.imm (.int .i64) o0])] => .opt (Bool) (impl_Model_solves_1 (r__0, (r__1, (r__2, (r__3, r__4)))) o0) (fun r => .ret (.c (.bool r)) [(0, .rc [.imm (.int .i64) o0])])
  | _, _ => .fail

noncomputable def C_impl_Model_solves_1 : Cfg := { y := tys, n := 8, h := 1, tab := [(198, c_impl_Rule_at)], cut := [], hand := [], good := [], deep := [], sched := [] }

theorem t_impl_Model_solves_1 : TabOk Try.prog C_impl_Model_solves_1 := by
  refine tabOk_of ?_
  simp only [C_impl_Model_solves_1, List.forall_mem_cons]
  exact ⟨k_impl_Rule_at, fun p h => by cases h⟩

theorem k_impl_Model_solves_1 : Entry Try.prog 220 c_impl_Model_solves_1 := by
  refine entry_by (C := C_impl_Model_solves_1) mixed tys_ok t_impl_Model_solves_1 (fn := Try.f220) (c := bd Try.f220) (by kernel_rfl) (by kernel_rfl) (by kernel_rfl) (by kernel_rfl) ?_
  intro args st k he
  unfold c_impl_Model_solves_1 at he
  split at he
  rotate_left
  · exact he.elim
  rename_i r__0 r__1 r__2 r__3 r__4 o0
  have he : Ok (impl_Model_solves_1 (r__0, (r__1, (r__2, (r__3, r__4)))) o0) (fun r => k (.c (.bool r)) [(0, .rc [.imm (.int .i64) o0])]) := he
  refine ⟨rfl, rfl, ?_⟩
  obtain ⟨r1_, hr, he⟩ := ok_bind he
  refine ⟨r1_, hr, ?_⟩
  have he := ok_some he
  exact ⟨rfl, _, _, (leads_ren [] (l := [(3, .c (.bool (!r1_)))]) (st' := [(0, .rc [.imm (.int .i64) o0])]) rfl rfl ⟨⟨.inl rfl, trivial⟩, trivial⟩ ⟨.inl rfl, trivial⟩), he⟩

noncomputable def c_slices_IndexFunc_impl_Rule__impl_Model_solves_1 : Con := fun args st => match args, st with
  | [.c (.imm (.pair (.int .i64) (.pair (.sl (.int .i64)) (.pair (.sl (.int .i64)) (.pair (.int .i64) (.sl (.sl (.int .i64))))))) s_), .c (.fn 220 [0])], [(0, .rc [.imm (.int .i64) o0])] => .opt (Int) (slices_IndexFunc_impl_Rule__impl_Model_solves_1 s_ o0) (fun r => .ret (.c (.int .i64 r)) [(0, .rc [.imm (.int .i64) o0])])
  | _, _ => .fail

noncomputable def C_slices_IndexFunc_impl_Rule__impl_Model_solves_1 : Cfg := { y := tys, n := 19, h := 1, tab := [(220, c_impl_Model_solves_1)], cut := [], hand := [], good := [], deep := [], sched := [] }

theorem t_slices_IndexFunc_impl_Rule__impl_Model_solves_1 : TabOk Try.prog C_slices_IndexFunc_impl_Rule__impl_Model_solves_1 := by
  refine tabOk_of ?_
  simp only [C_slices_IndexFunc_impl_Rule__impl_Model_solves_1, List.forall_mem_cons]
  exact ⟨k_impl_Model_solves_1, fun p h => by cases h⟩

theorem k_slices_IndexFunc_impl_Rule__impl_Model_solves_1 : Entry Try.prog 215 c_slices_IndexFunc_impl_Rule__impl_Model_solves_1 := by
  refine entry_by (C := C_slices_IndexFunc_impl_Rule__impl_Model_solves_1) mixed tys_ok t_slices_IndexFunc_impl_Rule__impl_Model_solves_1 (fn := Try.f215) (c := bd Try.f215) (by kernel_rfl) (by kernel_rfl) (by kernel_rfl) (by kernel_rfl) ?_
  intro args st k he
  unfold c_slices_IndexFunc_impl_Rule__impl_Model_solves_1 at he
  split at he
  rotate_left
  · exact he.elim
  rename_i s_ o0
  have he : Ok (slices_IndexFunc_impl_Rule__impl_Model_solves_1 s_ o0) (fun r => k (.c (.int .i64 r)) [(0, .rc [.imm (.int .i64) o0])]) := he
  refine ⟨rfl, rfl, ?_⟩
  refine loop_model mixed tys_ok t_slices_IndexFunc_impl_Rule__impl_Model_solves_1 (S := Int) (I := (fun i => (envOf [(0, .c (.imm (.pair (.int .i64) (.pair (.sl (.int .i64)) (.pair (.sl (.int .i64)) (.pair (.int .i64) (.sl (.sl (.int .i64))))))) s_)), (1, .c (.fn 220 [0])), (7, .c (.int .i64 (s_.length:Int))), (8, .c (.int .i64 i))], [(0, .rc [.imm (.int .i64) o0])]))) (f := slices_IndexFunc_impl_Rule__impl_Model_solves_1_l1 s_ o0) (K := (fun r => k (.c (.int .i64 r)) [(0, .rc [.imm (.int .i64) o0])])) he (leads_ren [] (l := [(0, .c (.imm (.pair (.int .i64) (.pair (.sl (.int .i64)) (.pair (.sl (.int .i64)) (.pair (.int .i64) (.sl (.sl (.int .i64))))))) s_)), (1, .c (.fn 220 [0])), (7, .c (.int .i64 (s_.length:Int))), (8, .c (.int .i64 (0:Int)))]) (st' := [(0, .rc [.imm (.int .i64) o0])]) rfl rfl ⟨⟨.inl rfl, trivial⟩, trivial⟩ ⟨.inl rfl, ⟨rfl, ⟨⟨rfl, rfl⟩, trivial⟩⟩, rfl, rfl, trivial⟩) ?_
  rintro i J1 he
  refine And.intro (fun hb => ?_) (fun hb => ?_)
  · have he := ok_t he hb
    have he := ok_rq he
    refine And.intro he.1 ?_
    have he := he.2
    obtain ⟨r1_, hr, he⟩ := ok_bind he
    refine ⟨r1_, hr, ?_⟩
    refine And.intro (fun hb => ?_) (fun hb => ?_)
    · have he := ok_t he hb
      have he := ok_some he
      exact ⟨rfl, _, _, (leads_ren [] (l := [(4, .c (.int .i64 i))]) (st' := [(0, .rc [.imm (.int .i64) o0])]) rfl rfl ⟨⟨.inl rfl, trivial⟩, trivial⟩ ⟨rfl, trivial⟩), he⟩
    · have he := ok_f he hb
      have he := ok_rq he
      refine And.intro he.1 ?_
      have he := he.2
      have he := ok_some he
      exact ⟨(i + (1:Int)), he, (leads_ren [] (l := [(0, .c (.imm (.pair (.int .i64) (.pair (.sl (.int .i64)) (.pair (.sl (.int .i64)) (.pair (.int .i64) (.sl (.sl (.int .i64))))))) s_)), (1, .c (.fn 220 [0])), (7, .c (.int .i64 (s_.length:Int))), (8, .c (.int .i64 (i + (1:Int))))]) (st' := [(0, .rc [.imm (.int .i64) o0])]) rfl rfl ⟨⟨.inl rfl, trivial⟩, trivial⟩ ⟨.inl rfl, ⟨rfl, ⟨⟨rfl, rfl⟩, trivial⟩⟩, rfl, rfl, trivial⟩)⟩
  · have he := ok_f he hb
    have he := ok_some he
    exact ⟨rfl, _, _, (leads_ren [] (l := [(4, .c (.int .i64 (-1:Int)))]) (st' := [(0, .rc [.imm (.int .i64) o0])]) rfl rfl ⟨⟨.inl rfl, trivial⟩, trivial⟩ ⟨rfl, trivial⟩), he⟩

noncomputable def c_slices_ContainsFunc_impl_Rule__impl_Model_solves_1 : Con := fun args st => match args, st with
  | [.c (.imm (.pair (.int .i64) (.pair (.sl (.int .i64)) (.pair (.sl (.int .i64)) (.pair (.int .i64) (.sl (.sl (.int .i64))))))) s_), .c (.fn 220 [0])], [(0, .rc [.imm (.int .i64) o0])] => .opt (Bool) (slices_ContainsFunc_impl_Rule__impl_Model_solves_1 s_ o0) (fun r => .ret (.c (.bool r)) [(0, .rc [.imm (.int .i64) o0])])
  | _, _ => .fail

noncomputable def C_slices_ContainsFunc_impl_Rule__impl_Model_solves_1 : Cfg := { y := tys, n := 9, h := 1, tab := [(215, c_slices_IndexFunc_impl_Rule__impl_Model_solves_1)], cut := [], hand := [], good := [], deep := [], sched := [] }

theorem t_slices_ContainsFunc_impl_Rule__impl_Model_solves_1 : TabOk Try.prog C_slices_ContainsFunc_impl_Rule__impl_Model_solves_1 := by
  refine tabOk_of ?_
  simp only [C_slices_ContainsFunc_impl_Rule__impl_Model_solves_1, List.forall_mem_cons]
  exact ⟨k_slices_IndexFunc_impl_Rule__impl_Model_solves_1, fun p h => by cases h⟩

theorem k_slices_ContainsFunc_impl_Rule__impl_Model_solves_1 : Entry Try.prog 130 c_slices_ContainsFunc_impl_Rule__impl_Model_solves_1 := by
  refine entry_by (C := C_slices_ContainsFunc_impl_Rule__impl_Model_solves_1) mixed tys_ok t_slices_ContainsFunc_impl_Rule__impl_Model_solves_1 (fn := Try.f130) (c := bd Try.f130) (by kernel_rfl) (by kernel_rfl) (by kernel_rfl) (by kernel_rfl) ?_
  intro args st k he
  unfold c_slices_ContainsFunc_impl_Rule__impl_Model_solves_1 at he
  split at he
  rotate_left
  · exact he.elim
  rename_i s_ o0
  have he : Ok (slices_ContainsFunc_impl_Rule__impl_Model_solves_1 s_ o0) (fun r => k (.c (.bool r)) [(0, .rc [.imm (.int .i64) o0])]) := he
  refine ⟨rfl, rfl, ?_⟩
  obtain ⟨r1_, hr, he⟩ := ok_bind he
  refine ⟨r1_, hr, ?_⟩
  have he := ok_some he
  exact ⟨rfl, _, _, (leads_ren [] (l := [(4, .c (.bool (decide ((0:Int) ≤ r1_))))]) (st' := [(0, .rc [.imm (.int .i64) o0])]) rfl rfl ⟨⟨.inl rfl, trivial⟩, trivial⟩ ⟨.inl rfl, trivial⟩), he⟩

noncomputable def c_impl_Model_solves : Con := fun args st => match args, st with
  | [.agg [.imm (.int .i64) m_0, .imm (.pair (.int .i64) (.pair (.sl (.int .i64)) (.pair (.sl (.int .i64)) (.pair (.int .i64) (.sl (.sl (.int .i64))))))) m_1], .c (.imm (.int .i64) cells)], [] => .opt (Bool) (impl_Model_solves (m_0, m_1) cells) (fun r => .ret (.c (.bool r)) [])
  | _, _ => .fail

noncomputable def C_impl_Model_solves : Cfg := { y := tys, n := 10, h := 0, tab := [(130, c_slices_ContainsFunc_impl_Rule__impl_Model_solves_1)], cut := [], hand := [], good := [], deep := [], sched := [] }

theorem t_impl_Model_solves : TabOk Try.prog C_impl_Model_solves := by
  refine tabOk_of ?_
  simp only [C_impl_Model_solves, List.forall_mem_cons]
  exact ⟨k_slices_ContainsFunc_impl_Rule__impl_Model_solves_1, fun p h => by cases h⟩

theorem k_impl_Model_solves : Entry Try.prog 133 c_impl_Model_solves := by
  refine entry_by (C := C_impl_Model_solves) mixed tys_ok t_impl_Model_solves (fn := Try.f133) (c := bd Try.f133) (by kernel_rfl) (by kernel_rfl) (by kernel_rfl) (by kernel_rfl) ?_
  intro args st k he
  unfold c_impl_Model_solves at he
  split at he
  rotate_left
  · exact he.elim
  rename_i m_0 m_1 cells
  have he : Ok (impl_Model_solves (m_0, m_1) cells) (fun r => k (.c (.bool r)) []) := he
  refine ⟨rfl, rfl, ?_⟩
  obtain ⟨r1_, hr, he⟩ := ok_bind he
  refine ⟨r1_, hr, ?_⟩
  have he := ok_some he
  exact ⟨rfl, _, _, (leads_ren [] (l := [(4, .c (.bool (!r1_)))]) (st' := []) rfl rfl trivial ⟨.inl rfl, trivial⟩), he⟩

end Go.AE.Y
