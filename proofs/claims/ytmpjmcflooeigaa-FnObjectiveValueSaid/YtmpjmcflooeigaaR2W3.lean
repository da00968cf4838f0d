/-
  Walks: each function keeps the contract that its model gives. No conditions.
-/
import Derived.Test.YtmpjmcflooeigaaR2Tab
import Derived.Test.YtmpjmcflooeigaaR2W2
namespace Go.AE.Y
open Go Go.AE Go.Proofs
set_option linter.unusedVariables false
set_option maxHeartbeats 2000000
set_option maxRecDepth 100000

noncomputable def c_spec_l9Coefs : Con := fun args st => match args, st with
  | [.agg [.imm (.int .i64) m_0, .imm (.pair (.int .i64) (.pair (.sl (.int .i64)) (.pair (.sl (.int .i64)) (.pair (.int .i64) (.sl (.sl (.int .i64))))))) m_1], .c (.imm (.int .i64) coefs)], [] => .opt (Bool) (spec_l9Coefs (m_0, m_1) coefs) (fun r => .ret (.c (.bool r)) [])
  | _, _ => .fail

noncomputable def C_spec_l9Coefs : Cfg := { y := tys, n := 35, h := 0, tab := [(85, c_spec_ModelValid)], cut := [], hand := [], good := [], deep := [], sched := [] }

theorem t_spec_l9Coefs : TabOk Try.prog C_spec_l9Coefs := by
  refine tabOk_of ?_
  simp only [C_spec_l9Coefs, List.forall_mem_cons]
  exact ⟨k_spec_ModelValid, fun p h => by cases h⟩

theorem k_spec_l9Coefs : Entry Try.prog 111 c_spec_l9Coefs := by
  refine entry_by (C := C_spec_l9Coefs) mixed tys_ok t_spec_l9Coefs (fn := Try.f111) (c := bd Try.f111) (by kernel_rfl) (by kernel_rfl) (by kernel_rfl) (by kernel_rfl) ?_
  intro args st k he
  unfold c_spec_l9Coefs at he
  split at he
  rotate_left
  · exact he.elim
  rename_i m_0 m_1 coefs
  have he : Ok (spec_l9Coefs (m_0, m_1) coefs) (fun r => k (.c (.bool r)) []) := he
  refine ⟨rfl, rfl, ?_⟩
  obtain ⟨r1_, hr, he⟩ := ok_bind he
  refine ⟨r1_, hr, ?_⟩
  refine And.intro (fun hb => ?_) (fun hb => ?_)
  · have he := ok_f he hb
    refine And.intro (fun hb => ?_) (fun hb => ?_)
    · have he := ok_t he hb
      have he := ok_some he
      exact ⟨rfl, _, _, (leads_ren [] (l := [(4, .c (.bool false))]) (st' := []) rfl rfl trivial ⟨.inr rfl, trivial⟩), he⟩
    · have he := ok_f he hb
      refine loop_model mixed tys_ok t_spec_l9Coefs (S := Int) (I := (fun i => (envOf [(1, .c (.imm (.int .i64) coefs)), (5, .c (.int .i64 i))], []))) (f := spec_l9Coefs_l1 coefs) (K := (fun r => k (.c (.bool r)) [])) he (leads_ren [] (l := [(1, .c (.imm (.int .i64) coefs)), (5, .c (.int .i64 (0:Int)))]) (st' := []) rfl rfl trivial ⟨.inl rfl, rfl, trivial⟩) ?_
      rintro i J1 he
      refine And.intro (fun hb => ?_) (fun hb => ?_)
      · have he := ok_t he hb
        have he := ok_rq he
        refine And.intro he.1 ?_
        have he := he.2
        refine And.intro (fun hb => ?_) (fun hb => ?_)
        · have he := ok_f he hb
          have he := ok_rq he
          refine And.intro he.1 ?_
          have he := he.2
          refine And.intro (fun hb => ?_) (fun hb => ?_)
          · have he := ok_t he hb
            have he := ok_some he
            exact ⟨rfl, _, _, Leads.refl _ _, he⟩
          · have he := ok_f he hb
            have he := ok_rq he
            refine And.intro he.1 ?_
            have he := he.2
            have he := ok_some he
            exact ⟨(i + (1:Int)), he, (leads_ren [] (l := [(1, .c (.imm (.int .i64) coefs)), (5, .c (.int .i64 (i + (1:Int))))]) (st' := []) rfl rfl trivial ⟨.inl rfl, rfl, trivial⟩)⟩
        · have he := ok_t he hb
          have he := ok_some he
          exact ⟨rfl, _, _, Leads.refl _ _, he⟩
      · have he := ok_f he hb
        have he := ok_some he
        exact ⟨rfl, _, _, Leads.refl _ _, he⟩
  · have he := ok_t he hb
    have he := ok_some he
    exact ⟨rfl, _, _, (leads_ren [] (l := [(4, .c (.bool false))]) (st' := []) rfl rfl trivial ⟨.inr rfl, trivial⟩), he⟩

noncomputable def c_spec_l6Cells : Con := fun args st => match args, st with
  | [.agg [.imm (.int .i64) m_0, .imm (.pair (.int .i64) (.pair (.sl (.int .i64)) (.pair (.sl (.int .i64)) (.pair (.int .i64) (.sl (.sl (.int .i64))))))) m_1], .c (.imm (.int .i64) cells)], [] => .opt (Bool) (spec_l6Cells (m_0, m_1) cells) (fun r => .ret (.c (.bool r)) [])
  | _, _ => .fail

noncomputable def C_spec_l6Cells : Cfg := { y := tys, n := 35, h := 0, tab := [], cut := [], hand := [], good := [], deep := [], sched := [] }

theorem t_spec_l6Cells : TabOk Try.prog C_spec_l6Cells := tabOk_of (fun p h => by cases h)

theorem k_spec_l6Cells : Entry Try.prog 112 c_spec_l6Cells := by
  refine entry_by (C := C_spec_l6Cells) mixed tys_ok t_spec_l6Cells (fn := Try.f112) (c := bd Try.f112) (by kernel_rfl) (by kernel_rfl) (by kernel_rfl) (by kernel_rfl) ?_
  intro args st k he
  unfold c_spec_l6Cells at he
  split at he
  rotate_left
  · exact he.elim
  rename_i m_0 m_1 cells
  have he : Ok (spec_l6Cells (m_0, m_1) cells) (fun r => k (.c (.bool r)) []) := he
  refine ⟨rfl, rfl, ?_⟩
  refine And.intro (fun hb => ?_) (fun hb => ?_)
  · have he := ok_t he hb
    have he := ok_some he
    exact ⟨rfl, _, _, (leads_ren [] (l := [(4, .c (.bool false))]) (st' := []) rfl rfl trivial ⟨.inr rfl, trivial⟩), he⟩
  · have he := ok_f he hb
    refine loop_model mixed tys_ok t_spec_l6Cells (S := Int) (I := (fun i => (envOf [(1, .c (.imm (.int .i64) cells)), (2, .c (.ptr 10000000 0)), (5, .c (.int .i64 i))], [(10000000, .rc [.imm (.int .i64) (m_0, m_1).1, .imm (.pair (.int .i64) (.pair (.sl (.int .i64)) (.pair (.sl (.int .i64)) (.pair (.int .i64) (.sl (.sl (.int .i64))))))) (m_0, m_1).2])]))) (f := spec_l6Cells_l1 (m_0, m_1) cells) (K := (fun r => k (.c (.bool r)) [])) he (leads_ren [(10000000, 2)] (l := [(1, .c (.imm (.int .i64) cells)), (2, .c (.ptr 10000000 0)), (5, .c (.int .i64 (0:Int)))]) (st' := [(10000000, .rc [.imm (.int .i64) (m_0, m_1).1, .imm (.pair (.int .i64) (.pair (.sl (.int .i64)) (.pair (.sl (.int .i64)) (.pair (.int .i64) (.sl (.sl (.int .i64))))))) (m_0, m_1).2])]) rfl rfl ⟨⟨.inl rfl, .inl rfl, trivial⟩, trivial⟩ ⟨.inl rfl, ⟨⟨rfl, rfl⟩, rfl⟩, rfl, trivial⟩) ?_
    rintro i J1 he
    refine And.intro (fun hb => ?_) (fun hb => ?_)
    · have he := ok_t he hb
      refine And.intro (by kernel_rfl) ?_
      have he := ok_rq he
      refine And.intro he.1 ?_
      have he := he.2
      refine And.intro (fun hb => ?_) (fun hb => ?_)
      · have he := ok_f he hb
        have he := ok_rq he
        refine And.intro he.1 ?_
        have he := he.2
        have he := ok_rq he
        refine And.intro he.1 ?_
        have he := he.2
        refine And.intro (fun hb => ?_) (fun hb => ?_)
        · have he := ok_t he hb
          have he := ok_some he
          exact ⟨rfl, _, _, (leads_ren [] (l := [(4, .c (.bool false))]) (st' := []) rfl rfl trivial ⟨.inr rfl, trivial⟩), he⟩
        · have he := ok_f he hb
          have he := ok_rq he
          refine And.intro he.1 ?_
          have he := he.2
          have he := ok_some he
          exact ⟨(i + (1:Int)), he, (leads_ren [] (l := [(1, .c (.imm (.int .i64) cells)), (2, .c (.ptr 10000000 0)), (5, .c (.int .i64 (i + (1:Int))))]) (st' := [(10000000, .rc [.imm (.int .i64) (m_0, m_1).1, .imm (.pair (.int .i64) (.pair (.sl (.int .i64)) (.pair (.sl (.int .i64)) (.pair (.int .i64) (.sl (.sl (.int .i64))))))) (m_0, m_1).2])]) rfl rfl ⟨⟨.inl rfl, .inl rfl, trivial⟩, trivial⟩ ⟨.inl rfl, ⟨⟨rfl, rfl⟩, rfl⟩, rfl, trivial⟩)⟩
      · have he := ok_t he hb
        have he := ok_some he
        exact ⟨rfl, _, _, (leads_ren [] (l := [(4, .c (.bool false))]) (st' := []) rfl rfl trivial ⟨.inr rfl, trivial⟩), he⟩
    · have he := ok_f he hb
      have he := ok_some he
      exact ⟨rfl, _, _, (leads_ren [] (l := [(4, .c (.bool true))]) (st' := []) rfl rfl trivial ⟨.inr rfl, trivial⟩), he⟩

noncomputable def c_spec_l9Value : Con := fun args st => match args, st with
  | [.c (.imm (.int .i64) coefs), .c (.imm (.int .i64) cells)], [] => .opt (Int) (spec_l9Value coefs cells) (fun r => .ret (.c (.int .i64 r)) [])
  | _, _ => .fail

noncomputable def C_spec_l9Value : Cfg := { y := tys, n := 25, h := 0, tab := [], cut := [], hand := [], good := [], deep := [], sched := [] }

theorem t_spec_l9Value : TabOk Try.prog C_spec_l9Value := tabOk_of (fun p h => by cases h)

theorem k_spec_l9Value : Entry Try.prog 113 c_spec_l9Value := by
  refine entry_by (C := C_spec_l9Value) mixed tys_ok t_spec_l9Value (fn := Try.f113) (c := bd Try.f113) (by kernel_rfl) (by kernel_rfl) (by kernel_rfl) (by kernel_rfl) ?_
  intro args st k he
  unfold c_spec_l9Value at he
  split at he
  rotate_left
  · exact he.elim
  rename_i coefs cells
  have he : Ok (spec_l9Value coefs cells) (fun r => k (.c (.int .i64 r)) []) := he
  refine ⟨rfl, rfl, ?_⟩
  refine loop_model mixed tys_ok t_spec_l9Value (S := Int × Int) (I := (fun (n, i) => (envOf [(0, .c (.imm (.int .i64) coefs)), (1, .c (.imm (.int .i64) cells)), (5, .c (.int .i64 n)), (6, .c (.int .i64 i))], []))) (f := spec_l9Value_l1 coefs cells) (K := (fun r => k (.c (.int .i64 r)) [])) he (leads_ren [] (l := [(0, .c (.imm (.int .i64) coefs)), (1, .c (.imm (.int .i64) cells)), (5, .c (.int .i64 (0:Int))), (6, .c (.int .i64 (0:Int)))]) (st' := []) rfl rfl trivial ⟨.inl rfl, .inl rfl, rfl, rfl, trivial⟩) ?_
  rintro ⟨n, i⟩ J1 he
  refine And.intro (fun hb => ?_) (fun hb => ?_)
  · have he := ok_t he hb
    refine And.intro (by kernel_rfl) ?_
    have he := ok_rq he
    refine And.intro he.1 ?_
    have he := he.2
    have he := ok_rq he
    refine And.intro he.1 ?_
    have he := he.2
    have he := ok_rq he
    refine And.intro he.1 ?_
    have he := he.2
    have he := ok_rq he
    refine And.intro he.1 ?_
    have he := he.2
    have he := ok_rq he
    refine And.intro he.1 ?_
    have he := he.2
    have he := ok_some he
    exact ⟨((n + ((coefs.getD i.toNat 0) * (cells.getD i.toNat 0))), (i + (1:Int))), he, (leads_ren [] (l := [(0, .c (.imm (.int .i64) coefs)), (1, .c (.imm (.int .i64) cells)), (5, .c (.int .i64 (n + ((coefs.getD i.toNat 0) * (cells.getD i.toNat 0))))), (6, .c (.int .i64 (i + (1:Int))))]) (st' := []) rfl rfl trivial ⟨.inl rfl, .inl rfl, rfl, rfl, trivial⟩)⟩
  · have he := ok_f he hb
    have he := ok_some he
    exact ⟨rfl, _, _, Leads.refl _ _, he⟩

noncomputable def c_spec_ObjectiveValue : Con := fun args st => match args, st with
  | [.agg [.imm (.int .i64) m_0, .imm (.pair (.int .i64) (.pair (.sl (.int .i64)) (.pair (.sl (.int .i64)) (.pair (.int .i64) (.sl (.sl (.int .i64))))))) m_1], .c (.imm (.int .i64) coefs), .c (.imm (.int .i64) cells)], [] => .opt (Int × Bool) (spec_ObjectiveValue (m_0, m_1) coefs cells) (fun r => .ret (.tup [.c (.int .i64 r.1), .c (.bool r.2)]) [])
  | _, _ => .fail

noncomputable def C_spec_ObjectiveValue : Cfg := { y := tys, n := 21, h := 0, tab := [(111, c_spec_l9Coefs), (112, c_spec_l6Cells), (113, c_spec_l9Value)], cut := [], hand := [], good := [], deep := [], sched := [] }

theorem t_spec_ObjectiveValue : TabOk Try.prog C_spec_ObjectiveValue := by
  refine tabOk_of ?_
  simp only [C_spec_ObjectiveValue, List.forall_mem_cons]
  exact ⟨k_spec_l9Coefs, k_spec_l6Cells, k_spec_l9Value, fun p h => by cases h⟩

theorem k_spec_ObjectiveValue : Entry Try.prog 54 c_spec_ObjectiveValue := by
  refine entry_by (C := C_spec_ObjectiveValue) mixed tys_ok t_spec_ObjectiveValue (fn := Try.f54) (c := bd Try.f54) (by kernel_rfl) (by kernel_rfl) (by kernel_rfl) (by kernel_rfl) ?_
  intro args st k he
  unfold c_spec_ObjectiveValue at he
  split at he
  rotate_left
  · exact he.elim
  rename_i m_0 m_1 coefs cells
  have he : Ok (spec_ObjectiveValue (m_0, m_1) coefs cells) (fun r => k (.tup [.c (.int .i64 r.1), .c (.bool r.2)]) []) := he
  refine ⟨rfl, rfl, ?_⟩
  obtain ⟨r1_, hr, he⟩ := ok_bind he
  refine ⟨r1_, hr, ?_⟩
  refine And.intro (fun hb => ?_) (fun hb => ?_)
  · have he := ok_f he hb
    obtain ⟨r2_, hr, he⟩ := ok_bind he
    refine ⟨r2_, hr, ?_⟩
    refine And.intro (fun hb => ?_) (fun hb => ?_)
    · have he := ok_t he hb
      have he := ok_some he
      exact ⟨rfl, _, _, (leads_ren [] (l := [(6, .c (.int .i64 (0:Int))), (7, .c (.bool false))]) (st' := []) rfl rfl trivial ⟨rfl, .inr rfl, trivial⟩), he⟩
    · have he := ok_f he hb
      obtain ⟨r3_, hr, he⟩ := ok_bind he
      refine ⟨r3_, hr, ?_⟩
      have he := ok_some he
      exact ⟨rfl, _, _, (leads_ren [] (l := [(6, .c (.int .i64 r3_)), (7, .c (.bool true))]) (st' := []) rfl rfl trivial ⟨rfl, .inr rfl, trivial⟩), he⟩
  · have he := ok_t he hb
    have he := ok_some he
    exact ⟨rfl, _, _, (leads_ren [] (l := [(6, .c (.int .i64 (0:Int))), (7, .c (.bool false))]) (st' := []) rfl rfl trivial ⟨rfl, .inr rfl, trivial⟩), he⟩

noncomputable def c_laws_FnObjectiveValue : Con := fun args st => match args, st with
  | [.c (.imm (.int .u8) a0)], [] => .opt (Bool) (laws_FnObjectiveValue a0) (fun r => .ret (.c (.bool r)) [])
  | _, _ => .fail

noncomputable def C_laws_FnObjectiveValue : Cfg := { y := tys, n := 104, h := 0, tab := [(54, c_spec_ObjectiveValue), (55, c_impl_ObjectiveValue), (58, c_spec_DrawObjectiveValue)], cut := [13, 15], hand := [], good := [], deep := [], sched := [(14, (.first 1 (.first 2 (.first 3 (.alt 0 (.alt 4 (.alt 5 (.first 6 (.first 7 (.first 8 (.first 9 (.first 10 .done))))) .stop) .stop) (.alt 4 (.alt 0 (.alt 5 (.first 6 (.first 7 (.first 8 (.first 9 (.first 10 .done))))) .stop) .stop) .stop))))))] }

theorem t_laws_FnObjectiveValue : TabOk Try.prog C_laws_FnObjectiveValue := by
  refine tabOk_of ?_
  simp only [C_laws_FnObjectiveValue, List.forall_mem_cons]
  exact ⟨k_spec_ObjectiveValue, k_impl_ObjectiveValue, k_spec_DrawObjectiveValue, fun p h => by cases h⟩

theorem k_laws_FnObjectiveValue : Entry Try.prog 13 c_laws_FnObjectiveValue := by
  refine entry_by (C := C_laws_FnObjectiveValue) mixed tys_ok t_laws_FnObjectiveValue (fn := Try.f13) (c := bd Try.f13) (by kernel_rfl) (by kernel_rfl) (by kernel_rfl) (by kernel_rfl) ?_
  intro args st k he
  unfold c_laws_FnObjectiveValue at he
  split at he
  rotate_left
  · exact he.elim
  rename_i a0
  have he : Ok (laws_FnObjectiveValue a0) (fun r => k (.c (.bool r)) []) := he
  refine ⟨rfl, rfl, ?_⟩
  refine And.intro (fun hb => ?_) (fun hb => ?_)
  · have he := ok_t he hb
    have he := ok_some he
    exact ⟨rfl, _, _, Leads.refl _ _, he⟩
  · have he := ok_f he hb
    obtain ⟨r1_, hr, he⟩ := ok_bind he
    refine ⟨r1_, hr, ?_⟩
    obtain ⟨r2_, hr, he⟩ := ok_bind he
    refine ⟨r2_, hr, ?_⟩
    obtain ⟨r3_, hr, he⟩ := ok_bind he
    refine ⟨r3_, hr, ?_⟩
    refine And.intro (fun hb => ?_) (fun hb => ?_)
    · have he := ok_f he hb
      refine And.intro (fun hb => ?_) (fun hb => ?_)
      · have he := ok_f he hb
        refine And.intro (fun hb => ?_) (fun hb => ?_)
        · have he := ok_t he hb
          refine And.intro (fun hb => ?_) (fun hb => ?_)
          · have he := ok_t he hb
            have he := ok_some he
            exact ⟨rfl, _, _, (leads_ren [] (l := [(2, .c (.bool (r2_.1 == r3_.1)))]) (st' := []) rfl rfl trivial ⟨.inl rfl, trivial⟩), he⟩
          · have he := ok_f he hb
            have he := ok_some he
            exact ⟨rfl, _, _, (leads_ren [] (l := [(2, .c (.bool false))]) (st' := []) rfl rfl trivial ⟨.inr rfl, trivial⟩), he⟩
        · have he := ok_f he hb
          refine seq_model mixed tys_ok t_laws_FnObjectiveValue (S := (List Int)) (I := (fun i2 => (envOf [(3, .c (.ptr 10001000 0)), (4, .c (.own 10001001 false)), (5, .c (.own 10001002 false)), (6, .c (.int .i64 r2_.1)), (10, .c (.own 10001003 false))], [(10001000, .rc [.own 10001004 false, .own 10001005 false]), (10001001, .sl 3 (.int .i64) r1_.1 .shallow), (10001002, .sl 3 (.int .i64) r1_.2.1 .shallow), (10001003, .sl 3 (.int .i64) i2 .shallow), (10001004, .sl 3 (.int .i64) r1_.2.2.1 .shallow), (10001005, .sl 133 (.pair (.int .i64) (.pair (.sl (.int .i64)) (.pair (.sl (.int .i64)) (.pair (.int .i64) (.sl (.sl (.int .i64))))))) r1_.2.2.2 (.deep true .no))]))) (B := fun s => Ok (laws_FnObjectiveValue_j1 r1_ r2_ s) (fun r => k (.c (.bool r)) [])) ?_ ?_
          · rintro i2 he
            obtain ⟨r4_, hr, he⟩ := ok_bind he
            refine ⟨r4_, hr, ?_⟩
            refine seq_model mixed tys_ok t_laws_FnObjectiveValue (S := Int × Bool) (I := (fun (i3, i4) => (envOf [(6, .c (.int .i64 r2_.1)), (12, .c (.int .i64 r4_.1)), (13, .c (.bool r4_.2)), (14, .c (.int .i64 i3)), (15, .c (.bool i4))], []))) (B := fun s => Ok (laws_FnObjectiveValue_j2 r2_ r4_ s) (fun r => k (.c (.bool r)) [])) ?_ ?_
            · rintro ⟨i3, i4⟩ he
              refine And.intro (fun hb => ?_) (fun hb => ?_)
              · have he := ok_t he hb
                refine And.intro (fun hb => ?_) (fun hb => ?_)
                · have he := ok_t he hb
                  have he := ok_rq he
                  refine And.intro he.1 ?_
                  have he := he.2
                  refine And.intro (fun hb => ?_) (fun hb => ?_)
                  · have he := ok_t he hb
                    have he := ok_some he
                    exact ⟨rfl, _, _, Leads.refl _ _, he⟩
                  · have he := ok_f he hb
                    have he := ok_some he
                    exact ⟨rfl, _, _, Leads.refl _ _, he⟩
                · have he := ok_f he hb
                  have he := ok_some he
                  exact ⟨rfl, _, _, Leads.refl _ _, he⟩
              · have he := ok_f he hb
                have he := ok_some he
                exact ⟨rfl, _, _, Leads.refl _ _, he⟩
            · skip
              refine And.intro (by kernel_rfl) ?_
              have he := ok_rq he
              have hq1 := he.1
              have he := he.2
              obtain ⟨r6_, hq2, he⟩ := ok_bind he
              refine And.intro ?_ (And.intro ?_ (trivial))
              · skip
                refine And.intro ?_ trivial
                refine And.intro hq1 ?_
                refine And.intro ?_ trivial
                refine ⟨r6_, hq2, ?_⟩
                exact ⟨(r6_.1, r6_.2), he, (leads_ren [] (l := [(6, .c (.int .i64 r2_.1)), (12, .c (.int .i64 r4_.1)), (13, .c (.bool r4_.2)), (14, .c (.int .i64 r6_.1)), (15, .c (.bool r6_.2))]) (st' := []) rfl rfl trivial ⟨rfl, rfl, .inl rfl, rfl, .inl rfl, trivial⟩)⟩
              · skip
                refine And.intro hq1 ?_
                refine And.intro ?_ trivial
                refine And.intro ?_ trivial
                refine ⟨r6_, hq2, ?_⟩
                exact ⟨(r6_.1, r6_.2), he, (leads_ren [] (l := [(6, .c (.int .i64 r2_.1)), (12, .c (.int .i64 r4_.1)), (13, .c (.bool r4_.2)), (14, .c (.int .i64 r6_.1)), (15, .c (.bool r6_.2))]) (st' := []) rfl rfl trivial ⟨rfl, rfl, .inl rfl, rfl, .inl rfl, trivial⟩)⟩
          · skip
            refine loop_model mixed tys_ok t_laws_FnObjectiveValue (S := Int × (List Int)) (I := (fun (i, i1) => (envOf [(3, .c (.ptr 10000000 0)), (4, .c (.own 10000001 false)), (5, .c (.own 10000002 false)), (6, .c (.int .i64 r2_.1)), (10, .c (.own 10000003 false)), (11, .c (.int .i64 i))], [(10000000, .rc [.own 10000004 false, .own 10000005 false]), (10000001, .sl 3 (.int .i64) r1_.1 .shallow), (10000002, .sl 3 (.int .i64) r1_.2.1 .shallow), (10000003, .sl 3 (.int .i64) i1 .shallow), (10000004, .sl 3 (.int .i64) r1_.2.2.1 .shallow), (10000005, .sl 133 (.pair (.int .i64) (.pair (.sl (.int .i64)) (.pair (.sl (.int .i64)) (.pair (.int .i64) (.sl (.sl (.int .i64))))))) r1_.2.2.2 (.deep true .no))]))) (f := laws_FnObjectiveValue_l1 r1_ r2_) (K := (fun r => k (.c (.bool r)) [])) he (leads_ren [(10000000, 3), (10000001, 22901), (10000002, 22902), (10000003, 59), (10000004, 22903), (10000005, 22904)] (l := [(3, .c (.ptr 10000000 0)), (4, .c (.own 10000001 false)), (5, .c (.own 10000002 false)), (6, .c (.int .i64 r2_.1)), (10, .c (.own 10000003 false)), (11, .c (.int .i64 (0:Int)))]) (st' := [(10000000, .rc [.own 10000004 false, .own 10000005 false]), (10000001, .sl 3 (.int .i64) r1_.1 .shallow), (10000002, .sl 3 (.int .i64) r1_.2.1 .shallow), (10000003, .sl 3 (.int .i64) ([] : List Int) .shallow), (10000004, .sl 3 (.int .i64) r1_.2.2.1 .shallow), (10000005, .sl 133 (.pair (.int .i64) (.pair (.sl (.int .i64)) (.pair (.sl (.int .i64)) (.pair (.int .i64) (.sl (.sl (.int .i64))))))) r1_.2.2.2 (.deep true .no))]) rfl rfl ⟨⟨⟨⟨rfl, rfl⟩, trivial⟩, ⟨⟨rfl, rfl⟩, trivial⟩, trivial⟩, ⟨rfl, rfl⟩, ⟨rfl, rfl⟩, ⟨rfl, rfl⟩, ⟨rfl, rfl⟩, ⟨rfl, rfl⟩, trivial⟩ ⟨⟨⟨rfl, rfl⟩, rfl⟩, ⟨⟨rfl, rfl⟩, trivial⟩, ⟨⟨rfl, rfl⟩, trivial⟩, rfl, ⟨⟨rfl, rfl⟩, trivial⟩, rfl, trivial⟩) ?_
            rintro ⟨i, i1⟩ J1 he
            refine And.intro (fun hb => ?_) (fun hb => ?_)
            · have he := ok_t he hb
              have he := ok_rq he
              refine And.intro he.1 ?_
              have he := he.2
              have he := ok_rq he
              refine And.intro he.1 ?_
              have he := he.2
              have he := ok_rq he
              refine And.intro he.1 ?_
              have he := he.2
              have he := ok_rq he
              refine And.intro he.1 ?_
              have he := he.2
              have he := ok_some he
              exact ⟨((i + (1:Int)), (i1 ++ [(0 - (r1_.1.getD i.toNat 0))])), he, (leads_ren [(10000003, 73)] (l := [(3, .c (.ptr 10000000 0)), (4, .c (.own 10000001 false)), (5, .c (.own 10000002 false)), (6, .c (.int .i64 r2_.1)), (10, .c (.own 10000003 false)), (11, .c (.int .i64 (i + (1:Int))))]) (st' := [(10000000, .rc [.own 10000004 false, .own 10000005 false]), (10000001, .sl 3 (.int .i64) r1_.1 .shallow), (10000002, .sl 3 (.int .i64) r1_.2.1 .shallow), (10000003, .sl 3 (.int .i64) (i1 ++ [(0 - (r1_.1.getD i.toNat 0))]) .shallow), (10000004, .sl 3 (.int .i64) r1_.2.2.1 .shallow), (10000005, .sl 133 (.pair (.int .i64) (.pair (.sl (.int .i64)) (.pair (.sl (.int .i64)) (.pair (.int .i64) (.sl (.sl (.int .i64))))))) r1_.2.2.2 (.deep true .no))]) rfl rfl ⟨⟨⟨⟨rfl, rfl⟩, trivial⟩, ⟨⟨rfl, rfl⟩, trivial⟩, trivial⟩, ⟨rfl, rfl⟩, ⟨rfl, rfl⟩, ⟨rfl, rfl⟩, ⟨rfl, rfl⟩, ⟨rfl, rfl⟩, trivial⟩ ⟨⟨⟨rfl, rfl⟩, rfl⟩, ⟨⟨rfl, rfl⟩, trivial⟩, ⟨⟨rfl, rfl⟩, trivial⟩, rfl, ⟨⟨rfl, rfl⟩, trivial⟩, rfl, trivial⟩)⟩
            · have he := ok_f he hb
              exact ⟨i1, ok_up he, (leads_ren [(10001000, 10000000), (10001001, 10000001), (10001002, 10000002), (10001003, 10000003), (10001004, 10000004), (10001005, 10000005)] (l := [(3, .c (.ptr 10001000 0)), (4, .c (.own 10001001 false)), (5, .c (.own 10001002 false)), (6, .c (.int .i64 r2_.1)), (10, .c (.own 10001003 false))]) (st' := [(10001000, .rc [.own 10001004 false, .own 10001005 false]), (10001001, .sl 3 (.int .i64) r1_.1 .shallow), (10001002, .sl 3 (.int .i64) r1_.2.1 .shallow), (10001003, .sl 3 (.int .i64) i1 .shallow), (10001004, .sl 3 (.int .i64) r1_.2.2.1 .shallow), (10001005, .sl 133 (.pair (.int .i64) (.pair (.sl (.int .i64)) (.pair (.sl (.int .i64)) (.pair (.int .i64) (.sl (.sl (.int .i64))))))) r1_.2.2.2 (.deep true .no))]) rfl rfl ⟨⟨⟨⟨rfl, rfl⟩, trivial⟩, ⟨⟨rfl, rfl⟩, trivial⟩, trivial⟩, ⟨rfl, rfl⟩, ⟨rfl, rfl⟩, ⟨rfl, rfl⟩, ⟨rfl, rfl⟩, ⟨rfl, rfl⟩, trivial⟩ ⟨⟨⟨rfl, rfl⟩, rfl⟩, ⟨⟨rfl, rfl⟩, trivial⟩, ⟨⟨rfl, rfl⟩, trivial⟩, rfl, ⟨⟨rfl, rfl⟩, trivial⟩, trivial⟩)⟩
      · have he := ok_t he hb
        refine And.intro (fun hb => ?_) (fun hb => ?_)
        · have he := ok_t he hb
          have he := ok_some he
          exact ⟨rfl, _, _, (leads_ren [] (l := [(2, .c (.bool (r2_.1 == r3_.1)))]) (st' := []) rfl rfl trivial ⟨.inl rfl, trivial⟩), he⟩
        · have he := ok_f he hb
          have he := ok_some he
          exact ⟨rfl, _, _, (leads_ren [] (l := [(2, .c (.bool false))]) (st' := []) rfl rfl trivial ⟨.inr rfl, trivial⟩), he⟩
    · have he := ok_t he hb
      refine And.intro (fun hb => ?_) (fun hb => ?_)
      · have he := ok_t he hb
        have he := ok_some he
        exact ⟨rfl, _, _, (leads_ren [] (l := [(2, .c (.bool (r2_.1 == r3_.1)))]) (st' := []) rfl rfl trivial ⟨.inl rfl, trivial⟩), he⟩
      · have he := ok_f he hb
        have he := ok_some he
        exact ⟨rfl, _, _, (leads_ren [] (l := [(2, .c (.bool false))]) (st' := []) rfl rfl trivial ⟨.inr rfl, trivial⟩), he⟩

end Go.AE.Y
