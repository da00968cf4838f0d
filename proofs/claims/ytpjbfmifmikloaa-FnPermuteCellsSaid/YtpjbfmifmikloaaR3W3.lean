/-
  Walks: each function keeps the contract that its model gives. No conditions.
-/
import Derived.Test.YtpjbfmifmikloaaR3Tab
import Derived.Test.YtpjbfmifmikloaaR3W2
namespace Go.AE.Y
open Go Go.AE Go.Proofs
set_option linter.unusedVariables false
set_option maxHeartbeats 2000000
set_option maxRecDepth 100000

noncomputable def c_spec_PermuteCells : Con := fun args st => match args, st with
  | [.agg [.imm (.int .i64) m_0, .imm (.pair (.int .i64) (.pair (.sl (.int .i64)) (.pair (.sl (.int .i64)) (.pair (.int .i64) (.sl (.sl (.int .i64))))))) m_1], .c (.imm (.int .i64) perm), .c (.imm (.int .i64) cells)], [] => .opt (Bool × (List Int)) (spec_PermuteCells (m_0, m_1) perm cells) (fun r => .ret (.tup [.c (.own 900 false), .c (.bool r.1)]) [(900, .sl 3 (.int .i64) r.2 .shallow)])
  | _, _ => .fail

noncomputable def C_spec_PermuteCells : Cfg := { y := tys, n := 22, h := 0, tab := [(40, c_spec_PermValid), (93, c_spec_l6Cells), (94, c_spec_l10Cells)], cut := [], hand := [], good := [], deep := [], sched := [] }

theorem t_spec_PermuteCells : TabOk Try.prog C_spec_PermuteCells := by
  refine tabOk_of ?_
  simp only [C_spec_PermuteCells, List.forall_mem_cons]
  exact ⟨k_spec_PermValid, k_spec_l6Cells, k_spec_l10Cells, fun p h => by cases h⟩

theorem k_spec_PermuteCells : Entry Try.prog 31 c_spec_PermuteCells := by
  refine entry_by (C := C_spec_PermuteCells) mixed tys_ok t_spec_PermuteCells (fn := Try.f31) (c := bd Try.f31) (by kernel_rfl) (by kernel_rfl) (by kernel_rfl) (by kernel_rfl) ?_
  intro args st k he
  unfold c_spec_PermuteCells at he
  split at he
  rotate_left
  · exact he.elim
  rename_i m_0 m_1 perm cells
  have he : Ok (spec_PermuteCells (m_0, m_1) perm cells) (fun r => k (.tup [.c (.own 900 false), .c (.bool r.1)]) [(900, .sl 3 (.int .i64) r.2 .shallow)]) := he
  refine ⟨rfl, rfl, ?_⟩
  obtain ⟨r1_, hr, he⟩ := ok_bind he
  refine ⟨r1_, hr, ?_⟩
  refine And.intro (fun hb => ?_) (fun hb => ?_)
  · have he := ok_f he hb
    obtain ⟨r2_, hr, he⟩ := ok_bind he
    refine ⟨r2_, hr, ?_⟩
    refine And.intro (fun hb => ?_) (fun hb => ?_)
    · have he := ok_t he hb
      have he := ok_some he
      exact ⟨rfl, _, _, (leads_ren [(900, 18)] (l := [(6, .c (.own 900 false)), (7, .c (.bool false))]) (st' := [(900, .sl 3 (.int .i64) ([] : List Int) .shallow)]) rfl rfl ⟨⟨rfl, rfl⟩, trivial⟩ ⟨⟨⟨rfl, rfl⟩, trivial⟩, .inr rfl, trivial⟩), he⟩
    · have he := ok_f he hb
      obtain ⟨r3_, hr, he⟩ := ok_bind he
      refine ⟨r3_, hr, ?_⟩
      have he := ok_some he
      exact ⟨rfl, _, _, (leads_ren [(900, 22900)] (l := [(6, .c (.own 900 false)), (7, .c (.bool true))]) (st' := [(900, .sl 3 (.int .i64) r3_ .shallow)]) rfl rfl ⟨⟨rfl, rfl⟩, trivial⟩ ⟨⟨⟨rfl, rfl⟩, trivial⟩, .inr rfl, trivial⟩), he⟩
  · have he := ok_t he hb
    have he := ok_some he
    exact ⟨rfl, _, _, (leads_ren [(900, 18)] (l := [(6, .c (.own 900 false)), (7, .c (.bool false))]) (st' := [(900, .sl 3 (.int .i64) ([] : List Int) .shallow)]) rfl rfl ⟨⟨rfl, rfl⟩, trivial⟩ ⟨⟨⟨rfl, rfl⟩, trivial⟩, .inr rfl, trivial⟩), he⟩

noncomputable def c_laws_cpInts : Con := fun args st => match args, st with
  | [.c (.imm (.int .i64) a), .c (.imm (.int .i64) b)], [] => .opt (Bool) (laws_cpInts a b) (fun r => .ret (.c (.bool r)) [])
  | _, _ => .fail

noncomputable def C_laws_cpInts : Cfg := { y := tys, n := 26, h := 0, tab := [], cut := [], hand := [], good := [], deep := [], sched := [] }

theorem t_laws_cpInts : TabOk Try.prog C_laws_cpInts := tabOk_of (fun p h => by cases h)

theorem k_laws_cpInts : Entry Try.prog 26 c_laws_cpInts := by
  refine entry_by (C := C_laws_cpInts) mixed tys_ok t_laws_cpInts (fn := Try.f26) (c := bd Try.f26) (by kernel_rfl) (by kernel_rfl) (by kernel_rfl) (by kernel_rfl) ?_
  intro args st k he
  unfold c_laws_cpInts at he
  split at he
  rotate_left
  · exact he.elim
  rename_i a b
  have he : Ok (laws_cpInts a b) (fun r => k (.c (.bool r)) []) := he
  refine ⟨rfl, rfl, ?_⟩
  refine And.intro (fun hb => ?_) (fun hb => ?_)
  · have he := ok_t he hb
    have he := ok_some he
    exact ⟨rfl, _, _, Leads.refl _ _, he⟩
  · have he := ok_f he hb
    refine loop_model mixed tys_ok t_laws_cpInts (S := Int) (I := (fun i => (envOf [(0, .c (.imm (.int .i64) a)), (1, .c (.imm (.int .i64) b)), (5, .c (.int .i64 i))], []))) (f := laws_cpInts_l1 a b) (K := (fun r => k (.c (.bool r)) [])) he (leads_ren [] (l := [(0, .c (.imm (.int .i64) a)), (1, .c (.imm (.int .i64) b)), (5, .c (.int .i64 (0:Int)))]) (st' := []) rfl rfl trivial ⟨.inl rfl, .inl rfl, rfl, trivial⟩) ?_
    rintro i J1 he
    refine And.intro (fun hb => ?_) (fun hb => ?_)
    · have he := ok_t he hb
      refine And.intro (by kernel_rfl) ?_
      have he := ok_rq he
      refine And.intro he.1 ?_
      have he := he.2
      have he := ok_rq he
      refine And.intro he.1 ?_
      have he := he.2
      refine And.intro (fun hb => ?_) (fun hb => ?_)
      · have he := ok_t he hb
        have he := ok_some he
        exact ⟨rfl, _, _, Leads.refl _ _, he⟩
      · have he := ok_f he hb
        have he := ok_rq he
        refine And.intro he.1 ?_
        have he := he.2
        have he := ok_some he
        exact ⟨(i + (1:Int)), he, (leads_ren [] (l := [(0, .c (.imm (.int .i64) a)), (1, .c (.imm (.int .i64) b)), (5, .c (.int .i64 (i + (1:Int))))]) (st' := []) rfl rfl trivial ⟨.inl rfl, .inl rfl, rfl, trivial⟩)⟩
    · have he := ok_f he hb
      have he := ok_some he
      exact ⟨rfl, _, _, Leads.refl _ _, he⟩

noncomputable def c_laws_FnPermuteCells : Con := fun args st => match args, st with
  | [.c (.imm (.int .u8) a0)], [] => .opt (Bool) (laws_FnPermuteCells a0) (fun r => .ret (.c (.bool r)) [])
  | _, _ => .fail

noncomputable def C_laws_FnPermuteCells : Cfg := { y := tys, n := 110, h := 0, tab := [(26, c_laws_cpInts), (31, c_spec_PermuteCells), (33, c_impl_PermuteCells), (38, c_spec_DrawPermuteCells), (39, c_impl_PermValid), (40, c_spec_PermValid), (41, c_impl_CellsValid)], cut := [8, 13], hand := [], good := [], deep := [], sched := [(6, (.first 0 (.first 1 (.first 2 (.first 3 (.first 4 (.first 5 (.alt 6 (.first 7 (.first 8 (.first 9 (.first 11 (.first 14 (.alt 10 (.alt 12 (.alt 13 (.alt 15 (.first 16 (.first 17 (.first 18 (.first 19 (.first 20 (.first 21 .done)))))) .stop) .stop) (.alt 13 (.alt 12 (.alt 15 (.first 16 (.first 17 (.first 18 (.first 19 (.first 20 (.first 21 .done)))))) .stop) .stop) .stop)) (.alt 13 (.alt 10 (.alt 12 (.alt 15 (.first 16 (.first 17 (.first 18 (.first 19 (.first 20 (.first 21 .done)))))) .stop) .stop) .stop) .stop))))))) .stop)))))))), (7, (.first 0 (.first 1 (.first 2 (.first 3 (.first 4 (.first 5 (.alt 6 (.first 7 (.first 8 (.first 10 (.first 13 (.alt 9 (.alt 11 (.alt 12 (.alt 14 (.first 15 (.first 16 (.first 17 .done))) .stop) .stop) (.alt 12 (.alt 11 (.alt 14 (.first 15 (.first 16 (.first 17 .done))) .stop) .stop) .stop)) (.alt 12 (.alt 9 (.alt 11 (.alt 14 (.first 15 (.first 16 (.first 17 .done))) .stop) .stop) .stop) .stop)))))) .stop))))))))] }

theorem t_laws_FnPermuteCells : TabOk Try.prog C_laws_FnPermuteCells := by
  refine tabOk_of ?_
  simp only [C_laws_FnPermuteCells, List.forall_mem_cons]
  exact ⟨k_laws_cpInts, k_spec_PermuteCells, k_impl_PermuteCells, k_spec_DrawPermuteCells, k_impl_PermValid, k_spec_PermValid, k_impl_CellsValid, fun p h => by cases h⟩

theorem k_laws_FnPermuteCells : Entry Try.prog 6 c_laws_FnPermuteCells := by
  refine entry_by (C := C_laws_FnPermuteCells) mixed tys_ok t_laws_FnPermuteCells (fn := Try.f6) (c := bd Try.f6) (by kernel_rfl) (by kernel_rfl) (by kernel_rfl) (by kernel_rfl) ?_
  intro args st k he
  unfold c_laws_FnPermuteCells at he
  split at he
  rotate_left
  · exact he.elim
  rename_i a0
  have he : Ok (laws_FnPermuteCells a0) (fun r => k (.c (.bool r)) []) := he
  refine ⟨rfl, rfl, ?_⟩
  refine And.intro (fun hb => ?_) (fun hb => ?_)
  · have he := ok_t he hb
    have he := ok_some he
    exact ⟨rfl, _, _, Leads.refl _ _, he⟩
  · have he := ok_f he hb
    obtain ⟨r1_, hr, he⟩ := ok_bind he
    refine ⟨r1_, hr, ?_⟩
    obtain ⟨r2_, hr, he⟩ := ok_bind he
    refine ⟨r2_, hr, ?_⟩
    obtain ⟨r3_, hr, he⟩ := ok_bind he
    refine ⟨r3_, hr, ?_⟩
    refine seq_model mixed tys_ok t_laws_FnPermuteCells (S := Unit) (I := (fun _ => (envOf [(3, .c (.ptr 10000000 0)), (4, .c (.own 10000001 false)), (5, .c (.own 10000002 false)), (6, .c (.own 10000003 false))], [(10000000, .rc [.own 10000004 false, .own 10000005 false]), (10000001, .sl 3 (.int .i64) r1_.1 .shallow), (10000002, .sl 3 (.int .i64) r1_.2.1 .shallow), (10000003, .sl 3 (.int .i64) r2_.2 .shallow), (10000004, .sl 3 (.int .i64) r1_.2.2.1 .shallow), (10000005, .sl 112 (.pair (.int .i64) (.pair (.sl (.int .i64)) (.pair (.sl (.int .i64)) (.pair (.int .i64) (.sl (.sl (.int .i64))))))) r1_.2.2.2 (.deep true .no))]))) (B := fun s => Ok (laws_FnPermuteCells_j1 r1_ r2_ s) (fun r => k (.c (.bool r)) [])) ?_ ?_
    · rintro ⟨⟩ he
      have he := ok_rq he
      refine And.intro he.1 ?_
      have he := he.2
      refine seq_model mixed tys_ok t_laws_FnPermuteCells (S := (List Int)) (I := (fun i2 => (envOf [(3, .c (.ptr 10002000 0)), (5, .c (.own 10002001 false)), (6, .c (.own 10002002 false)), (10, .c (.own 10002003 false))], [(10002000, .rc [.own 10002004 false, .own 10002005 false]), (10002001, .sl 3 (.int .i64) r1_.2.1 .shallow), (10002002, .sl 3 (.int .i64) r2_.2 .shallow), (10002003, .sl 3 (.int .i64) i2 .shallow), (10002004, .sl 3 (.int .i64) r1_.2.2.1 .shallow), (10002005, .sl 112 (.pair (.int .i64) (.pair (.sl (.int .i64)) (.pair (.sl (.int .i64)) (.pair (.int .i64) (.sl (.sl (.int .i64))))))) r1_.2.2.2 (.deep true .no))]))) (B := fun s => Ok (laws_FnPermuteCells_j2 r1_ r2_ s) (fun r => k (.c (.bool r)) [])) ?_ ?_
      · rintro i2 he
        obtain ⟨r49_, hr, he⟩ := ok_bind he
        refine ⟨r49_, hr, ?_⟩
        refine And.intro (fun hb => ?_) (fun hb => ?_)
        · have he := ok_t he hb
          obtain ⟨r50_, hr, he⟩ := ok_bind he
          refine ⟨r50_, hr, ?_⟩
          refine And.intro (fun hb => ?_) (fun hb => ?_)
          · have he := ok_t he hb
            obtain ⟨r51_, hr, he⟩ := ok_bind he
            refine ⟨r51_, hr, ?_⟩
            have he := ok_some he
            exact ⟨rfl, _, _, (leads_ren [] (l := [(2, .c (.bool r51_))]) (st' := []) rfl rfl trivial ⟨.inl rfl, trivial⟩), he⟩
          · have he := ok_f he hb
            have he := ok_some he
            exact ⟨rfl, _, _, (leads_ren [] (l := [(2, .c (.bool false))]) (st' := []) rfl rfl trivial ⟨.inr rfl, trivial⟩), he⟩
        · have he := ok_f he hb
          have he := ok_some he
          exact ⟨rfl, _, _, (leads_ren [] (l := [(2, .c (.bool false))]) (st' := []) rfl rfl trivial ⟨.inr rfl, trivial⟩), he⟩
      · skip
        refine loop_model mixed tys_ok t_laws_FnPermuteCells (S := Int × (List Int)) (I := (fun (i, i1) => (envOf [(3, .c (.ptr 10001000 0)), (4, .c (.own 10001001 false)), (5, .c (.own 10001002 false)), (6, .c (.own 10001003 false)), (10, .c (.own 10001004 false)), (11, .c (.int .i64 i))], [(10001000, .rc [.own 10001005 false, .own 10001006 false]), (10001001, .sl 3 (.int .i64) r1_.1 .shallow), (10001002, .sl 3 (.int .i64) r1_.2.1 .shallow), (10001003, .sl 3 (.int .i64) r2_.2 .shallow), (10001004, .sl 3 (.int .i64) i1 .shallow), (10001005, .sl 3 (.int .i64) r1_.2.2.1 .shallow), (10001006, .sl 112 (.pair (.int .i64) (.pair (.sl (.int .i64)) (.pair (.sl (.int .i64)) (.pair (.int .i64) (.sl (.sl (.int .i64))))))) r1_.2.2.2 (.deep true .no))]))) (f := laws_FnPermuteCells_l1 r1_ r2_) (K := (fun r => k (.c (.bool r)) [])) he (leads_ren [(10001000, 10000000), (10001001, 10000001), (10001002, 10000002), (10001003, 10000003), (10001004, 78), (10001005, 10000004), (10001006, 10000005)] (l := [(3, .c (.ptr 10001000 0)), (4, .c (.own 10001001 false)), (5, .c (.own 10001002 false)), (6, .c (.own 10001003 false)), (10, .c (.own 10001004 false)), (11, .c (.int .i64 (0:Int)))]) (st' := [(10001000, .rc [.own 10001005 false, .own 10001006 false]), (10001001, .sl 3 (.int .i64) r1_.1 .shallow), (10001002, .sl 3 (.int .i64) r1_.2.1 .shallow), (10001003, .sl 3 (.int .i64) r2_.2 .shallow), (10001004, .sl 3 (.int .i64) (List.replicate (r1_.1.length:Int).toNat 0) .shallow), (10001005, .sl 3 (.int .i64) r1_.2.2.1 .shallow), (10001006, .sl 112 (.pair (.int .i64) (.pair (.sl (.int .i64)) (.pair (.sl (.int .i64)) (.pair (.int .i64) (.sl (.sl (.int .i64))))))) r1_.2.2.2 (.deep true .no))]) rfl rfl ⟨⟨⟨⟨rfl, rfl⟩, trivial⟩, ⟨⟨rfl, rfl⟩, trivial⟩, trivial⟩, ⟨rfl, rfl⟩, ⟨rfl, rfl⟩, ⟨rfl, rfl⟩, ⟨rfl, rfl⟩, ⟨rfl, rfl⟩, ⟨rfl, rfl⟩, trivial⟩ ⟨⟨⟨rfl, rfl⟩, rfl⟩, ⟨⟨rfl, rfl⟩, trivial⟩, ⟨⟨rfl, rfl⟩, trivial⟩, ⟨⟨rfl, rfl⟩, trivial⟩, ⟨⟨rfl, rfl⟩, trivial⟩, rfl, trivial⟩) ?_
        rintro ⟨i, i1⟩ J1 he
        refine And.intro (fun hb => ?_) (fun hb => ?_)
        · have he := ok_t he hb
          have he := ok_rq he
          refine And.intro he.1 ?_
          have he := he.2
          have he := ok_rq he
          refine And.intro he.1 ?_
          have he := he.2
          have he := ok_rq he
          refine And.intro he.1 ?_
          have he := he.2
          have he := ok_some he
          exact ⟨((i + (1:Int)), (i1.set (r1_.1.getD i.toNat 0).toNat i)), he, (leads_ren [] (l := [(3, .c (.ptr 10001000 0)), (4, .c (.own 10001001 false)), (5, .c (.own 10001002 false)), (6, .c (.own 10001003 false)), (10, .c (.own 10001004 false)), (11, .c (.int .i64 (i + (1:Int))))]) (st' := [(10001000, .rc [.own 10001005 false, .own 10001006 false]), (10001001, .sl 3 (.int .i64) r1_.1 .shallow), (10001002, .sl 3 (.int .i64) r1_.2.1 .shallow), (10001003, .sl 3 (.int .i64) r2_.2 .shallow), (10001004, .sl 3 (.int .i64) (i1.set (r1_.1.getD i.toNat 0).toNat i) .shallow), (10001005, .sl 3 (.int .i64) r1_.2.2.1 .shallow), (10001006, .sl 112 (.pair (.int .i64) (.pair (.sl (.int .i64)) (.pair (.sl (.int .i64)) (.pair (.int .i64) (.sl (.sl (.int .i64))))))) r1_.2.2.2 (.deep true .no))]) rfl rfl ⟨⟨⟨⟨rfl, rfl⟩, trivial⟩, ⟨⟨rfl, rfl⟩, trivial⟩, trivial⟩, ⟨rfl, rfl⟩, ⟨rfl, rfl⟩, ⟨rfl, rfl⟩, ⟨rfl, rfl⟩, ⟨rfl, rfl⟩, ⟨rfl, rfl⟩, trivial⟩ ⟨⟨⟨rfl, rfl⟩, rfl⟩, ⟨⟨rfl, rfl⟩, trivial⟩, ⟨⟨rfl, rfl⟩, trivial⟩, ⟨⟨rfl, rfl⟩, trivial⟩, ⟨⟨rfl, rfl⟩, trivial⟩, rfl, trivial⟩)⟩
        · have he := ok_f he hb
          exact ⟨i1, ok_up he, (leads_ren [(10002000, 10001000), (10002001, 10001002), (10002002, 10001003), (10002003, 10001004), (10002004, 10001005), (10002005, 10001006)] (l := [(3, .c (.ptr 10002000 0)), (5, .c (.own 10002001 false)), (6, .c (.own 10002002 false)), (10, .c (.own 10002003 false))]) (st' := [(10002000, .rc [.own 10002004 false, .own 10002005 false]), (10002001, .sl 3 (.int .i64) r1_.2.1 .shallow), (10002002, .sl 3 (.int .i64) r2_.2 .shallow), (10002003, .sl 3 (.int .i64) i1 .shallow), (10002004, .sl 3 (.int .i64) r1_.2.2.1 .shallow), (10002005, .sl 112 (.pair (.int .i64) (.pair (.sl (.int .i64)) (.pair (.sl (.int .i64)) (.pair (.int .i64) (.sl (.sl (.int .i64))))))) r1_.2.2.2 (.deep true .no))]) rfl rfl ⟨⟨⟨⟨rfl, rfl⟩, trivial⟩, ⟨⟨rfl, rfl⟩, trivial⟩, trivial⟩, ⟨rfl, rfl⟩, ⟨rfl, rfl⟩, ⟨rfl, rfl⟩, ⟨rfl, rfl⟩, ⟨rfl, rfl⟩, trivial⟩ ⟨⟨⟨rfl, rfl⟩, rfl⟩, ⟨⟨rfl, rfl⟩, trivial⟩, ⟨⟨rfl, rfl⟩, trivial⟩, ⟨⟨rfl, rfl⟩, trivial⟩, trivial⟩)⟩
    · skip
      refine And.intro (by kernel_rfl) ?_
      refine And.intro (fun hb => ?_) (fun hb => ?_)
      · have he := ok_f he hb
        refine And.intro ?_ trivial
        obtain ⟨r7_, hr, he⟩ := ok_bind he
        refine ⟨r7_, hr, ?_⟩
        refine And.intro (fun hb => ?_) (fun hb => ?_)
        · have he := ok_f he hb
          obtain ⟨r8_, hq1, he⟩ := ok_bind he
          obtain ⟨r9_, hq2, he⟩ := ok_bind he
          refine And.intro ?_ (And.intro ?_ (trivial))
          · skip
            refine And.intro ?_ (And.intro ?_ (trivial))
            · skip
              refine ⟨r8_, hq1, ?_⟩
              refine And.intro ?_ trivial
              refine And.intro ?_ trivial
              refine ⟨r9_, hq2, ?_⟩
              refine And.intro (fun hb => ?_) (fun hb => ?_)
              · have he := ok_f he hb
                refine And.intro (fun hb => ?_) (fun hb => ?_)
                · have he := ok_t he hb
                  refine And.intro (by kernel_rfl) ?_
                  refine And.intro (fun hb => ?_) (fun hb => ?_)
                  · have he := ok_t he hb
                    refine And.intro ?_ trivial
                    obtain ⟨r13_, hr, he⟩ := ok_bind he
                    refine ⟨r13_, hr, ?_⟩
                    refine And.intro (fun hb => ?_) (fun hb => ?_)
                    · have he := ok_t he hb
                      obtain ⟨r14_, hq1, he⟩ := ok_bind he
                      obtain ⟨r15_, hq2, he⟩ := ok_bind he
                      refine And.intro ?_ (And.intro ?_ (trivial))
                      · skip
                        refine And.intro ?_ (And.intro ?_ (trivial))
                        · skip
                          refine ⟨r14_, hq1, ?_⟩
                          refine And.intro ?_ trivial
                          refine And.intro ?_ trivial
                          refine ⟨r15_, hq2, ?_⟩
                          have he := ok_some he
                          exact ⟨rfl, _, _, (leads_ren [] (l := [(2, .c (.bool (r14_ == r15_)))]) (st' := []) rfl rfl trivial ⟨.inl rfl, trivial⟩), he⟩
                        · skip
                          refine And.intro ?_ trivial
                          refine ⟨r14_, hq1, ?_⟩
                          refine And.intro ?_ trivial
                          refine ⟨r15_, hq2, ?_⟩
                          have he := ok_some he
                          exact ⟨rfl, _, _, (leads_ren [] (l := [(2, .c (.bool (r14_ == r15_)))]) (st' := []) rfl rfl trivial ⟨.inl rfl, trivial⟩), he⟩
                      · skip
                        refine And.intro ?_ trivial
                        refine And.intro ?_ trivial
                        refine ⟨r14_, hq1, ?_⟩
                        refine And.intro ?_ trivial
                        refine ⟨r15_, hq2, ?_⟩
                        have he := ok_some he
                        exact ⟨rfl, _, _, (leads_ren [] (l := [(2, .c (.bool (r14_ == r15_)))]) (st' := []) rfl rfl trivial ⟨.inl rfl, trivial⟩), he⟩
                    · have he := ok_f he hb
                      refine And.intro ?_ (And.intro ?_ (trivial))
                      · skip
                        refine And.intro ?_ (And.intro ?_ (trivial))
                        · skip
                          refine And.intro ?_ trivial
                          refine And.intro ?_ trivial
                          have he := ok_some he
                          exact ⟨rfl, _, _, (leads_ren [] (l := [(2, .c (.bool false))]) (st' := []) rfl rfl trivial ⟨.inr rfl, trivial⟩), he⟩
                        · skip
                          refine And.intro ?_ trivial
                          refine And.intro ?_ trivial
                          have he := ok_some he
                          exact ⟨rfl, _, _, (leads_ren [] (l := [(2, .c (.bool false))]) (st' := []) rfl rfl trivial ⟨.inr rfl, trivial⟩), he⟩
                      · skip
                        refine And.intro ?_ trivial
                        refine And.intro ?_ trivial
                        refine And.intro ?_ trivial
                        have he := ok_some he
                        exact ⟨rfl, _, _, (leads_ren [] (l := [(2, .c (.bool false))]) (st' := []) rfl rfl trivial ⟨.inr rfl, trivial⟩), he⟩
                  · have he := ok_f he hb
                    refine And.intro ?_ trivial
                    refine And.intro ?_ (And.intro ?_ (trivial))
                    · skip
                      refine And.intro ?_ (And.intro ?_ (trivial))
                      · skip
                        refine And.intro ?_ trivial
                        refine And.intro ?_ trivial
                        have he := ok_some he
                        exact ⟨rfl, _, _, (leads_ren [] (l := [(2, .c (.bool false))]) (st' := []) rfl rfl trivial ⟨.inr rfl, trivial⟩), he⟩
                      · skip
                        refine And.intro ?_ trivial
                        refine And.intro ?_ trivial
                        have he := ok_some he
                        exact ⟨rfl, _, _, (leads_ren [] (l := [(2, .c (.bool false))]) (st' := []) rfl rfl trivial ⟨.inr rfl, trivial⟩), he⟩
                    · skip
                      refine And.intro ?_ trivial
                      refine And.intro ?_ trivial
                      refine And.intro ?_ trivial
                      have he := ok_some he
                      exact ⟨rfl, _, _, (leads_ren [] (l := [(2, .c (.bool false))]) (st' := []) rfl rfl trivial ⟨.inr rfl, trivial⟩), he⟩
                · have he := ok_f he hb
                  exact ⟨(), he, (leads_ren [(10000000, 3), (10000001, 20901), (10000002, 20902), (10000003, 28900), (10000004, 20903), (10000005, 20904)] (l := [(3, .c (.ptr 10000000 0)), (4, .c (.own 10000001 false)), (5, .c (.own 10000002 false)), (6, .c (.own 10000003 false))]) (st' := [(10000000, .rc [.own 10000004 false, .own 10000005 false]), (10000001, .sl 3 (.int .i64) r1_.1 .shallow), (10000002, .sl 3 (.int .i64) r1_.2.1 .shallow), (10000003, .sl 3 (.int .i64) r2_.2 .shallow), (10000004, .sl 3 (.int .i64) r1_.2.2.1 .shallow), (10000005, .sl 112 (.pair (.int .i64) (.pair (.sl (.int .i64)) (.pair (.sl (.int .i64)) (.pair (.int .i64) (.sl (.sl (.int .i64))))))) r1_.2.2.2 (.deep true .no))]) rfl rfl ⟨⟨⟨⟨rfl, rfl⟩, trivial⟩, ⟨⟨rfl, rfl⟩, trivial⟩, trivial⟩, ⟨rfl, rfl⟩, ⟨rfl, rfl⟩, ⟨rfl, rfl⟩, ⟨rfl, rfl⟩, ⟨rfl, rfl⟩, trivial⟩ ⟨⟨⟨rfl, rfl⟩, rfl⟩, ⟨⟨rfl, rfl⟩, trivial⟩, ⟨⟨rfl, rfl⟩, trivial⟩, ⟨⟨rfl, rfl⟩, trivial⟩, trivial⟩)⟩
              · have he := ok_t he hb
                refine And.intro (by kernel_rfl) ?_
                refine And.intro (fun hb => ?_) (fun hb => ?_)
                · have he := ok_t he hb
                  refine And.intro ?_ trivial
                  obtain ⟨r16_, hr, he⟩ := ok_bind he
                  refine ⟨r16_, hr, ?_⟩
                  refine And.intro (fun hb => ?_) (fun hb => ?_)
                  · have he := ok_t he hb
                    obtain ⟨r17_, hq1, he⟩ := ok_bind he
                    obtain ⟨r18_, hq2, he⟩ := ok_bind he
                    refine And.intro ?_ (And.intro ?_ (trivial))
                    · skip
                      refine And.intro ?_ (And.intro ?_ (trivial))
                      · skip
                        refine ⟨r17_, hq1, ?_⟩
                        refine And.intro ?_ trivial
                        refine And.intro ?_ trivial
                        refine ⟨r18_, hq2, ?_⟩
                        have he := ok_some he
                        exact ⟨rfl, _, _, (leads_ren [] (l := [(2, .c (.bool (r17_ == r18_)))]) (st' := []) rfl rfl trivial ⟨.inl rfl, trivial⟩), he⟩
                      · skip
                        refine And.intro ?_ trivial
                        refine ⟨r17_, hq1, ?_⟩
                        refine And.intro ?_ trivial
                        refine ⟨r18_, hq2, ?_⟩
                        have he := ok_some he
                        exact ⟨rfl, _, _, (leads_ren [] (l := [(2, .c (.bool (r17_ == r18_)))]) (st' := []) rfl rfl trivial ⟨.inl rfl, trivial⟩), he⟩
                    · skip
                      refine And.intro ?_ trivial
                      refine And.intro ?_ trivial
                      refine ⟨r17_, hq1, ?_⟩
                      refine And.intro ?_ trivial
                      refine ⟨r18_, hq2, ?_⟩
                      have he := ok_some he
                      exact ⟨rfl, _, _, (leads_ren [] (l := [(2, .c (.bool (r17_ == r18_)))]) (st' := []) rfl rfl trivial ⟨.inl rfl, trivial⟩), he⟩
                  · have he := ok_f he hb
                    refine And.intro ?_ (And.intro ?_ (trivial))
                    · skip
                      refine And.intro ?_ (And.intro ?_ (trivial))
                      · skip
                        refine And.intro ?_ trivial
                        refine And.intro ?_ trivial
                        have he := ok_some he
                        exact ⟨rfl, _, _, (leads_ren [] (l := [(2, .c (.bool false))]) (st' := []) rfl rfl trivial ⟨.inr rfl, trivial⟩), he⟩
                      · skip
                        refine And.intro ?_ trivial
                        refine And.intro ?_ trivial
                        have he := ok_some he
                        exact ⟨rfl, _, _, (leads_ren [] (l := [(2, .c (.bool false))]) (st' := []) rfl rfl trivial ⟨.inr rfl, trivial⟩), he⟩
                    · skip
                      refine And.intro ?_ trivial
                      refine And.intro ?_ trivial
                      refine And.intro ?_ trivial
                      have he := ok_some he
                      exact ⟨rfl, _, _, (leads_ren [] (l := [(2, .c (.bool false))]) (st' := []) rfl rfl trivial ⟨.inr rfl, trivial⟩), he⟩
                · have he := ok_f he hb
                  refine And.intro ?_ trivial
                  refine And.intro ?_ (And.intro ?_ (trivial))
                  · skip
                    refine And.intro ?_ (And.intro ?_ (trivial))
                    · skip
                      refine And.intro ?_ trivial
                      refine And.intro ?_ trivial
                      have he := ok_some he
                      exact ⟨rfl, _, _, (leads_ren [] (l := [(2, .c (.bool false))]) (st' := []) rfl rfl trivial ⟨.inr rfl, trivial⟩), he⟩
                    · skip
                      refine And.intro ?_ trivial
                      refine And.intro ?_ trivial
                      have he := ok_some he
                      exact ⟨rfl, _, _, (leads_ren [] (l := [(2, .c (.bool false))]) (st' := []) rfl rfl trivial ⟨.inr rfl, trivial⟩), he⟩
                  · skip
                    refine And.intro ?_ trivial
                    refine And.intro ?_ trivial
                    refine And.intro ?_ trivial
                    have he := ok_some he
                    exact ⟨rfl, _, _, (leads_ren [] (l := [(2, .c (.bool false))]) (st' := []) rfl rfl trivial ⟨.inr rfl, trivial⟩), he⟩
            · skip
              refine And.intro ?_ trivial
              refine ⟨r8_, hq1, ?_⟩
              refine And.intro ?_ trivial
              refine ⟨r9_, hq2, ?_⟩
              refine And.intro (fun hb => ?_) (fun hb => ?_)
              · have he := ok_f he hb
                refine And.intro (fun hb => ?_) (fun hb => ?_)
                · have he := ok_t he hb
                  refine And.intro (by kernel_rfl) ?_
                  refine And.intro (fun hb => ?_) (fun hb => ?_)
                  · have he := ok_t he hb
                    refine And.intro ?_ trivial
                    obtain ⟨r19_, hr, he⟩ := ok_bind he
                    refine ⟨r19_, hr, ?_⟩
                    refine And.intro (fun hb => ?_) (fun hb => ?_)
                    · have he := ok_t he hb
                      obtain ⟨r20_, hq1, he⟩ := ok_bind he
                      obtain ⟨r21_, hq2, he⟩ := ok_bind he
                      refine And.intro ?_ (And.intro ?_ (trivial))
                      · skip
                        refine And.intro ?_ (And.intro ?_ (trivial))
                        · skip
                          refine ⟨r20_, hq1, ?_⟩
                          refine And.intro ?_ trivial
                          refine And.intro ?_ trivial
                          refine ⟨r21_, hq2, ?_⟩
                          have he := ok_some he
                          exact ⟨rfl, _, _, (leads_ren [] (l := [(2, .c (.bool (r20_ == r21_)))]) (st' := []) rfl rfl trivial ⟨.inl rfl, trivial⟩), he⟩
                        · skip
                          refine And.intro ?_ trivial
                          refine ⟨r20_, hq1, ?_⟩
                          refine And.intro ?_ trivial
                          refine ⟨r21_, hq2, ?_⟩
                          have he := ok_some he
                          exact ⟨rfl, _, _, (leads_ren [] (l := [(2, .c (.bool (r20_ == r21_)))]) (st' := []) rfl rfl trivial ⟨.inl rfl, trivial⟩), he⟩
                      · skip
                        refine And.intro ?_ trivial
                        refine And.intro ?_ trivial
                        refine ⟨r20_, hq1, ?_⟩
                        refine And.intro ?_ trivial
                        refine ⟨r21_, hq2, ?_⟩
                        have he := ok_some he
                        exact ⟨rfl, _, _, (leads_ren [] (l := [(2, .c (.bool (r20_ == r21_)))]) (st' := []) rfl rfl trivial ⟨.inl rfl, trivial⟩), he⟩
                    · have he := ok_f he hb
                      refine And.intro ?_ (And.intro ?_ (trivial))
                      · skip
                        refine And.intro ?_ (And.intro ?_ (trivial))
                        · skip
                          refine And.intro ?_ trivial
                          refine And.intro ?_ trivial
                          have he := ok_some he
                          exact ⟨rfl, _, _, (leads_ren [] (l := [(2, .c (.bool false))]) (st' := []) rfl rfl trivial ⟨.inr rfl, trivial⟩), he⟩
                        · skip
                          refine And.intro ?_ trivial
                          refine And.intro ?_ trivial
                          have he := ok_some he
                          exact ⟨rfl, _, _, (leads_ren [] (l := [(2, .c (.bool false))]) (st' := []) rfl rfl trivial ⟨.inr rfl, trivial⟩), he⟩
                      · skip
                        refine And.intro ?_ trivial
                        refine And.intro ?_ trivial
                        refine And.intro ?_ trivial
                        have he := ok_some he
                        exact ⟨rfl, _, _, (leads_ren [] (l := [(2, .c (.bool false))]) (st' := []) rfl rfl trivial ⟨.inr rfl, trivial⟩), he⟩
                  · have he := ok_f he hb
                    refine And.intro ?_ trivial
                    refine And.intro ?_ (And.intro ?_ (trivial))
                    · skip
                      refine And.intro ?_ (And.intro ?_ (trivial))
                      · skip
                        refine And.intro ?_ trivial
                        refine And.intro ?_ trivial
                        have he := ok_some he
                        exact ⟨rfl, _, _, (leads_ren [] (l := [(2, .c (.bool false))]) (st' := []) rfl rfl trivial ⟨.inr rfl, trivial⟩), he⟩
                      · skip
                        refine And.intro ?_ trivial
                        refine And.intro ?_ trivial
                        have he := ok_some he
                        exact ⟨rfl, _, _, (leads_ren [] (l := [(2, .c (.bool false))]) (st' := []) rfl rfl trivial ⟨.inr rfl, trivial⟩), he⟩
                    · skip
                      refine And.intro ?_ trivial
                      refine And.intro ?_ trivial
                      refine And.intro ?_ trivial
                      have he := ok_some he
                      exact ⟨rfl, _, _, (leads_ren [] (l := [(2, .c (.bool false))]) (st' := []) rfl rfl trivial ⟨.inr rfl, trivial⟩), he⟩
                · have he := ok_f he hb
                  exact ⟨(), he, (leads_ren [(10000000, 3), (10000001, 20901), (10000002, 20902), (10000003, 28900), (10000004, 20903), (10000005, 20904)] (l := [(3, .c (.ptr 10000000 0)), (4, .c (.own 10000001 false)), (5, .c (.own 10000002 false)), (6, .c (.own 10000003 false))]) (st' := [(10000000, .rc [.own 10000004 false, .own 10000005 false]), (10000001, .sl 3 (.int .i64) r1_.1 .shallow), (10000002, .sl 3 (.int .i64) r1_.2.1 .shallow), (10000003, .sl 3 (.int .i64) r2_.2 .shallow), (10000004, .sl 3 (.int .i64) r1_.2.2.1 .shallow), (10000005, .sl 112 (.pair (.int .i64) (.pair (.sl (.int .i64)) (.pair (.sl (.int .i64)) (.pair (.int .i64) (.sl (.sl (.int .i64))))))) r1_.2.2.2 (.deep true .no))]) rfl rfl ⟨⟨⟨⟨rfl, rfl⟩, trivial⟩, ⟨⟨rfl, rfl⟩, trivial⟩, trivial⟩, ⟨rfl, rfl⟩, ⟨rfl, rfl⟩, ⟨rfl, rfl⟩, ⟨rfl, rfl⟩, ⟨rfl, rfl⟩, trivial⟩ ⟨⟨⟨rfl, rfl⟩, rfl⟩, ⟨⟨rfl, rfl⟩, trivial⟩, ⟨⟨rfl, rfl⟩, trivial⟩, ⟨⟨rfl, rfl⟩, trivial⟩, trivial⟩)⟩
              · have he := ok_t he hb
                refine And.intro (by kernel_rfl) ?_
                refine And.intro (fun hb => ?_) (fun hb => ?_)
                · have he := ok_t he hb
                  refine And.intro ?_ trivial
                  obtain ⟨r22_, hr, he⟩ := ok_bind he
                  refine ⟨r22_, hr, ?_⟩
                  refine And.intro (fun hb => ?_) (fun hb => ?_)
                  · have he := ok_t he hb
                    obtain ⟨r23_, hq1, he⟩ := ok_bind he
                    obtain ⟨r24_, hq2, he⟩ := ok_bind he
                    refine And.intro ?_ (And.intro ?_ (trivial))
                    · skip
                      refine And.intro ?_ (And.intro ?_ (trivial))
                      · skip
                        refine ⟨r23_, hq1, ?_⟩
                        refine And.intro ?_ trivial
                        refine And.intro ?_ trivial
                        refine ⟨r24_, hq2, ?_⟩
                        have he := ok_some he
                        exact ⟨rfl, _, _, (leads_ren [] (l := [(2, .c (.bool (r23_ == r24_)))]) (st' := []) rfl rfl trivial ⟨.inl rfl, trivial⟩), he⟩
                      · skip
                        refine And.intro ?_ trivial
                        refine ⟨r23_, hq1, ?_⟩
                        refine And.intro ?_ trivial
                        refine ⟨r24_, hq2, ?_⟩
                        have he := ok_some he
                        exact ⟨rfl, _, _, (leads_ren [] (l := [(2, .c (.bool (r23_ == r24_)))]) (st' := []) rfl rfl trivial ⟨.inl rfl, trivial⟩), he⟩
                    · skip
                      refine And.intro ?_ trivial
                      refine And.intro ?_ trivial
                      refine ⟨r23_, hq1, ?_⟩
                      refine And.intro ?_ trivial
                      refine ⟨r24_, hq2, ?_⟩
                      have he := ok_some he
                      exact ⟨rfl, _, _, (leads_ren [] (l := [(2, .c (.bool (r23_ == r24_)))]) (st' := []) rfl rfl trivial ⟨.inl rfl, trivial⟩), he⟩
                  · have he := ok_f he hb
                    refine And.intro ?_ (And.intro ?_ (trivial))
                    · skip
                      refine And.intro ?_ (And.intro ?_ (trivial))
                      · skip
                        refine And.intro ?_ trivial
                        refine And.intro ?_ trivial
                        have he := ok_some he
                        exact ⟨rfl, _, _, (leads_ren [] (l := [(2, .c (.bool false))]) (st' := []) rfl rfl trivial ⟨.inr rfl, trivial⟩), he⟩
                      · skip
                        refine And.intro ?_ trivial
                        refine And.intro ?_ trivial
                        have he := ok_some he
                        exact ⟨rfl, _, _, (leads_ren [] (l := [(2, .c (.bool false))]) (st' := []) rfl rfl trivial ⟨.inr rfl, trivial⟩), he⟩
                    · skip
                      refine And.intro ?_ trivial
                      refine And.intro ?_ trivial
                      refine And.intro ?_ trivial
                      have he := ok_some he
                      exact ⟨rfl, _, _, (leads_ren [] (l := [(2, .c (.bool false))]) (st' := []) rfl rfl trivial ⟨.inr rfl, trivial⟩), he⟩
                · have he := ok_f he hb
                  refine And.intro ?_ trivial
                  refine And.intro ?_ (And.intro ?_ (trivial))
                  · skip
                    refine And.intro ?_ (And.intro ?_ (trivial))
                    · skip
                      refine And.intro ?_ trivial
                      refine And.intro ?_ trivial
                      have he := ok_some he
                      exact ⟨rfl, _, _, (leads_ren [] (l := [(2, .c (.bool false))]) (st' := []) rfl rfl trivial ⟨.inr rfl, trivial⟩), he⟩
                    · skip
                      refine And.intro ?_ trivial
                      refine And.intro ?_ trivial
                      have he := ok_some he
                      exact ⟨rfl, _, _, (leads_ren [] (l := [(2, .c (.bool false))]) (st' := []) rfl rfl trivial ⟨.inr rfl, trivial⟩), he⟩
                  · skip
                    refine And.intro ?_ trivial
                    refine And.intro ?_ trivial
                    refine And.intro ?_ trivial
                    have he := ok_some he
                    exact ⟨rfl, _, _, (leads_ren [] (l := [(2, .c (.bool false))]) (st' := []) rfl rfl trivial ⟨.inr rfl, trivial⟩), he⟩
          · skip
            refine And.intro ?_ trivial
            refine And.intro ?_ trivial
            refine ⟨r8_, hq1, ?_⟩
            refine And.intro ?_ trivial
            refine ⟨r9_, hq2, ?_⟩
            refine And.intro (fun hb => ?_) (fun hb => ?_)
            · have he := ok_f he hb
              refine And.intro (fun hb => ?_) (fun hb => ?_)
              · have he := ok_t he hb
                refine And.intro (by kernel_rfl) ?_
                refine And.intro (fun hb => ?_) (fun hb => ?_)
                · have he := ok_t he hb
                  refine And.intro ?_ trivial
                  obtain ⟨r25_, hr, he⟩ := ok_bind he
                  refine ⟨r25_, hr, ?_⟩
                  refine And.intro (fun hb => ?_) (fun hb => ?_)
                  · have he := ok_t he hb
                    obtain ⟨r26_, hq1, he⟩ := ok_bind he
                    obtain ⟨r27_, hq2, he⟩ := ok_bind he
                    refine And.intro ?_ (And.intro ?_ (trivial))
                    · skip
                      refine And.intro ?_ (And.intro ?_ (trivial))
                      · skip
                        refine ⟨r26_, hq1, ?_⟩
                        refine And.intro ?_ trivial
                        refine And.intro ?_ trivial
                        refine ⟨r27_, hq2, ?_⟩
                        have he := ok_some he
                        exact ⟨rfl, _, _, (leads_ren [] (l := [(2, .c (.bool (r26_ == r27_)))]) (st' := []) rfl rfl trivial ⟨.inl rfl, trivial⟩), he⟩
                      · skip
                        refine And.intro ?_ trivial
                        refine ⟨r26_, hq1, ?_⟩
                        refine And.intro ?_ trivial
                        refine ⟨r27_, hq2, ?_⟩
                        have he := ok_some he
                        exact ⟨rfl, _, _, (leads_ren [] (l := [(2, .c (.bool (r26_ == r27_)))]) (st' := []) rfl rfl trivial ⟨.inl rfl, trivial⟩), he⟩
                    · skip
                      refine And.intro ?_ trivial
                      refine And.intro ?_ trivial
                      refine ⟨r26_, hq1, ?_⟩
                      refine And.intro ?_ trivial
                      refine ⟨r27_, hq2, ?_⟩
                      have he := ok_some he
                      exact ⟨rfl, _, _, (leads_ren [] (l := [(2, .c (.bool (r26_ == r27_)))]) (st' := []) rfl rfl trivial ⟨.inl rfl, trivial⟩), he⟩
                  · have he := ok_f he hb
                    refine And.intro ?_ (And.intro ?_ (trivial))
                    · skip
                      refine And.intro ?_ (And.intro ?_ (trivial))
                      · skip
                        refine And.intro ?_ trivial
                        refine And.intro ?_ trivial
                        have he := ok_some he
                        exact ⟨rfl, _, _, (leads_ren [] (l := [(2, .c (.bool false))]) (st' := []) rfl rfl trivial ⟨.inr rfl, trivial⟩), he⟩
                      · skip
                        refine And.intro ?_ trivial
                        refine And.intro ?_ trivial
                        have he := ok_some he
                        exact ⟨rfl, _, _, (leads_ren [] (l := [(2, .c (.bool false))]) (st' := []) rfl rfl trivial ⟨.inr rfl, trivial⟩), he⟩
                    · skip
                      refine And.intro ?_ trivial
                      refine And.intro ?_ trivial
                      refine And.intro ?_ trivial
                      have he := ok_some he
                      exact ⟨rfl, _, _, (leads_ren [] (l := [(2, .c (.bool false))]) (st' := []) rfl rfl trivial ⟨.inr rfl, trivial⟩), he⟩
                · have he := ok_f he hb
                  refine And.intro ?_ trivial
                  refine And.intro ?_ (And.intro ?_ (trivial))
                  · skip
                    refine And.intro ?_ (And.intro ?_ (trivial))
                    · skip
                      refine And.intro ?_ trivial
                      refine And.intro ?_ trivial
                      have he := ok_some he
                      exact ⟨rfl, _, _, (leads_ren [] (l := [(2, .c (.bool false))]) (st' := []) rfl rfl trivial ⟨.inr rfl, trivial⟩), he⟩
                    · skip
                      refine And.intro ?_ trivial
                      refine And.intro ?_ trivial
                      have he := ok_some he
                      exact ⟨rfl, _, _, (leads_ren [] (l := [(2, .c (.bool false))]) (st' := []) rfl rfl trivial ⟨.inr rfl, trivial⟩), he⟩
                  · skip
                    refine And.intro ?_ trivial
                    refine And.intro ?_ trivial
                    refine And.intro ?_ trivial
                    have he := ok_some he
                    exact ⟨rfl, _, _, (leads_ren [] (l := [(2, .c (.bool false))]) (st' := []) rfl rfl trivial ⟨.inr rfl, trivial⟩), he⟩
              · have he := ok_f he hb
                exact ⟨(), he, (leads_ren [(10000000, 3), (10000001, 20901), (10000002, 20902), (10000003, 28900), (10000004, 20903), (10000005, 20904)] (l := [(3, .c (.ptr 10000000 0)), (4, .c (.own 10000001 false)), (5, .c (.own 10000002 false)), (6, .c (.own 10000003 false))]) (st' := [(10000000, .rc [.own 10000004 false, .own 10000005 false]), (10000001, .sl 3 (.int .i64) r1_.1 .shallow), (10000002, .sl 3 (.int .i64) r1_.2.1 .shallow), (10000003, .sl 3 (.int .i64) r2_.2 .shallow), (10000004, .sl 3 (.int .i64) r1_.2.2.1 .shallow), (10000005, .sl 112 (.pair (.int .i64) (.pair (.sl (.int .i64)) (.pair (.sl (.int .i64)) (.pair (.int .i64) (.sl (.sl (.int .i64))))))) r1_.2.2.2 (.deep true .no))]) rfl rfl ⟨⟨⟨⟨rfl, rfl⟩, trivial⟩, ⟨⟨rfl, rfl⟩, trivial⟩, trivial⟩, ⟨rfl, rfl⟩, ⟨rfl, rfl⟩, ⟨rfl, rfl⟩, ⟨rfl, rfl⟩, ⟨rfl, rfl⟩, trivial⟩ ⟨⟨⟨rfl, rfl⟩, rfl⟩, ⟨⟨rfl, rfl⟩, trivial⟩, ⟨⟨rfl, rfl⟩, trivial⟩, ⟨⟨rfl, rfl⟩, trivial⟩, trivial⟩)⟩
            · have he := ok_t he hb
              refine And.intro (by kernel_rfl) ?_
              refine And.intro (fun hb => ?_) (fun hb => ?_)
              · have he := ok_t he hb
                refine And.intro ?_ trivial
                obtain ⟨r28_, hr, he⟩ := ok_bind he
                refine ⟨r28_, hr, ?_⟩
                refine And.intro (fun hb => ?_) (fun hb => ?_)
                · have he := ok_t he hb
                  obtain ⟨r29_, hq1, he⟩ := ok_bind he
                  obtain ⟨r30_, hq2, he⟩ := ok_bind he
                  refine And.intro ?_ (And.intro ?_ (trivial))
                  · skip
                    refine And.intro ?_ (And.intro ?_ (trivial))
                    · skip
                      refine ⟨r29_, hq1, ?_⟩
                      refine And.intro ?_ trivial
                      refine And.intro ?_ trivial
                      refine ⟨r30_, hq2, ?_⟩
                      have he := ok_some he
                      exact ⟨rfl, _, _, (leads_ren [] (l := [(2, .c (.bool (r29_ == r30_)))]) (st' := []) rfl rfl trivial ⟨.inl rfl, trivial⟩), he⟩
                    · skip
                      refine And.intro ?_ trivial
                      refine ⟨r29_, hq1, ?_⟩
                      refine And.intro ?_ trivial
                      refine ⟨r30_, hq2, ?_⟩
                      have he := ok_some he
                      exact ⟨rfl, _, _, (leads_ren [] (l := [(2, .c (.bool (r29_ == r30_)))]) (st' := []) rfl rfl trivial ⟨.inl rfl, trivial⟩), he⟩
                  · skip
                    refine And.intro ?_ trivial
                    refine And.intro ?_ trivial
                    refine ⟨r29_, hq1, ?_⟩
                    refine And.intro ?_ trivial
                    refine ⟨r30_, hq2, ?_⟩
                    have he := ok_some he
                    exact ⟨rfl, _, _, (leads_ren [] (l := [(2, .c (.bool (r29_ == r30_)))]) (st' := []) rfl rfl trivial ⟨.inl rfl, trivial⟩), he⟩
                · have he := ok_f he hb
                  refine And.intro ?_ (And.intro ?_ (trivial))
                  · skip
                    refine And.intro ?_ (And.intro ?_ (trivial))
                    · skip
                      refine And.intro ?_ trivial
                      refine And.intro ?_ trivial
                      have he := ok_some he
                      exact ⟨rfl, _, _, (leads_ren [] (l := [(2, .c (.bool false))]) (st' := []) rfl rfl trivial ⟨.inr rfl, trivial⟩), he⟩
                    · skip
                      refine And.intro ?_ trivial
                      refine And.intro ?_ trivial
                      have he := ok_some he
                      exact ⟨rfl, _, _, (leads_ren [] (l := [(2, .c (.bool false))]) (st' := []) rfl rfl trivial ⟨.inr rfl, trivial⟩), he⟩
                  · skip
                    refine And.intro ?_ trivial
                    refine And.intro ?_ trivial
                    refine And.intro ?_ trivial
                    have he := ok_some he
                    exact ⟨rfl, _, _, (leads_ren [] (l := [(2, .c (.bool false))]) (st' := []) rfl rfl trivial ⟨.inr rfl, trivial⟩), he⟩
              · have he := ok_f he hb
                refine And.intro ?_ trivial
                refine And.intro ?_ (And.intro ?_ (trivial))
                · skip
                  refine And.intro ?_ (And.intro ?_ (trivial))
                  · skip
                    refine And.intro ?_ trivial
                    refine And.intro ?_ trivial
                    have he := ok_some he
                    exact ⟨rfl, _, _, (leads_ren [] (l := [(2, .c (.bool false))]) (st' := []) rfl rfl trivial ⟨.inr rfl, trivial⟩), he⟩
                  · skip
                    refine And.intro ?_ trivial
                    refine And.intro ?_ trivial
                    have he := ok_some he
                    exact ⟨rfl, _, _, (leads_ren [] (l := [(2, .c (.bool false))]) (st' := []) rfl rfl trivial ⟨.inr rfl, trivial⟩), he⟩
                · skip
                  refine And.intro ?_ trivial
                  refine And.intro ?_ trivial
                  refine And.intro ?_ trivial
                  have he := ok_some he
                  exact ⟨rfl, _, _, (leads_ren [] (l := [(2, .c (.bool false))]) (st' := []) rfl rfl trivial ⟨.inr rfl, trivial⟩), he⟩
        · have he := ok_t he hb
          refine And.intro ?_ (And.intro ?_ (trivial))
          · skip
            refine And.intro ?_ (And.intro ?_ (trivial))
            · skip
              refine And.intro ?_ trivial
              refine And.intro ?_ trivial
              refine And.intro (by kernel_rfl) ?_
              refine And.intro (fun hb => ?_) (fun hb => ?_)
              · have he := ok_t he hb
                refine And.intro ?_ trivial
                obtain ⟨r31_, hr, he⟩ := ok_bind he
                refine ⟨r31_, hr, ?_⟩
                refine And.intro (fun hb => ?_) (fun hb => ?_)
                · have he := ok_t he hb
                  obtain ⟨r32_, hq1, he⟩ := ok_bind he
                  obtain ⟨r33_, hq2, he⟩ := ok_bind he
                  refine And.intro ?_ (And.intro ?_ (trivial))
                  · skip
                    refine And.intro ?_ (And.intro ?_ (trivial))
                    · skip
                      refine ⟨r32_, hq1, ?_⟩
                      refine And.intro ?_ trivial
                      refine And.intro ?_ trivial
                      refine ⟨r33_, hq2, ?_⟩
                      have he := ok_some he
                      exact ⟨rfl, _, _, (leads_ren [] (l := [(2, .c (.bool (r32_ == r33_)))]) (st' := []) rfl rfl trivial ⟨.inl rfl, trivial⟩), he⟩
                    · skip
                      refine And.intro ?_ trivial
                      refine ⟨r32_, hq1, ?_⟩
                      refine And.intro ?_ trivial
                      refine ⟨r33_, hq2, ?_⟩
                      have he := ok_some he
                      exact ⟨rfl, _, _, (leads_ren [] (l := [(2, .c (.bool (r32_ == r33_)))]) (st' := []) rfl rfl trivial ⟨.inl rfl, trivial⟩), he⟩
                  · skip
                    refine And.intro ?_ trivial
                    refine And.intro ?_ trivial
                    refine ⟨r32_, hq1, ?_⟩
                    refine And.intro ?_ trivial
                    refine ⟨r33_, hq2, ?_⟩
                    have he := ok_some he
                    exact ⟨rfl, _, _, (leads_ren [] (l := [(2, .c (.bool (r32_ == r33_)))]) (st' := []) rfl rfl trivial ⟨.inl rfl, trivial⟩), he⟩
                · have he := ok_f he hb
                  refine And.intro ?_ (And.intro ?_ (trivial))
                  · skip
                    refine And.intro ?_ (And.intro ?_ (trivial))
                    · skip
                      refine And.intro ?_ trivial
                      refine And.intro ?_ trivial
                      have he := ok_some he
                      exact ⟨rfl, _, _, (leads_ren [] (l := [(2, .c (.bool false))]) (st' := []) rfl rfl trivial ⟨.inr rfl, trivial⟩), he⟩
                    · skip
                      refine And.intro ?_ trivial
                      refine And.intro ?_ trivial
                      have he := ok_some he
                      exact ⟨rfl, _, _, (leads_ren [] (l := [(2, .c (.bool false))]) (st' := []) rfl rfl trivial ⟨.inr rfl, trivial⟩), he⟩
                  · skip
                    refine And.intro ?_ trivial
                    refine And.intro ?_ trivial
                    refine And.intro ?_ trivial
                    have he := ok_some he
                    exact ⟨rfl, _, _, (leads_ren [] (l := [(2, .c (.bool false))]) (st' := []) rfl rfl trivial ⟨.inr rfl, trivial⟩), he⟩
              · have he := ok_f he hb
                refine And.intro ?_ trivial
                refine And.intro ?_ (And.intro ?_ (trivial))
                · skip
                  refine And.intro ?_ (And.intro ?_ (trivial))
                  · skip
                    refine And.intro ?_ trivial
                    refine And.intro ?_ trivial
                    have he := ok_some he
                    exact ⟨rfl, _, _, (leads_ren [] (l := [(2, .c (.bool false))]) (st' := []) rfl rfl trivial ⟨.inr rfl, trivial⟩), he⟩
                  · skip
                    refine And.intro ?_ trivial
                    refine And.intro ?_ trivial
                    have he := ok_some he
                    exact ⟨rfl, _, _, (leads_ren [] (l := [(2, .c (.bool false))]) (st' := []) rfl rfl trivial ⟨.inr rfl, trivial⟩), he⟩
                · skip
                  refine And.intro ?_ trivial
                  refine And.intro ?_ trivial
                  refine And.intro ?_ trivial
                  have he := ok_some he
                  exact ⟨rfl, _, _, (leads_ren [] (l := [(2, .c (.bool false))]) (st' := []) rfl rfl trivial ⟨.inr rfl, trivial⟩), he⟩
            · skip
              refine And.intro ?_ trivial
              refine And.intro ?_ trivial
              refine And.intro (by kernel_rfl) ?_
              refine And.intro (fun hb => ?_) (fun hb => ?_)
              · have he := ok_t he hb
                refine And.intro ?_ trivial
                obtain ⟨r34_, hr, he⟩ := ok_bind he
                refine ⟨r34_, hr, ?_⟩
                refine And.intro (fun hb => ?_) (fun hb => ?_)
                · have he := ok_t he hb
                  obtain ⟨r35_, hq1, he⟩ := ok_bind he
                  obtain ⟨r36_, hq2, he⟩ := ok_bind he
                  refine And.intro ?_ (And.intro ?_ (trivial))
                  · skip
                    refine And.intro ?_ (And.intro ?_ (trivial))
                    · skip
                      refine ⟨r35_, hq1, ?_⟩
                      refine And.intro ?_ trivial
                      refine And.intro ?_ trivial
                      refine ⟨r36_, hq2, ?_⟩
                      have he := ok_some he
                      exact ⟨rfl, _, _, (leads_ren [] (l := [(2, .c (.bool (r35_ == r36_)))]) (st' := []) rfl rfl trivial ⟨.inl rfl, trivial⟩), he⟩
                    · skip
                      refine And.intro ?_ trivial
                      refine ⟨r35_, hq1, ?_⟩
                      refine And.intro ?_ trivial
                      refine ⟨r36_, hq2, ?_⟩
                      have he := ok_some he
                      exact ⟨rfl, _, _, (leads_ren [] (l := [(2, .c (.bool (r35_ == r36_)))]) (st' := []) rfl rfl trivial ⟨.inl rfl, trivial⟩), he⟩
                  · skip
                    refine And.intro ?_ trivial
                    refine And.intro ?_ trivial
                    refine ⟨r35_, hq1, ?_⟩
                    refine And.intro ?_ trivial
                    refine ⟨r36_, hq2, ?_⟩
                    have he := ok_some he
                    exact ⟨rfl, _, _, (leads_ren [] (l := [(2, .c (.bool (r35_ == r36_)))]) (st' := []) rfl rfl trivial ⟨.inl rfl, trivial⟩), he⟩
                · have he := ok_f he hb
                  refine And.intro ?_ (And.intro ?_ (trivial))
                  · skip
                    refine And.intro ?_ (And.intro ?_ (trivial))
                    · skip
                      refine And.intro ?_ trivial
                      refine And.intro ?_ trivial
                      have he := ok_some he
                      exact ⟨rfl, _, _, (leads_ren [] (l := [(2, .c (.bool false))]) (st' := []) rfl rfl trivial ⟨.inr rfl, trivial⟩), he⟩
                    · skip
                      refine And.intro ?_ trivial
                      refine And.intro ?_ trivial
                      have he := ok_some he
                      exact ⟨rfl, _, _, (leads_ren [] (l := [(2, .c (.bool false))]) (st' := []) rfl rfl trivial ⟨.inr rfl, trivial⟩), he⟩
                  · skip
                    refine And.intro ?_ trivial
                    refine And.intro ?_ trivial
                    refine And.intro ?_ trivial
                    have he := ok_some he
                    exact ⟨rfl, _, _, (leads_ren [] (l := [(2, .c (.bool false))]) (st' := []) rfl rfl trivial ⟨.inr rfl, trivial⟩), he⟩
              · have he := ok_f he hb
                refine And.intro ?_ trivial
                refine And.intro ?_ (And.intro ?_ (trivial))
                · skip
                  refine And.intro ?_ (And.intro ?_ (trivial))
                  · skip
                    refine And.intro ?_ trivial
                    refine And.intro ?_ trivial
                    have he := ok_some he
                    exact ⟨rfl, _, _, (leads_ren [] (l := [(2, .c (.bool false))]) (st' := []) rfl rfl trivial ⟨.inr rfl, trivial⟩), he⟩
                  · skip
                    refine And.intro ?_ trivial
                    refine And.intro ?_ trivial
                    have he := ok_some he
                    exact ⟨rfl, _, _, (leads_ren [] (l := [(2, .c (.bool false))]) (st' := []) rfl rfl trivial ⟨.inr rfl, trivial⟩), he⟩
                · skip
                  refine And.intro ?_ trivial
                  refine And.intro ?_ trivial
                  refine And.intro ?_ trivial
                  have he := ok_some he
                  exact ⟨rfl, _, _, (leads_ren [] (l := [(2, .c (.bool false))]) (st' := []) rfl rfl trivial ⟨.inr rfl, trivial⟩), he⟩
          · skip
            refine And.intro ?_ trivial
            refine And.intro ?_ trivial
            refine And.intro ?_ trivial
            refine And.intro (by kernel_rfl) ?_
            refine And.intro (fun hb => ?_) (fun hb => ?_)
            · have he := ok_t he hb
              refine And.intro ?_ trivial
              obtain ⟨r37_, hr, he⟩ := ok_bind he
              refine ⟨r37_, hr, ?_⟩
              refine And.intro (fun hb => ?_) (fun hb => ?_)
              · have he := ok_t he hb
                obtain ⟨r38_, hq1, he⟩ := ok_bind he
                obtain ⟨r39_, hq2, he⟩ := ok_bind he
                refine And.intro ?_ (And.intro ?_ (trivial))
                · skip
                  refine And.intro ?_ (And.intro ?_ (trivial))
                  · skip
                    refine ⟨r38_, hq1, ?_⟩
                    refine And.intro ?_ trivial
                    refine And.intro ?_ trivial
                    refine ⟨r39_, hq2, ?_⟩
                    have he := ok_some he
                    exact ⟨rfl, _, _, (leads_ren [] (l := [(2, .c (.bool (r38_ == r39_)))]) (st' := []) rfl rfl trivial ⟨.inl rfl, trivial⟩), he⟩
                  · skip
                    refine And.intro ?_ trivial
                    refine ⟨r38_, hq1, ?_⟩
                    refine And.intro ?_ trivial
                    refine ⟨r39_, hq2, ?_⟩
                    have he := ok_some he
                    exact ⟨rfl, _, _, (leads_ren [] (l := [(2, .c (.bool (r38_ == r39_)))]) (st' := []) rfl rfl trivial ⟨.inl rfl, trivial⟩), he⟩
                · skip
                  refine And.intro ?_ trivial
                  refine And.intro ?_ trivial
                  refine ⟨r38_, hq1, ?_⟩
                  refine And.intro ?_ trivial
                  refine ⟨r39_, hq2, ?_⟩
                  have he := ok_some he
                  exact ⟨rfl, _, _, (leads_ren [] (l := [(2, .c (.bool (r38_ == r39_)))]) (st' := []) rfl rfl trivial ⟨.inl rfl, trivial⟩), he⟩
              · have he := ok_f he hb
                refine And.intro ?_ (And.intro ?_ (trivial))
                · skip
                  refine And.intro ?_ (And.intro ?_ (trivial))
                  · skip
                    refine And.intro ?_ trivial
                    refine And.intro ?_ trivial
                    have he := ok_some he
                    exact ⟨rfl, _, _, (leads_ren [] (l := [(2, .c (.bool false))]) (st' := []) rfl rfl trivial ⟨.inr rfl, trivial⟩), he⟩
                  · skip
                    refine And.intro ?_ trivial
                    refine And.intro ?_ trivial
                    have he := ok_some he
                    exact ⟨rfl, _, _, (leads_ren [] (l := [(2, .c (.bool false))]) (st' := []) rfl rfl trivial ⟨.inr rfl, trivial⟩), he⟩
                · skip
                  refine And.intro ?_ trivial
                  refine And.intro ?_ trivial
                  refine And.intro ?_ trivial
                  have he := ok_some he
                  exact ⟨rfl, _, _, (leads_ren [] (l := [(2, .c (.bool false))]) (st' := []) rfl rfl trivial ⟨.inr rfl, trivial⟩), he⟩
            · have he := ok_f he hb
              refine And.intro ?_ trivial
              refine And.intro ?_ (And.intro ?_ (trivial))
              · skip
                refine And.intro ?_ (And.intro ?_ (trivial))
                · skip
                  refine And.intro ?_ trivial
                  refine And.intro ?_ trivial
                  have he := ok_some he
                  exact ⟨rfl, _, _, (leads_ren [] (l := [(2, .c (.bool false))]) (st' := []) rfl rfl trivial ⟨.inr rfl, trivial⟩), he⟩
                · skip
                  refine And.intro ?_ trivial
                  refine And.intro ?_ trivial
                  have he := ok_some he
                  exact ⟨rfl, _, _, (leads_ren [] (l := [(2, .c (.bool false))]) (st' := []) rfl rfl trivial ⟨.inr rfl, trivial⟩), he⟩
              · skip
                refine And.intro ?_ trivial
                refine And.intro ?_ trivial
                refine And.intro ?_ trivial
                have he := ok_some he
                exact ⟨rfl, _, _, (leads_ren [] (l := [(2, .c (.bool false))]) (st' := []) rfl rfl trivial ⟨.inr rfl, trivial⟩), he⟩
      · have he := ok_t he hb
        refine And.intro ?_ trivial
        refine And.intro ?_ (And.intro ?_ (trivial))
        · skip
          refine And.intro ?_ (And.intro ?_ (trivial))
          · skip
            refine And.intro ?_ trivial
            refine And.intro ?_ trivial
            refine And.intro (by kernel_rfl) ?_
            refine And.intro (fun hb => ?_) (fun hb => ?_)
            · have he := ok_t he hb
              refine And.intro ?_ trivial
              obtain ⟨r40_, hr, he⟩ := ok_bind he
              refine ⟨r40_, hr, ?_⟩
              refine And.intro (fun hb => ?_) (fun hb => ?_)
              · have he := ok_t he hb
                obtain ⟨r41_, hq1, he⟩ := ok_bind he
                obtain ⟨r42_, hq2, he⟩ := ok_bind he
                refine And.intro ?_ (And.intro ?_ (trivial))
                · skip
                  refine And.intro ?_ (And.intro ?_ (trivial))
                  · skip
                    refine ⟨r41_, hq1, ?_⟩
                    refine And.intro ?_ trivial
                    refine And.intro ?_ trivial
                    refine ⟨r42_, hq2, ?_⟩
                    have he := ok_some he
                    exact ⟨rfl, _, _, (leads_ren [] (l := [(2, .c (.bool (r41_ == r42_)))]) (st' := []) rfl rfl trivial ⟨.inl rfl, trivial⟩), he⟩
                  · skip
                    refine And.intro ?_ trivial
                    refine ⟨r41_, hq1, ?_⟩
                    refine And.intro ?_ trivial
                    refine ⟨r42_, hq2, ?_⟩
                    have he := ok_some he
                    exact ⟨rfl, _, _, (leads_ren [] (l := [(2, .c (.bool (r41_ == r42_)))]) (st' := []) rfl rfl trivial ⟨.inl rfl, trivial⟩), he⟩
                · skip
                  refine And.intro ?_ trivial
                  refine And.intro ?_ trivial
                  refine ⟨r41_, hq1, ?_⟩
                  refine And.intro ?_ trivial
                  refine ⟨r42_, hq2, ?_⟩
                  have he := ok_some he
                  exact ⟨rfl, _, _, (leads_ren [] (l := [(2, .c (.bool (r41_ == r42_)))]) (st' := []) rfl rfl trivial ⟨.inl rfl, trivial⟩), he⟩
              · have he := ok_f he hb
                refine And.intro ?_ (And.intro ?_ (trivial))
                · skip
                  refine And.intro ?_ (And.intro ?_ (trivial))
                  · skip
                    refine And.intro ?_ trivial
                    refine And.intro ?_ trivial
                    have he := ok_some he
                    exact ⟨rfl, _, _, (leads_ren [] (l := [(2, .c (.bool false))]) (st' := []) rfl rfl trivial ⟨.inr rfl, trivial⟩), he⟩
                  · skip
                    refine And.intro ?_ trivial
                    refine And.intro ?_ trivial
                    have he := ok_some he
                    exact ⟨rfl, _, _, (leads_ren [] (l := [(2, .c (.bool false))]) (st' := []) rfl rfl trivial ⟨.inr rfl, trivial⟩), he⟩
                · skip
                  refine And.intro ?_ trivial
                  refine And.intro ?_ trivial
                  refine And.intro ?_ trivial
                  have he := ok_some he
                  exact ⟨rfl, _, _, (leads_ren [] (l := [(2, .c (.bool false))]) (st' := []) rfl rfl trivial ⟨.inr rfl, trivial⟩), he⟩
            · have he := ok_f he hb
              refine And.intro ?_ trivial
              refine And.intro ?_ (And.intro ?_ (trivial))
              · skip
                refine And.intro ?_ (And.intro ?_ (trivial))
                · skip
                  refine And.intro ?_ trivial
                  refine And.intro ?_ trivial
                  have he := ok_some he
                  exact ⟨rfl, _, _, (leads_ren [] (l := [(2, .c (.bool false))]) (st' := []) rfl rfl trivial ⟨.inr rfl, trivial⟩), he⟩
                · skip
                  refine And.intro ?_ trivial
                  refine And.intro ?_ trivial
                  have he := ok_some he
                  exact ⟨rfl, _, _, (leads_ren [] (l := [(2, .c (.bool false))]) (st' := []) rfl rfl trivial ⟨.inr rfl, trivial⟩), he⟩
              · skip
                refine And.intro ?_ trivial
                refine And.intro ?_ trivial
                refine And.intro ?_ trivial
                have he := ok_some he
                exact ⟨rfl, _, _, (leads_ren [] (l := [(2, .c (.bool false))]) (st' := []) rfl rfl trivial ⟨.inr rfl, trivial⟩), he⟩
          · skip
            refine And.intro ?_ trivial
            refine And.intro ?_ trivial
            refine And.intro (by kernel_rfl) ?_
            refine And.intro (fun hb => ?_) (fun hb => ?_)
            · have he := ok_t he hb
              refine And.intro ?_ trivial
              obtain ⟨r43_, hr, he⟩ := ok_bind he
              refine ⟨r43_, hr, ?_⟩
              refine And.intro (fun hb => ?_) (fun hb => ?_)
              · have he := ok_t he hb
                obtain ⟨r44_, hq1, he⟩ := ok_bind he
                obtain ⟨r45_, hq2, he⟩ := ok_bind he
                refine And.intro ?_ (And.intro ?_ (trivial))
                · skip
                  refine And.intro ?_ (And.intro ?_ (trivial))
                  · skip
                    refine ⟨r44_, hq1, ?_⟩
                    refine And.intro ?_ trivial
                    refine And.intro ?_ trivial
                    refine ⟨r45_, hq2, ?_⟩
                    have he := ok_some he
                    exact ⟨rfl, _, _, (leads_ren [] (l := [(2, .c (.bool (r44_ == r45_)))]) (st' := []) rfl rfl trivial ⟨.inl rfl, trivial⟩), he⟩
                  · skip
                    refine And.intro ?_ trivial
                    refine ⟨r44_, hq1, ?_⟩
                    refine And.intro ?_ trivial
                    refine ⟨r45_, hq2, ?_⟩
                    have he := ok_some he
                    exact ⟨rfl, _, _, (leads_ren [] (l := [(2, .c (.bool (r44_ == r45_)))]) (st' := []) rfl rfl trivial ⟨.inl rfl, trivial⟩), he⟩
                · skip
                  refine And.intro ?_ trivial
                  refine And.intro ?_ trivial
                  refine ⟨r44_, hq1, ?_⟩
                  refine And.intro ?_ trivial
                  refine ⟨r45_, hq2, ?_⟩
                  have he := ok_some he
                  exact ⟨rfl, _, _, (leads_ren [] (l := [(2, .c (.bool (r44_ == r45_)))]) (st' := []) rfl rfl trivial ⟨.inl rfl, trivial⟩), he⟩
              · have he := ok_f he hb
                refine And.intro ?_ (And.intro ?_ (trivial))
                · skip
                  refine And.intro ?_ (And.intro ?_ (trivial))
                  · skip
                    refine And.intro ?_ trivial
                    refine And.intro ?_ trivial
                    have he := ok_some he
                    exact ⟨rfl, _, _, (leads_ren [] (l := [(2, .c (.bool false))]) (st' := []) rfl rfl trivial ⟨.inr rfl, trivial⟩), he⟩
                  · skip
                    refine And.intro ?_ trivial
                    refine And.intro ?_ trivial
                    have he := ok_some he
                    exact ⟨rfl, _, _, (leads_ren [] (l := [(2, .c (.bool false))]) (st' := []) rfl rfl trivial ⟨.inr rfl, trivial⟩), he⟩
                · skip
                  refine And.intro ?_ trivial
                  refine And.intro ?_ trivial
                  refine And.intro ?_ trivial
                  have he := ok_some he
                  exact ⟨rfl, _, _, (leads_ren [] (l := [(2, .c (.bool false))]) (st' := []) rfl rfl trivial ⟨.inr rfl, trivial⟩), he⟩
            · have he := ok_f he hb
              refine And.intro ?_ trivial
              refine And.intro ?_ (And.intro ?_ (trivial))
              · skip
                refine And.intro ?_ (And.intro ?_ (trivial))
                · skip
                  refine And.intro ?_ trivial
                  refine And.intro ?_ trivial
                  have he := ok_some he
                  exact ⟨rfl, _, _, (leads_ren [] (l := [(2, .c (.bool false))]) (st' := []) rfl rfl trivial ⟨.inr rfl, trivial⟩), he⟩
                · skip
                  refine And.intro ?_ trivial
                  refine And.intro ?_ trivial
                  have he := ok_some he
                  exact ⟨rfl, _, _, (leads_ren [] (l := [(2, .c (.bool false))]) (st' := []) rfl rfl trivial ⟨.inr rfl, trivial⟩), he⟩
              · skip
                refine And.intro ?_ trivial
                refine And.intro ?_ trivial
                refine And.intro ?_ trivial
                have he := ok_some he
                exact ⟨rfl, _, _, (leads_ren [] (l := [(2, .c (.bool false))]) (st' := []) rfl rfl trivial ⟨.inr rfl, trivial⟩), he⟩
        · skip
          refine And.intro ?_ trivial
          refine And.intro ?_ trivial
          refine And.intro ?_ trivial
          refine And.intro (by kernel_rfl) ?_
          refine And.intro (fun hb => ?_) (fun hb => ?_)
          · have he := ok_t he hb
            refine And.intro ?_ trivial
            obtain ⟨r46_, hr, he⟩ := ok_bind he
            refine ⟨r46_, hr, ?_⟩
            refine And.intro (fun hb => ?_) (fun hb => ?_)
            · have he := ok_t he hb
              obtain ⟨r47_, hq1, he⟩ := ok_bind he
              obtain ⟨r48_, hq2, he⟩ := ok_bind he
              refine And.intro ?_ (And.intro ?_ (trivial))
              · skip
                refine And.intro ?_ (And.intro ?_ (trivial))
                · skip
                  refine ⟨r47_, hq1, ?_⟩
                  refine And.intro ?_ trivial
                  refine And.intro ?_ trivial
                  refine ⟨r48_, hq2, ?_⟩
                  have he := ok_some he
                  exact ⟨rfl, _, _, (leads_ren [] (l := [(2, .c (.bool (r47_ == r48_)))]) (st' := []) rfl rfl trivial ⟨.inl rfl, trivial⟩), he⟩
                · skip
                  refine And.intro ?_ trivial
                  refine ⟨r47_, hq1, ?_⟩
                  refine And.intro ?_ trivial
                  refine ⟨r48_, hq2, ?_⟩
                  have he := ok_some he
                  exact ⟨rfl, _, _, (leads_ren [] (l := [(2, .c (.bool (r47_ == r48_)))]) (st' := []) rfl rfl trivial ⟨.inl rfl, trivial⟩), he⟩
              · skip
                refine And.intro ?_ trivial
                refine And.intro ?_ trivial
                refine ⟨r47_, hq1, ?_⟩
                refine And.intro ?_ trivial
                refine ⟨r48_, hq2, ?_⟩
                have he := ok_some he
                exact ⟨rfl, _, _, (leads_ren [] (l := [(2, .c (.bool (r47_ == r48_)))]) (st' := []) rfl rfl trivial ⟨.inl rfl, trivial⟩), he⟩
            · have he := ok_f he hb
              refine And.intro ?_ (And.intro ?_ (trivial))
              · skip
                refine And.intro ?_ (And.intro ?_ (trivial))
                · skip
                  refine And.intro ?_ trivial
                  refine And.intro ?_ trivial
                  have he := ok_some he
                  exact ⟨rfl, _, _, (leads_ren [] (l := [(2, .c (.bool false))]) (st' := []) rfl rfl trivial ⟨.inr rfl, trivial⟩), he⟩
                · skip
                  refine And.intro ?_ trivial
                  refine And.intro ?_ trivial
                  have he := ok_some he
                  exact ⟨rfl, _, _, (leads_ren [] (l := [(2, .c (.bool false))]) (st' := []) rfl rfl trivial ⟨.inr rfl, trivial⟩), he⟩
              · skip
                refine And.intro ?_ trivial
                refine And.intro ?_ trivial
                refine And.intro ?_ trivial
                have he := ok_some he
                exact ⟨rfl, _, _, (leads_ren [] (l := [(2, .c (.bool false))]) (st' := []) rfl rfl trivial ⟨.inr rfl, trivial⟩), he⟩
          · have he := ok_f he hb
            refine And.intro ?_ trivial
            refine And.intro ?_ (And.intro ?_ (trivial))
            · skip
              refine And.intro ?_ (And.intro ?_ (trivial))
              · skip
                refine And.intro ?_ trivial
                refine And.intro ?_ trivial
                have he := ok_some he
                exact ⟨rfl, _, _, (leads_ren [] (l := [(2, .c (.bool false))]) (st' := []) rfl rfl trivial ⟨.inr rfl, trivial⟩), he⟩
              · skip
                refine And.intro ?_ trivial
                refine And.intro ?_ trivial
                have he := ok_some he
                exact ⟨rfl, _, _, (leads_ren [] (l := [(2, .c (.bool false))]) (st' := []) rfl rfl trivial ⟨.inr rfl, trivial⟩), he⟩
            · skip
              refine And.intro ?_ trivial
              refine And.intro ?_ trivial
              refine And.intro ?_ trivial
              have he := ok_some he
              exact ⟨rfl, _, _, (leads_ren [] (l := [(2, .c (.bool false))]) (st' := []) rfl rfl trivial ⟨.inr rfl, trivial⟩), he⟩

end Go.AE.Y
