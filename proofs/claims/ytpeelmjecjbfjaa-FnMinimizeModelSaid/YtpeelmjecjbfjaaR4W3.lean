/-
  Walks: each function keeps the contract that its model gives. No conditions.
-/
import Derived.Test.YtpeelmjecjbfjaaR4Tab
import Derived.Test.YtpeelmjecjbfjaaR4W2
namespace Go.AE.Y
open Go Go.AE Go.Proofs
set_option linter.unusedVariables false
set_option maxHeartbeats 2000000
set_option maxRecDepth 100000

noncomputable def c_slices_ContainsFunc_impl_Rule__impl_Model_solves_1 : Con := fun args st => match args, st with
  | [.c (.imm (.pair (.int .i64) (.pair (.sl (.int .i64)) (.pair (.sl (.int .i64)) (.pair (.int .i64) (.sl (.sl (.int .i64))))))) s_), .c (.fn 220 [0])], [(0, .rc [.imm (.int .i64) o0])] => .opt (Bool) (slices_ContainsFunc_impl_Rule__impl_Model_solves_1 s_ o0) (fun r => .ret (.c (.bool r)) [(0, .rc [.imm (.int .i64) o0])])
  | _, _ => .fail

noncomputable def C_slices_ContainsFunc_impl_Rule__impl_Model_solves_1 : Cfg := { y := tys, n := 9, h := 1, tab := [(215, c_slices_IndexFunc_impl_Rule__impl_Model_solves_1)], cut := [], hand := [], good := [], deep := [], sched := [] }

theorem t_slices_ContainsFunc_impl_Rule__impl_Model_solves_1 : TabOk Try.prog C_slices_ContainsFunc_impl_Rule__impl_Model_solves_1 := by
  refine tabOk_of ?_
  simp only [C_slices_ContainsFunc_impl_Rule__impl_Model_solves_1, List.forall_mem_cons]
  exact ⟨k_slices_IndexFunc_impl_Rule__impl_Model_solves_1, fun p h => by cases h⟩

theorem k_slices_ContainsFunc_impl_Rule__impl_Model_solves_1 : Entry Try.prog 130 c_slices_ContainsFunc_impl_Rule__impl_Model_solves_1 := by
  refine entry_by (C := C_slices_ContainsFunc_impl_Rule__impl_Model_solves_1) mixed tys_ok t_slices_ContainsFunc_impl_Rule__impl_Model_solves_1 (fn := Try.f130) (c := bd Try.f130) (by kernel_rfl) (by kernel_rfl) (by kernel_rfl) (by kernel_rfl) ?_
  intro args st k he
  unfold c_slices_ContainsFunc_impl_Rule__impl_Model_solves_1 at he
  split at he
  rotate_left
  · exact he.elim
  rename_i s_ o0
  have he : Ok (slices_ContainsFunc_impl_Rule__impl_Model_solves_1 s_ o0) (fun r => k (.c (.bool r)) [(0, .rc [.imm (.int .i64) o0])]) := he
  refine ⟨rfl, rfl, ?_⟩
  obtain ⟨r1_, hr, he⟩ := ok_bind he
  refine ⟨r1_, hr, ?_⟩
  have he := ok_some he
  exact ⟨rfl, _, _, (leads_ren [] (l := [(4, .c (.bool (decide ((0:Int) ≤ r1_))))]) (st' := [(0, .rc [.imm (.int .i64) o0])]) rfl rfl ⟨⟨.inl rfl, trivial⟩, trivial⟩ ⟨.inl rfl, trivial⟩), he⟩

noncomputable def c_impl_Model_solves : Con := fun args st => match args, st with
  | [.agg [.imm (.int .i64) m_0, .imm (.pair (.int .i64) (.pair (.sl (.int .i64)) (.pair (.sl (.int .i64)) (.pair (.int .i64) (.sl (.sl (.int .i64))))))) m_1], .c (.imm (.int .i64) cells)], [] => .opt (Bool) (impl_Model_solves (m_0, m_1) cells) (fun r => .ret (.c (.bool r)) [])
  | _, _ => .fail

noncomputable def C_impl_Model_solves : Cfg := { y := tys, n := 10, h := 0, tab := [(130, c_slices_ContainsFunc_impl_Rule__impl_Model_solves_1)], cut := [], hand := [], good := [], deep := [], sched := [] }

theorem t_impl_Model_solves : TabOk Try.prog C_impl_Model_solves := by
  refine tabOk_of ?_
  simp only [C_impl_Model_solves, List.forall_mem_cons]
  exact ⟨k_slices_ContainsFunc_impl_Rule__impl_Model_solves_1, fun p h => by cases h⟩

theorem k_impl_Model_solves : Entry Try.prog 133 c_impl_Model_solves := by
  refine entry_by (C := C_impl_Model_solves) mixed tys_ok t_impl_Model_solves (fn := Try.f133) (c := bd Try.f133) (by kernel_rfl) (by kernel_rfl) (by kernel_rfl) (by kernel_rfl) ?_
  intro args st k he
  unfold c_impl_Model_solves at he
  split at he
  rotate_left
  · exact he.elim
  rename_i m_0 m_1 cells
  have he : Ok (impl_Model_solves (m_0, m_1) cells) (fun r => k (.c (.bool r)) []) := he
  refine ⟨rfl, rfl, ?_⟩
  obtain ⟨r1_, hr, he⟩ := ok_bind he
  refine ⟨r1_, hr, ?_⟩
  have he := ok_some he
  exact ⟨rfl, _, _, (leads_ren [] (l := [(4, .c (.bool (!r1_)))]) (st' := []) rfl rfl trivial ⟨.inl rfl, trivial⟩), he⟩

noncomputable def c_impl_valueOf : Con := fun args st => match args, st with
  | [.c (.imm (.int .i64) coefs), .c (.imm (.int .i64) cells)], [] => .opt (Int) (impl_valueOf coefs cells) (fun r => .ret (.c (.int .i64 r)) [])
  | _, _ => .fail

noncomputable def C_impl_valueOf : Cfg := { y := tys, n := 25, h := 0, tab := [], cut := [], hand := [], good := [], deep := [], sched := [] }

theorem t_impl_valueOf : TabOk Try.prog C_impl_valueOf := tabOk_of (fun p h => by cases h)

theorem k_impl_valueOf : Entry Try.prog 109 c_impl_valueOf := by
  refine entry_by (C := C_impl_valueOf) mixed tys_ok t_impl_valueOf (fn := Try.f109) (c := bd Try.f109) (by kernel_rfl) (by kernel_rfl) (by kernel_rfl) (by kernel_rfl) ?_
  intro args st k he
  unfold c_impl_valueOf at he
  split at he
  rotate_left
  · exact he.elim
  rename_i coefs cells
  have he : Ok (impl_valueOf coefs cells) (fun r => k (.c (.int .i64 r)) []) := he
  refine ⟨rfl, rfl, ?_⟩
  refine loop_model mixed tys_ok t_impl_valueOf (S := Int × Int) (I := (fun (sum, i) => (envOf [(0, .c (.imm (.int .i64) coefs)), (5, .c (.int .i64 sum)), (8, .c (.imm (.int .i64) cells)), (9, .c (.int .i64 (cells.length:Int))), (10, .c (.int .i64 i))], []))) (f := impl_valueOf_l1 coefs cells) (K := (fun r => k (.c (.int .i64 r)) [])) he (leads_ren [] (l := [(0, .c (.imm (.int .i64) coefs)), (5, .c (.int .i64 (0:Int))), (8, .c (.imm (.int .i64) cells)), (9, .c (.int .i64 (cells.length:Int))), (10, .c (.int .i64 (0:Int)))]) (st' := []) rfl rfl trivial ⟨.inl rfl, rfl, .inl rfl, rfl, rfl, trivial⟩) ?_
  rintro ⟨sum, i⟩ J1 he
  refine And.intro (fun hb => ?_) (fun hb => ?_)
  · have he := ok_t he hb
    have he := ok_rq he
    refine And.intro he.1 ?_
    have he := he.2
    have he := ok_rq he
    refine And.intro he.1 ?_
    have he := he.2
    have he := ok_rq he
    refine And.intro he.1 ?_
    have he := he.2
    have he := ok_rq he
    refine And.intro he.1 ?_
    have he := he.2
    have he := ok_rq he
    refine And.intro he.1 ?_
    have he := he.2
    have he := ok_some he
    exact ⟨((sum + ((coefs.getD i.toNat 0) * (cells.getD i.toNat 0))), (i + (1:Int))), he, (leads_ren [] (l := [(0, .c (.imm (.int .i64) coefs)), (5, .c (.int .i64 (sum + ((coefs.getD i.toNat 0) * (cells.getD i.toNat 0))))), (8, .c (.imm (.int .i64) cells)), (9, .c (.int .i64 (cells.length:Int))), (10, .c (.int .i64 (i + (1:Int))))]) (st' := []) rfl rfl trivial ⟨.inl rfl, rfl, .inl rfl, rfl, rfl, trivial⟩)⟩
  · have he := ok_f he hb
    have he := ok_some he
    exact ⟨rfl, _, _, Leads.refl _ _, he⟩

noncomputable def c_impl_MinimizeModel_1__rRNrss : Con := fun args st => match args, st with
  | [.c (.own 3 false), .c (.ptr 0 0), .c (.ptr 1 0), .c (.ptr 2 0)], [(0, .rc [.imm (.int .i64) o0_0, .imm (.pair (.int .i64) (.pair (.sl (.int .i64)) (.pair (.sl (.int .i64)) (.pair (.int .i64) (.sl (.sl (.int .i64))))))) o0_1]), (1, .rc [.own 4 true]), (2, .rc [.imm (.int .i64) o2]), (3, .sl 3 (.int .i64) cells .shallow), (4, .sl 3 (.int .i64) o4 .shallow)] => .opt (Bool × (List Int)) (impl_MinimizeModel_1__rRNrss (o0_0, o0_1) o2 cells o4) (fun r => .ret (.c (.bool r.1)) [(0, .rc [.imm (.int .i64) o0_0, .imm (.pair (.int .i64) (.pair (.sl (.int .i64)) (.pair (.sl (.int .i64)) (.pair (.int .i64) (.sl (.sl (.int .i64))))))) o0_1]), (1, .rc [.own 900 true]), (2, .rc [.imm (.int .i64) o2]), (3, .sl 3 (.int .i64) cells .shallow), (4, .dead), (900, .sl 3 (.int .i64) r.2 .shallow)])
  | _, _ => .fail

noncomputable def C_impl_MinimizeModel_1__rRNrss : Cfg := { y := tys, n := 24, h := 5, tab := [(109, c_impl_valueOf), (133, c_impl_Model_solves), (150, c_slices_Clone_int)], cut := [], hand := [], good := [], deep := [], sched := [(1, (.first 1 (.alt 0 (.alt 2 (.first 3 (.alt 4 (.first 5 (.first 6 (.first 8 (.alt 7 (.alt 9 (.alt 10 (.alt 11 (.alt 12 (.first 13 (.first 14 (.first 15 .done))) .stop) .stop) (.alt 11 (.alt 10 (.alt 12 (.first 13 (.first 14 (.first 15 .done))) .stop) .stop) .stop)) (.alt 10 (.alt 9 (.alt 11 (.alt 12 (.first 13 (.first 14 (.first 15 .done))) .stop) .stop) (.alt 11 (.alt 9 (.alt 12 (.first 13 (.first 14 (.first 15 .done))) .stop) .stop) .stop)) (.alt 11 (.alt 9 (.alt 10 (.alt 12 (.first 13 (.first 14 (.first 15 .done))) .stop) .stop) (.alt 10 (.alt 9 (.alt 12 (.first 13 (.first 14 (.first 15 .done))) .stop) .stop) .stop)) .stop))) (.alt 10 (.alt 7 (.alt 9 (.alt 11 (.alt 12 (.first 13 (.first 14 (.first 15 .done))) .stop) .stop) (.alt 11 (.alt 9 (.alt 12 (.first 13 (.first 14 (.first 15 .done))) .stop) .stop) .stop)) (.alt 11 (.alt 7 (.alt 9 (.alt 12 (.first 13 (.first 14 (.first 15 .done))) .stop) .stop) .stop) .stop)) (.alt 11 (.alt 7 (.alt 9 (.alt 10 (.alt 12 (.first 13 (.first 14 (.first 15 .done))) .stop) .stop) (.alt 10 (.alt 9 (.alt 12 (.first 13 (.first 14 (.first 15 .done))) .stop) .stop) .stop)) (.alt 10 (.alt 7 (.alt 9 (.alt 12 (.first 13 (.first 14 (.first 15 .done))) .stop) .stop) .stop) .stop)) .stop)))))) .stop)) .stop) .stop)))] }

theorem t_impl_MinimizeModel_1__rRNrss : TabOk Try.prog C_impl_MinimizeModel_1__rRNrss := by
  refine tabOk_of ?_
  simp only [C_impl_MinimizeModel_1__rRNrss, List.forall_mem_cons]
  exact ⟨k_impl_valueOf, k_impl_Model_solves, k_slices_Clone_int, fun p h => by cases h⟩

theorem k_impl_MinimizeModel_1__rRNrss : Entry Try.prog 149 c_impl_MinimizeModel_1__rRNrss := by
  refine entry_by (C := C_impl_MinimizeModel_1__rRNrss) mixed tys_ok t_impl_MinimizeModel_1__rRNrss (fn := Try.f149) (c := bd Try.f149) (by kernel_rfl) (by kernel_rfl) (by kernel_rfl) (by kernel_rfl) ?_
  intro args st k he
  unfold c_impl_MinimizeModel_1__rRNrss at he
  split at he
  rotate_left
  · exact he.elim
  rename_i o0_0 o0_1 o2 cells o4
  have he : Ok (impl_MinimizeModel_1__rRNrss (o0_0, o0_1) o2 cells o4) (fun r => k (.c (.bool r.1)) [(0, .rc [.imm (.int .i64) o0_0, .imm (.pair (.int .i64) (.pair (.sl (.int .i64)) (.pair (.sl (.int .i64)) (.pair (.int .i64) (.sl (.sl (.int .i64))))))) o0_1]), (1, .rc [.own 900 true]), (2, .rc [.imm (.int .i64) o2]), (3, .sl 3 (.int .i64) cells .shallow), (4, .dead), (900, .sl 3 (.int .i64) r.2 .shallow)]) := he
  refine ⟨rfl, rfl, ?_⟩
  refine And.intro (by kernel_rfl) ?_
  refine And.intro ?_ trivial
  refine And.intro ?_ trivial
  obtain ⟨r4_, hr, he⟩ := ok_bind he
  refine ⟨r4_, hr, ?_⟩
  refine And.intro ?_ trivial
  refine And.intro (fun hb => ?_) (fun hb => ?_)
  · have he := ok_t he hb
    refine And.intro (fun hb => ?_) (fun hb => ?_)
    · have he := ok_f he hb
      obtain ⟨r5_, hq1, he⟩ := ok_bind he
      obtain ⟨r6_, hq2, he⟩ := ok_bind he
      refine And.intro ?_ (And.intro ?_ (And.intro ?_ (trivial)))
      · skip
        refine And.intro ?_ (And.intro ?_ (And.intro ?_ (trivial)))
        · skip
          refine ⟨r5_, hq1, ?_⟩
          refine And.intro ?_ (And.intro ?_ (trivial))
          · skip
            refine And.intro ?_ trivial
            refine And.intro ?_ trivial
            refine ⟨r6_, hq2, ?_⟩
            refine And.intro (fun hb => ?_) (fun hb => ?_)
            · have he := ok_t he hb
              obtain ⟨r7_, hr, he⟩ := ok_bind he
              refine ⟨r7_, hr, ?_⟩
              have he := ok_rq he
              have hne0 := he.1
              have he := he.2
              have he := ok_some he
              exact ⟨rfl, _, _, (leads_ren [(900, 24900)] (l := [(5, .c (.bool true))]) (st' := [(0, .rc [.imm (.int .i64) o0_0, .imm (.pair (.int .i64) (.pair (.sl (.int .i64)) (.pair (.sl (.int .i64)) (.pair (.int .i64) (.sl (.sl (.int .i64))))))) o0_1]), (1, .rc [.own 900 true]), (2, .rc [.imm (.int .i64) o2]), (3, .sl 3 (.int .i64) cells .shallow), (4, .dead), (900, .sl 3 (.int .i64) r7_ .shallow)]) rfl rfl ⟨⟨.inl rfl, .inl rfl, trivial⟩, ⟨⟨⟨rfl, rfl⟩, hne0⟩, trivial⟩, ⟨.inl rfl, trivial⟩, ⟨rfl, rfl⟩, trivial, ⟨rfl, rfl⟩, trivial⟩ ⟨.inr rfl, trivial⟩), he⟩
            · have he := ok_f he hb
              have he := ok_some he
              exact ⟨rfl, _, _, (leads_ren [(900, 4)] (l := [(5, .c (.bool true))]) (st' := [(0, .rc [.imm (.int .i64) o0_0, .imm (.pair (.int .i64) (.pair (.sl (.int .i64)) (.pair (.sl (.int .i64)) (.pair (.int .i64) (.sl (.sl (.int .i64))))))) o0_1]), (1, .rc [.own 900 true]), (2, .rc [.imm (.int .i64) o2]), (3, .sl 3 (.int .i64) cells .shallow), (4, .dead), (900, .sl 3 (.int .i64) o4 .shallow)]) rfl rfl ⟨⟨.inl rfl, .inl rfl, trivial⟩, ⟨⟨⟨rfl, rfl⟩, trivial⟩, trivial⟩, ⟨.inl rfl, trivial⟩, ⟨rfl, rfl⟩, trivial, ⟨rfl, rfl⟩, trivial⟩ ⟨.inr rfl, trivial⟩), he⟩
          · skip
            refine And.intro ?_ trivial
            refine And.intro ?_ trivial
            refine ⟨r6_, hq2, ?_⟩
            refine And.intro (fun hb => ?_) (fun hb => ?_)
            · have he := ok_t he hb
              obtain ⟨r8_, hr, he⟩ := ok_bind he
              refine ⟨r8_, hr, ?_⟩
              have he := ok_rq he
              have hne0 := he.1
              have he := he.2
              have he := ok_some he
              exact ⟨rfl, _, _, (leads_ren [(900, 24900)] (l := [(5, .c (.bool true))]) (st' := [(0, .rc [.imm (.int .i64) o0_0, .imm (.pair (.int .i64) (.pair (.sl (.int .i64)) (.pair (.sl (.int .i64)) (.pair (.int .i64) (.sl (.sl (.int .i64))))))) o0_1]), (1, .rc [.own 900 true]), (2, .rc [.imm (.int .i64) o2]), (3, .sl 3 (.int .i64) cells .shallow), (4, .dead), (900, .sl 3 (.int .i64) r8_ .shallow)]) rfl rfl ⟨⟨.inl rfl, .inl rfl, trivial⟩, ⟨⟨⟨rfl, rfl⟩, hne0⟩, trivial⟩, ⟨.inl rfl, trivial⟩, ⟨rfl, rfl⟩, trivial, ⟨rfl, rfl⟩, trivial⟩ ⟨.inr rfl, trivial⟩), he⟩
            · have he := ok_f he hb
              have he := ok_some he
              exact ⟨rfl, _, _, (leads_ren [(900, 4)] (l := [(5, .c (.bool true))]) (st' := [(0, .rc [.imm (.int .i64) o0_0, .imm (.pair (.int .i64) (.pair (.sl (.int .i64)) (.pair (.sl (.int .i64)) (.pair (.int .i64) (.sl (.sl (.int .i64))))))) o0_1]), (1, .rc [.own 900 true]), (2, .rc [.imm (.int .i64) o2]), (3, .sl 3 (.int .i64) cells .shallow), (4, .dead), (900, .sl 3 (.int .i64) o4 .shallow)]) rfl rfl ⟨⟨.inl rfl, .inl rfl, trivial⟩, ⟨⟨⟨rfl, rfl⟩, trivial⟩, trivial⟩, ⟨.inl rfl, trivial⟩, ⟨rfl, rfl⟩, trivial, ⟨rfl, rfl⟩, trivial⟩ ⟨.inr rfl, trivial⟩), he⟩
        · skip
          refine And.intro ?_ (And.intro ?_ (trivial))
          · skip
            refine ⟨r5_, hq1, ?_⟩
            refine And.intro ?_ trivial
            refine And.intro ?_ trivial
            refine ⟨r6_, hq2, ?_⟩
            refine And.intro (fun hb => ?_) (fun hb => ?_)
            · have he := ok_t he hb
              obtain ⟨r9_, hr, he⟩ := ok_bind he
              refine ⟨r9_, hr, ?_⟩
              have he := ok_rq he
              have hne0 := he.1
              have he := he.2
              have he := ok_some he
              exact ⟨rfl, _, _, (leads_ren [(900, 24900)] (l := [(5, .c (.bool true))]) (st' := [(0, .rc [.imm (.int .i64) o0_0, .imm (.pair (.int .i64) (.pair (.sl (.int .i64)) (.pair (.sl (.int .i64)) (.pair (.int .i64) (.sl (.sl (.int .i64))))))) o0_1]), (1, .rc [.own 900 true]), (2, .rc [.imm (.int .i64) o2]), (3, .sl 3 (.int .i64) cells .shallow), (4, .dead), (900, .sl 3 (.int .i64) r9_ .shallow)]) rfl rfl ⟨⟨.inl rfl, .inl rfl, trivial⟩, ⟨⟨⟨rfl, rfl⟩, hne0⟩, trivial⟩, ⟨.inl rfl, trivial⟩, ⟨rfl, rfl⟩, trivial, ⟨rfl, rfl⟩, trivial⟩ ⟨.inr rfl, trivial⟩), he⟩
            · have he := ok_f he hb
              have he := ok_some he
              exact ⟨rfl, _, _, (leads_ren [(900, 4)] (l := [(5, .c (.bool true))]) (st' := [(0, .rc [.imm (.int .i64) o0_0, .imm (.pair (.int .i64) (.pair (.sl (.int .i64)) (.pair (.sl (.int .i64)) (.pair (.int .i64) (.sl (.sl (.int .i64))))))) o0_1]), (1, .rc [.own 900 true]), (2, .rc [.imm (.int .i64) o2]), (3, .sl 3 (.int .i64) cells .shallow), (4, .dead), (900, .sl 3 (.int .i64) o4 .shallow)]) rfl rfl ⟨⟨.inl rfl, .inl rfl, trivial⟩, ⟨⟨⟨rfl, rfl⟩, trivial⟩, trivial⟩, ⟨.inl rfl, trivial⟩, ⟨rfl, rfl⟩, trivial, ⟨rfl, rfl⟩, trivial⟩ ⟨.inr rfl, trivial⟩), he⟩
          · skip
            refine And.intro ?_ trivial
            refine ⟨r5_, hq1, ?_⟩
            refine And.intro ?_ trivial
            refine ⟨r6_, hq2, ?_⟩
            refine And.intro (fun hb => ?_) (fun hb => ?_)
            · have he := ok_t he hb
              obtain ⟨r10_, hr, he⟩ := ok_bind he
              refine ⟨r10_, hr, ?_⟩
              have he := ok_rq he
              have hne0 := he.1
              have he := he.2
              have he := ok_some he
              exact ⟨rfl, _, _, (leads_ren [(900, 24900)] (l := [(5, .c (.bool true))]) (st' := [(0, .rc [.imm (.int .i64) o0_0, .imm (.pair (.int .i64) (.pair (.sl (.int .i64)) (.pair (.sl (.int .i64)) (.pair (.int .i64) (.sl (.sl (.int .i64))))))) o0_1]), (1, .rc [.own 900 true]), (2, .rc [.imm (.int .i64) o2]), (3, .sl 3 (.int .i64) cells .shallow), (4, .dead), (900, .sl 3 (.int .i64) r10_ .shallow)]) rfl rfl ⟨⟨.inl rfl, .inl rfl, trivial⟩, ⟨⟨⟨rfl, rfl⟩, hne0⟩, trivial⟩, ⟨.inl rfl, trivial⟩, ⟨rfl, rfl⟩, trivial, ⟨rfl, rfl⟩, trivial⟩ ⟨.inr rfl, trivial⟩), he⟩
            · have he := ok_f he hb
              have he := ok_some he
              exact ⟨rfl, _, _, (leads_ren [(900, 4)] (l := [(5, .c (.bool true))]) (st' := [(0, .rc [.imm (.int .i64) o0_0, .imm (.pair (.int .i64) (.pair (.sl (.int .i64)) (.pair (.sl (.int .i64)) (.pair (.int .i64) (.sl (.sl (.int .i64))))))) o0_1]), (1, .rc [.own 900 true]), (2, .rc [.imm (.int .i64) o2]), (3, .sl 3 (.int .i64) cells .shallow), (4, .dead), (900, .sl 3 (.int .i64) o4 .shallow)]) rfl rfl ⟨⟨.inl rfl, .inl rfl, trivial⟩, ⟨⟨⟨rfl, rfl⟩, trivial⟩, trivial⟩, ⟨.inl rfl, trivial⟩, ⟨rfl, rfl⟩, trivial, ⟨rfl, rfl⟩, trivial⟩ ⟨.inr rfl, trivial⟩), he⟩
        · skip
          refine And.intro ?_ (And.intro ?_ (trivial))
          · skip
            refine ⟨r5_, hq1, ?_⟩
            refine And.intro ?_ trivial
            refine And.intro ?_ trivial
            refine ⟨r6_, hq2, ?_⟩
            refine And.intro (fun hb => ?_) (fun hb => ?_)
            · have he := ok_t he hb
              obtain ⟨r11_, hr, he⟩ := ok_bind he
              refine ⟨r11_, hr, ?_⟩
              have he := ok_rq he
              have hne0 := he.1
              have he := he.2
              have he := ok_some he
              exact ⟨rfl, _, _, (leads_ren [(900, 24900)] (l := [(5, .c (.bool true))]) (st' := [(0, .rc [.imm (.int .i64) o0_0, .imm (.pair (.int .i64) (.pair (.sl (.int .i64)) (.pair (.sl (.int .i64)) (.pair (.int .i64) (.sl (.sl (.int .i64))))))) o0_1]), (1, .rc [.own 900 true]), (2, .rc [.imm (.int .i64) o2]), (3, .sl 3 (.int .i64) cells .shallow), (4, .dead), (900, .sl 3 (.int .i64) r11_ .shallow)]) rfl rfl ⟨⟨.inl rfl, .inl rfl, trivial⟩, ⟨⟨⟨rfl, rfl⟩, hne0⟩, trivial⟩, ⟨.inl rfl, trivial⟩, ⟨rfl, rfl⟩, trivial, ⟨rfl, rfl⟩, trivial⟩ ⟨.inr rfl, trivial⟩), he⟩
            · have he := ok_f he hb
              have he := ok_some he
              exact ⟨rfl, _, _, (leads_ren [(900, 4)] (l := [(5, .c (.bool true))]) (st' := [(0, .rc [.imm (.int .i64) o0_0, .imm (.pair (.int .i64) (.pair (.sl (.int .i64)) (.pair (.sl (.int .i64)) (.pair (.int .i64) (.sl (.sl (.int .i64))))))) o0_1]), (1, .rc [.own 900 true]), (2, .rc [.imm (.int .i64) o2]), (3, .sl 3 (.int .i64) cells .shallow), (4, .dead), (900, .sl 3 (.int .i64) o4 .shallow)]) rfl rfl ⟨⟨.inl rfl, .inl rfl, trivial⟩, ⟨⟨⟨rfl, rfl⟩, trivial⟩, trivial⟩, ⟨.inl rfl, trivial⟩, ⟨rfl, rfl⟩, trivial, ⟨rfl, rfl⟩, trivial⟩ ⟨.inr rfl, trivial⟩), he⟩
          · skip
            refine And.intro ?_ trivial
            refine ⟨r5_, hq1, ?_⟩
            refine And.intro ?_ trivial
            refine ⟨r6_, hq2, ?_⟩
            refine And.intro (fun hb => ?_) (fun hb => ?_)
            · have he := ok_t he hb
              obtain ⟨r12_, hr, he⟩ := ok_bind he
              refine ⟨r12_, hr, ?_⟩
              have he := ok_rq he
              have hne0 := he.1
              have he := he.2
              have he := ok_some he
              exact ⟨rfl, _, _, (leads_ren [(900, 24900)] (l := [(5, .c (.bool true))]) (st' := [(0, .rc [.imm (.int .i64) o0_0, .imm (.pair (.int .i64) (.pair (.sl (.int .i64)) (.pair (.sl (.int .i64)) (.pair (.int .i64) (.sl (.sl (.int .i64))))))) o0_1]), (1, .rc [.own 900 true]), (2, .rc [.imm (.int .i64) o2]), (3, .sl 3 (.int .i64) cells .shallow), (4, .dead), (900, .sl 3 (.int .i64) r12_ .shallow)]) rfl rfl ⟨⟨.inl rfl, .inl rfl, trivial⟩, ⟨⟨⟨rfl, rfl⟩, hne0⟩, trivial⟩, ⟨.inl rfl, trivial⟩, ⟨rfl, rfl⟩, trivial, ⟨rfl, rfl⟩, trivial⟩ ⟨.inr rfl, trivial⟩), he⟩
            · have he := ok_f he hb
              have he := ok_some he
              exact ⟨rfl, _, _, (leads_ren [(900, 4)] (l := [(5, .c (.bool true))]) (st' := [(0, .rc [.imm (.int .i64) o0_0, .imm (.pair (.int .i64) (.pair (.sl (.int .i64)) (.pair (.sl (.int .i64)) (.pair (.int .i64) (.sl (.sl (.int .i64))))))) o0_1]), (1, .rc [.own 900 true]), (2, .rc [.imm (.int .i64) o2]), (3, .sl 3 (.int .i64) cells .shallow), (4, .dead), (900, .sl 3 (.int .i64) o4 .shallow)]) rfl rfl ⟨⟨.inl rfl, .inl rfl, trivial⟩, ⟨⟨⟨rfl, rfl⟩, trivial⟩, trivial⟩, ⟨.inl rfl, trivial⟩, ⟨rfl, rfl⟩, trivial, ⟨rfl, rfl⟩, trivial⟩ ⟨.inr rfl, trivial⟩), he⟩
      · skip
        refine And.intro ?_ (And.intro ?_ (trivial))
        · skip
          refine And.intro ?_ (And.intro ?_ (trivial))
          · skip
            refine ⟨r5_, hq1, ?_⟩
            refine And.intro ?_ trivial
            refine And.intro ?_ trivial
            refine ⟨r6_, hq2, ?_⟩
            refine And.intro (fun hb => ?_) (fun hb => ?_)
            · have he := ok_t he hb
              obtain ⟨r13_, hr, he⟩ := ok_bind he
              refine ⟨r13_, hr, ?_⟩
              have he := ok_rq he
              have hne0 := he.1
              have he := he.2
              have he := ok_some he
              exact ⟨rfl, _, _, (leads_ren [(900, 24900)] (l := [(5, .c (.bool true))]) (st' := [(0, .rc [.imm (.int .i64) o0_0, .imm (.pair (.int .i64) (.pair (.sl (.int .i64)) (.pair (.sl (.int .i64)) (.pair (.int .i64) (.sl (.sl (.int .i64))))))) o0_1]), (1, .rc [.own 900 true]), (2, .rc [.imm (.int .i64) o2]), (3, .sl 3 (.int .i64) cells .shallow), (4, .dead), (900, .sl 3 (.int .i64) r13_ .shallow)]) rfl rfl ⟨⟨.inl rfl, .inl rfl, trivial⟩, ⟨⟨⟨rfl, rfl⟩, hne0⟩, trivial⟩, ⟨.inl rfl, trivial⟩, ⟨rfl, rfl⟩, trivial, ⟨rfl, rfl⟩, trivial⟩ ⟨.inr rfl, trivial⟩), he⟩
            · have he := ok_f he hb
              have he := ok_some he
              exact ⟨rfl, _, _, (leads_ren [(900, 4)] (l := [(5, .c (.bool true))]) (st' := [(0, .rc [.imm (.int .i64) o0_0, .imm (.pair (.int .i64) (.pair (.sl (.int .i64)) (.pair (.sl (.int .i64)) (.pair (.int .i64) (.sl (.sl (.int .i64))))))) o0_1]), (1, .rc [.own 900 true]), (2, .rc [.imm (.int .i64) o2]), (3, .sl 3 (.int .i64) cells .shallow), (4, .dead), (900, .sl 3 (.int .i64) o4 .shallow)]) rfl rfl ⟨⟨.inl rfl, .inl rfl, trivial⟩, ⟨⟨⟨rfl, rfl⟩, trivial⟩, trivial⟩, ⟨.inl rfl, trivial⟩, ⟨rfl, rfl⟩, trivial, ⟨rfl, rfl⟩, trivial⟩ ⟨.inr rfl, trivial⟩), he⟩
          · skip
            refine And.intro ?_ trivial
            refine ⟨r5_, hq1, ?_⟩
            refine And.intro ?_ trivial
            refine ⟨r6_, hq2, ?_⟩
            refine And.intro (fun hb => ?_) (fun hb => ?_)
            · have he := ok_t he hb
              obtain ⟨r14_, hr, he⟩ := ok_bind he
              refine ⟨r14_, hr, ?_⟩
              have he := ok_rq he
              have hne0 := he.1
              have he := he.2
              have he := ok_some he
              exact ⟨rfl, _, _, (leads_ren [(900, 24900)] (l := [(5, .c (.bool true))]) (st' := [(0, .rc [.imm (.int .i64) o0_0, .imm (.pair (.int .i64) (.pair (.sl (.int .i64)) (.pair (.sl (.int .i64)) (.pair (.int .i64) (.sl (.sl (.int .i64))))))) o0_1]), (1, .rc [.own 900 true]), (2, .rc [.imm (.int .i64) o2]), (3, .sl 3 (.int .i64) cells .shallow), (4, .dead), (900, .sl 3 (.int .i64) r14_ .shallow)]) rfl rfl ⟨⟨.inl rfl, .inl rfl, trivial⟩, ⟨⟨⟨rfl, rfl⟩, hne0⟩, trivial⟩, ⟨.inl rfl, trivial⟩, ⟨rfl, rfl⟩, trivial, ⟨rfl, rfl⟩, trivial⟩ ⟨.inr rfl, trivial⟩), he⟩
            · have he := ok_f he hb
              have he := ok_some he
              exact ⟨rfl, _, _, (leads_ren [(900, 4)] (l := [(5, .c (.bool true))]) (st' := [(0, .rc [.imm (.int .i64) o0_0, .imm (.pair (.int .i64) (.pair (.sl (.int .i64)) (.pair (.sl (.int .i64)) (.pair (.int .i64) (.sl (.sl (.int .i64))))))) o0_1]), (1, .rc [.own 900 true]), (2, .rc [.imm (.int .i64) o2]), (3, .sl 3 (.int .i64) cells .shallow), (4, .dead), (900, .sl 3 (.int .i64) o4 .shallow)]) rfl rfl ⟨⟨.inl rfl, .inl rfl, trivial⟩, ⟨⟨⟨rfl, rfl⟩, trivial⟩, trivial⟩, ⟨.inl rfl, trivial⟩, ⟨rfl, rfl⟩, trivial, ⟨rfl, rfl⟩, trivial⟩ ⟨.inr rfl, trivial⟩), he⟩
        · skip
          refine And.intro ?_ trivial
          refine And.intro ?_ trivial
          refine ⟨r5_, hq1, ?_⟩
          refine And.intro ?_ trivial
          refine ⟨r6_, hq2, ?_⟩
          refine And.intro (fun hb => ?_) (fun hb => ?_)
          · have he := ok_t he hb
            obtain ⟨r15_, hr, he⟩ := ok_bind he
            refine ⟨r15_, hr, ?_⟩
            have he := ok_rq he
            have hne0 := he.1
            have he := he.2
            have he := ok_some he
            exact ⟨rfl, _, _, (leads_ren [(900, 24900)] (l := [(5, .c (.bool true))]) (st' := [(0, .rc [.imm (.int .i64) o0_0, .imm (.pair (.int .i64) (.pair (.sl (.int .i64)) (.pair (.sl (.int .i64)) (.pair (.int .i64) (.sl (.sl (.int .i64))))))) o0_1]), (1, .rc [.own 900 true]), (2, .rc [.imm (.int .i64) o2]), (3, .sl 3 (.int .i64) cells .shallow), (4, .dead), (900, .sl 3 (.int .i64) r15_ .shallow)]) rfl rfl ⟨⟨.inl rfl, .inl rfl, trivial⟩, ⟨⟨⟨rfl, rfl⟩, hne0⟩, trivial⟩, ⟨.inl rfl, trivial⟩, ⟨rfl, rfl⟩, trivial, ⟨rfl, rfl⟩, trivial⟩ ⟨.inr rfl, trivial⟩), he⟩
          · have he := ok_f he hb
            have he := ok_some he
            exact ⟨rfl, _, _, (leads_ren [(900, 4)] (l := [(5, .c (.bool true))]) (st' := [(0, .rc [.imm (.int .i64) o0_0, .imm (.pair (.int .i64) (.pair (.sl (.int .i64)) (.pair (.sl (.int .i64)) (.pair (.int .i64) (.sl (.sl (.int .i64))))))) o0_1]), (1, .rc [.own 900 true]), (2, .rc [.imm (.int .i64) o2]), (3, .sl 3 (.int .i64) cells .shallow), (4, .dead), (900, .sl 3 (.int .i64) o4 .shallow)]) rfl rfl ⟨⟨.inl rfl, .inl rfl, trivial⟩, ⟨⟨⟨rfl, rfl⟩, trivial⟩, trivial⟩, ⟨.inl rfl, trivial⟩, ⟨rfl, rfl⟩, trivial, ⟨rfl, rfl⟩, trivial⟩ ⟨.inr rfl, trivial⟩), he⟩
      · skip
        refine And.intro ?_ (And.intro ?_ (trivial))
        · skip
          refine And.intro ?_ (And.intro ?_ (trivial))
          · skip
            refine ⟨r5_, hq1, ?_⟩
            refine And.intro ?_ trivial
            refine And.intro ?_ trivial
            refine ⟨r6_, hq2, ?_⟩
            refine And.intro (fun hb => ?_) (fun hb => ?_)
            · have he := ok_t he hb
              obtain ⟨r16_, hr, he⟩ := ok_bind he
              refine ⟨r16_, hr, ?_⟩
              have he := ok_rq he
              have hne0 := he.1
              have he := he.2
              have he := ok_some he
              exact ⟨rfl, _, _, (leads_ren [(900, 24900)] (l := [(5, .c (.bool true))]) (st' := [(0, .rc [.imm (.int .i64) o0_0, .imm (.pair (.int .i64) (.pair (.sl (.int .i64)) (.pair (.sl (.int .i64)) (.pair (.int .i64) (.sl (.sl (.int .i64))))))) o0_1]), (1, .rc [.own 900 true]), (2, .rc [.imm (.int .i64) o2]), (3, .sl 3 (.int .i64) cells .shallow), (4, .dead), (900, .sl 3 (.int .i64) r16_ .shallow)]) rfl rfl ⟨⟨.inl rfl, .inl rfl, trivial⟩, ⟨⟨⟨rfl, rfl⟩, hne0⟩, trivial⟩, ⟨.inl rfl, trivial⟩, ⟨rfl, rfl⟩, trivial, ⟨rfl, rfl⟩, trivial⟩ ⟨.inr rfl, trivial⟩), he⟩
            · have he := ok_f he hb
              have he := ok_some he
              exact ⟨rfl, _, _, (leads_ren [(900, 4)] (l := [(5, .c (.bool true))]) (st' := [(0, .rc [.imm (.int .i64) o0_0, .imm (.pair (.int .i64) (.pair (.sl (.int .i64)) (.pair (.sl (.int .i64)) (.pair (.int .i64) (.sl (.sl (.int .i64))))))) o0_1]), (1, .rc [.own 900 true]), (2, .rc [.imm (.int .i64) o2]), (3, .sl 3 (.int .i64) cells .shallow), (4, .dead), (900, .sl 3 (.int .i64) o4 .shallow)]) rfl rfl ⟨⟨.inl rfl, .inl rfl, trivial⟩, ⟨⟨⟨rfl, rfl⟩, trivial⟩, trivial⟩, ⟨.inl rfl, trivial⟩, ⟨rfl, rfl⟩, trivial, ⟨rfl, rfl⟩, trivial⟩ ⟨.inr rfl, trivial⟩), he⟩
          · skip
            refine And.intro ?_ trivial
            refine ⟨r5_, hq1, ?_⟩
            refine And.intro ?_ trivial
            refine ⟨r6_, hq2, ?_⟩
            refine And.intro (fun hb => ?_) (fun hb => ?_)
            · have he := ok_t he hb
              obtain ⟨r17_, hr, he⟩ := ok_bind he
              refine ⟨r17_, hr, ?_⟩
              have he := ok_rq he
              have hne0 := he.1
              have he := he.2
              have he := ok_some he
              exact ⟨rfl, _, _, (leads_ren [(900, 24900)] (l := [(5, .c (.bool true))]) (st' := [(0, .rc [.imm (.int .i64) o0_0, .imm (.pair (.int .i64) (.pair (.sl (.int .i64)) (.pair (.sl (.int .i64)) (.pair (.int .i64) (.sl (.sl (.int .i64))))))) o0_1]), (1, .rc [.own 900 true]), (2, .rc [.imm (.int .i64) o2]), (3, .sl 3 (.int .i64) cells .shallow), (4, .dead), (900, .sl 3 (.int .i64) r17_ .shallow)]) rfl rfl ⟨⟨.inl rfl, .inl rfl, trivial⟩, ⟨⟨⟨rfl, rfl⟩, hne0⟩, trivial⟩, ⟨.inl rfl, trivial⟩, ⟨rfl, rfl⟩, trivial, ⟨rfl, rfl⟩, trivial⟩ ⟨.inr rfl, trivial⟩), he⟩
            · have he := ok_f he hb
              have he := ok_some he
              exact ⟨rfl, _, _, (leads_ren [(900, 4)] (l := [(5, .c (.bool true))]) (st' := [(0, .rc [.imm (.int .i64) o0_0, .imm (.pair (.int .i64) (.pair (.sl (.int .i64)) (.pair (.sl (.int .i64)) (.pair (.int .i64) (.sl (.sl (.int .i64))))))) o0_1]), (1, .rc [.own 900 true]), (2, .rc [.imm (.int .i64) o2]), (3, .sl 3 (.int .i64) cells .shallow), (4, .dead), (900, .sl 3 (.int .i64) o4 .shallow)]) rfl rfl ⟨⟨.inl rfl, .inl rfl, trivial⟩, ⟨⟨⟨rfl, rfl⟩, trivial⟩, trivial⟩, ⟨.inl rfl, trivial⟩, ⟨rfl, rfl⟩, trivial, ⟨rfl, rfl⟩, trivial⟩ ⟨.inr rfl, trivial⟩), he⟩
        · skip
          refine And.intro ?_ trivial
          refine And.intro ?_ trivial
          refine ⟨r5_, hq1, ?_⟩
          refine And.intro ?_ trivial
          refine ⟨r6_, hq2, ?_⟩
          refine And.intro (fun hb => ?_) (fun hb => ?_)
          · have he := ok_t he hb
            obtain ⟨r18_, hr, he⟩ := ok_bind he
            refine ⟨r18_, hr, ?_⟩
            have he := ok_rq he
            have hne0 := he.1
            have he := he.2
            have he := ok_some he
            exact ⟨rfl, _, _, (leads_ren [(900, 24900)] (l := [(5, .c (.bool true))]) (st' := [(0, .rc [.imm (.int .i64) o0_0, .imm (.pair (.int .i64) (.pair (.sl (.int .i64)) (.pair (.sl (.int .i64)) (.pair (.int .i64) (.sl (.sl (.int .i64))))))) o0_1]), (1, .rc [.own 900 true]), (2, .rc [.imm (.int .i64) o2]), (3, .sl 3 (.int .i64) cells .shallow), (4, .dead), (900, .sl 3 (.int .i64) r18_ .shallow)]) rfl rfl ⟨⟨.inl rfl, .inl rfl, trivial⟩, ⟨⟨⟨rfl, rfl⟩, hne0⟩, trivial⟩, ⟨.inl rfl, trivial⟩, ⟨rfl, rfl⟩, trivial, ⟨rfl, rfl⟩, trivial⟩ ⟨.inr rfl, trivial⟩), he⟩
          · have he := ok_f he hb
            have he := ok_some he
            exact ⟨rfl, _, _, (leads_ren [(900, 4)] (l := [(5, .c (.bool true))]) (st' := [(0, .rc [.imm (.int .i64) o0_0, .imm (.pair (.int .i64) (.pair (.sl (.int .i64)) (.pair (.sl (.int .i64)) (.pair (.int .i64) (.sl (.sl (.int .i64))))))) o0_1]), (1, .rc [.own 900 true]), (2, .rc [.imm (.int .i64) o2]), (3, .sl 3 (.int .i64) cells .shallow), (4, .dead), (900, .sl 3 (.int .i64) o4 .shallow)]) rfl rfl ⟨⟨.inl rfl, .inl rfl, trivial⟩, ⟨⟨⟨rfl, rfl⟩, trivial⟩, trivial⟩, ⟨.inl rfl, trivial⟩, ⟨rfl, rfl⟩, trivial, ⟨rfl, rfl⟩, trivial⟩ ⟨.inr rfl, trivial⟩), he⟩
    · have he := ok_t he hb
      refine And.intro ?_ (And.intro ?_ (And.intro ?_ (trivial)))
      · skip
        refine And.intro ?_ (And.intro ?_ (And.intro ?_ (trivial)))
        · skip
          refine And.intro ?_ (And.intro ?_ (trivial))
          · skip
            refine And.intro ?_ trivial
            refine And.intro ?_ trivial
            obtain ⟨r19_, hr, he⟩ := ok_bind he
            refine ⟨r19_, hr, ?_⟩
            have he := ok_rq he
            have hne0 := he.1
            have he := he.2
            have he := ok_some he
            exact ⟨rfl, _, _, (leads_ren [(900, 24900)] (l := [(5, .c (.bool true))]) (st' := [(0, .rc [.imm (.int .i64) o0_0, .imm (.pair (.int .i64) (.pair (.sl (.int .i64)) (.pair (.sl (.int .i64)) (.pair (.int .i64) (.sl (.sl (.int .i64))))))) o0_1]), (1, .rc [.own 900 true]), (2, .rc [.imm (.int .i64) o2]), (3, .sl 3 (.int .i64) cells .shallow), (4, .dead), (900, .sl 3 (.int .i64) r19_ .shallow)]) rfl rfl ⟨⟨.inl rfl, .inl rfl, trivial⟩, ⟨⟨⟨rfl, rfl⟩, hne0⟩, trivial⟩, ⟨.inl rfl, trivial⟩, ⟨rfl, rfl⟩, trivial, ⟨rfl, rfl⟩, trivial⟩ ⟨.inr rfl, trivial⟩), he⟩
          · skip
            refine And.intro ?_ trivial
            refine And.intro ?_ trivial
            obtain ⟨r20_, hr, he⟩ := ok_bind he
            refine ⟨r20_, hr, ?_⟩
            have he := ok_rq he
            have hne0 := he.1
            have he := he.2
            have he := ok_some he
            exact ⟨rfl, _, _, (leads_ren [(900, 24900)] (l := [(5, .c (.bool true))]) (st' := [(0, .rc [.imm (.int .i64) o0_0, .imm (.pair (.int .i64) (.pair (.sl (.int .i64)) (.pair (.sl (.int .i64)) (.pair (.int .i64) (.sl (.sl (.int .i64))))))) o0_1]), (1, .rc [.own 900 true]), (2, .rc [.imm (.int .i64) o2]), (3, .sl 3 (.int .i64) cells .shallow), (4, .dead), (900, .sl 3 (.int .i64) r20_ .shallow)]) rfl rfl ⟨⟨.inl rfl, .inl rfl, trivial⟩, ⟨⟨⟨rfl, rfl⟩, hne0⟩, trivial⟩, ⟨.inl rfl, trivial⟩, ⟨rfl, rfl⟩, trivial, ⟨rfl, rfl⟩, trivial⟩ ⟨.inr rfl, trivial⟩), he⟩
        · skip
          refine And.intro ?_ (And.intro ?_ (trivial))
          · skip
            refine And.intro ?_ trivial
            refine And.intro ?_ trivial
            obtain ⟨r21_, hr, he⟩ := ok_bind he
            refine ⟨r21_, hr, ?_⟩
            have he := ok_rq he
            have hne0 := he.1
            have he := he.2
            have he := ok_some he
            exact ⟨rfl, _, _, (leads_ren [(900, 24900)] (l := [(5, .c (.bool true))]) (st' := [(0, .rc [.imm (.int .i64) o0_0, .imm (.pair (.int .i64) (.pair (.sl (.int .i64)) (.pair (.sl (.int .i64)) (.pair (.int .i64) (.sl (.sl (.int .i64))))))) o0_1]), (1, .rc [.own 900 true]), (2, .rc [.imm (.int .i64) o2]), (3, .sl 3 (.int .i64) cells .shallow), (4, .dead), (900, .sl 3 (.int .i64) r21_ .shallow)]) rfl rfl ⟨⟨.inl rfl, .inl rfl, trivial⟩, ⟨⟨⟨rfl, rfl⟩, hne0⟩, trivial⟩, ⟨.inl rfl, trivial⟩, ⟨rfl, rfl⟩, trivial, ⟨rfl, rfl⟩, trivial⟩ ⟨.inr rfl, trivial⟩), he⟩
          · skip
            refine And.intro ?_ trivial
            refine And.intro ?_ trivial
            obtain ⟨r22_, hr, he⟩ := ok_bind he
            refine ⟨r22_, hr, ?_⟩
            have he := ok_rq he
            have hne0 := he.1
            have he := he.2
            have he := ok_some he
            exact ⟨rfl, _, _, (leads_ren [(900, 24900)] (l := [(5, .c (.bool true))]) (st' := [(0, .rc [.imm (.int .i64) o0_0, .imm (.pair (.int .i64) (.pair (.sl (.int .i64)) (.pair (.sl (.int .i64)) (.pair (.int .i64) (.sl (.sl (.int .i64))))))) o0_1]), (1, .rc [.own 900 true]), (2, .rc [.imm (.int .i64) o2]), (3, .sl 3 (.int .i64) cells .shallow), (4, .dead), (900, .sl 3 (.int .i64) r22_ .shallow)]) rfl rfl ⟨⟨.inl rfl, .inl rfl, trivial⟩, ⟨⟨⟨rfl, rfl⟩, hne0⟩, trivial⟩, ⟨.inl rfl, trivial⟩, ⟨rfl, rfl⟩, trivial, ⟨rfl, rfl⟩, trivial⟩ ⟨.inr rfl, trivial⟩), he⟩
        · skip
          refine And.intro ?_ (And.intro ?_ (trivial))
          · skip
            refine And.intro ?_ trivial
            refine And.intro ?_ trivial
            obtain ⟨r23_, hr, he⟩ := ok_bind he
            refine ⟨r23_, hr, ?_⟩
            have he := ok_rq he
            have hne0 := he.1
            have he := he.2
            have he := ok_some he
            exact ⟨rfl, _, _, (leads_ren [(900, 24900)] (l := [(5, .c (.bool true))]) (st' := [(0, .rc [.imm (.int .i64) o0_0, .imm (.pair (.int .i64) (.pair (.sl (.int .i64)) (.pair (.sl (.int .i64)) (.pair (.int .i64) (.sl (.sl (.int .i64))))))) o0_1]), (1, .rc [.own 900 true]), (2, .rc [.imm (.int .i64) o2]), (3, .sl 3 (.int .i64) cells .shallow), (4, .dead), (900, .sl 3 (.int .i64) r23_ .shallow)]) rfl rfl ⟨⟨.inl rfl, .inl rfl, trivial⟩, ⟨⟨⟨rfl, rfl⟩, hne0⟩, trivial⟩, ⟨.inl rfl, trivial⟩, ⟨rfl, rfl⟩, trivial, ⟨rfl, rfl⟩, trivial⟩ ⟨.inr rfl, trivial⟩), he⟩
          · skip
            refine And.intro ?_ trivial
            refine And.intro ?_ trivial
            obtain ⟨r24_, hr, he⟩ := ok_bind he
            refine ⟨r24_, hr, ?_⟩
            have he := ok_rq he
            have hne0 := he.1
            have he := he.2
            have he := ok_some he
            exact ⟨rfl, _, _, (leads_ren [(900, 24900)] (l := [(5, .c (.bool true))]) (st' := [(0, .rc [.imm (.int .i64) o0_0, .imm (.pair (.int .i64) (.pair (.sl (.int .i64)) (.pair (.sl (.int .i64)) (.pair (.int .i64) (.sl (.sl (.int .i64))))))) o0_1]), (1, .rc [.own 900 true]), (2, .rc [.imm (.int .i64) o2]), (3, .sl 3 (.int .i64) cells .shallow), (4, .dead), (900, .sl 3 (.int .i64) r24_ .shallow)]) rfl rfl ⟨⟨.inl rfl, .inl rfl, trivial⟩, ⟨⟨⟨rfl, rfl⟩, hne0⟩, trivial⟩, ⟨.inl rfl, trivial⟩, ⟨rfl, rfl⟩, trivial, ⟨rfl, rfl⟩, trivial⟩ ⟨.inr rfl, trivial⟩), he⟩
      · skip
        refine And.intro ?_ (And.intro ?_ (trivial))
        · skip
          refine And.intro ?_ (And.intro ?_ (trivial))
          · skip
            refine And.intro ?_ trivial
            refine And.intro ?_ trivial
            obtain ⟨r25_, hr, he⟩ := ok_bind he
            refine ⟨r25_, hr, ?_⟩
            have he := ok_rq he
            have hne0 := he.1
            have he := he.2
            have he := ok_some he
            exact ⟨rfl, _, _, (leads_ren [(900, 24900)] (l := [(5, .c (.bool true))]) (st' := [(0, .rc [.imm (.int .i64) o0_0, .imm (.pair (.int .i64) (.pair (.sl (.int .i64)) (.pair (.sl (.int .i64)) (.pair (.int .i64) (.sl (.sl (.int .i64))))))) o0_1]), (1, .rc [.own 900 true]), (2, .rc [.imm (.int .i64) o2]), (3, .sl 3 (.int .i64) cells .shallow), (4, .dead), (900, .sl 3 (.int .i64) r25_ .shallow)]) rfl rfl ⟨⟨.inl rfl, .inl rfl, trivial⟩, ⟨⟨⟨rfl, rfl⟩, hne0⟩, trivial⟩, ⟨.inl rfl, trivial⟩, ⟨rfl, rfl⟩, trivial, ⟨rfl, rfl⟩, trivial⟩ ⟨.inr rfl, trivial⟩), he⟩
          · skip
            refine And.intro ?_ trivial
            refine And.intro ?_ trivial
            obtain ⟨r26_, hr, he⟩ := ok_bind he
            refine ⟨r26_, hr, ?_⟩
            have he := ok_rq he
            have hne0 := he.1
            have he := he.2
            have he := ok_some he
            exact ⟨rfl, _, _, (leads_ren [(900, 24900)] (l := [(5, .c (.bool true))]) (st' := [(0, .rc [.imm (.int .i64) o0_0, .imm (.pair (.int .i64) (.pair (.sl (.int .i64)) (.pair (.sl (.int .i64)) (.pair (.int .i64) (.sl (.sl (.int .i64))))))) o0_1]), (1, .rc [.own 900 true]), (2, .rc [.imm (.int .i64) o2]), (3, .sl 3 (.int .i64) cells .shallow), (4, .dead), (900, .sl 3 (.int .i64) r26_ .shallow)]) rfl rfl ⟨⟨.inl rfl, .inl rfl, trivial⟩, ⟨⟨⟨rfl, rfl⟩, hne0⟩, trivial⟩, ⟨.inl rfl, trivial⟩, ⟨rfl, rfl⟩, trivial, ⟨rfl, rfl⟩, trivial⟩ ⟨.inr rfl, trivial⟩), he⟩
        · skip
          refine And.intro ?_ trivial
          refine And.intro ?_ trivial
          refine And.intro ?_ trivial
          obtain ⟨r27_, hr, he⟩ := ok_bind he
          refine ⟨r27_, hr, ?_⟩
          have he := ok_rq he
          have hne0 := he.1
          have he := he.2
          have he := ok_some he
          exact ⟨rfl, _, _, (leads_ren [(900, 24900)] (l := [(5, .c (.bool true))]) (st' := [(0, .rc [.imm (.int .i64) o0_0, .imm (.pair (.int .i64) (.pair (.sl (.int .i64)) (.pair (.sl (.int .i64)) (.pair (.int .i64) (.sl (.sl (.int .i64))))))) o0_1]), (1, .rc [.own 900 true]), (2, .rc [.imm (.int .i64) o2]), (3, .sl 3 (.int .i64) cells .shallow), (4, .dead), (900, .sl 3 (.int .i64) r27_ .shallow)]) rfl rfl ⟨⟨.inl rfl, .inl rfl, trivial⟩, ⟨⟨⟨rfl, rfl⟩, hne0⟩, trivial⟩, ⟨.inl rfl, trivial⟩, ⟨rfl, rfl⟩, trivial, ⟨rfl, rfl⟩, trivial⟩ ⟨.inr rfl, trivial⟩), he⟩
      · skip
        refine And.intro ?_ (And.intro ?_ (trivial))
        · skip
          refine And.intro ?_ (And.intro ?_ (trivial))
          · skip
            refine And.intro ?_ trivial
            refine And.intro ?_ trivial
            obtain ⟨r28_, hr, he⟩ := ok_bind he
            refine ⟨r28_, hr, ?_⟩
            have he := ok_rq he
            have hne0 := he.1
            have he := he.2
            have he := ok_some he
            exact ⟨rfl, _, _, (leads_ren [(900, 24900)] (l := [(5, .c (.bool true))]) (st' := [(0, .rc [.imm (.int .i64) o0_0, .imm (.pair (.int .i64) (.pair (.sl (.int .i64)) (.pair (.sl (.int .i64)) (.pair (.int .i64) (.sl (.sl (.int .i64))))))) o0_1]), (1, .rc [.own 900 true]), (2, .rc [.imm (.int .i64) o2]), (3, .sl 3 (.int .i64) cells .shallow), (4, .dead), (900, .sl 3 (.int .i64) r28_ .shallow)]) rfl rfl ⟨⟨.inl rfl, .inl rfl, trivial⟩, ⟨⟨⟨rfl, rfl⟩, hne0⟩, trivial⟩, ⟨.inl rfl, trivial⟩, ⟨rfl, rfl⟩, trivial, ⟨rfl, rfl⟩, trivial⟩ ⟨.inr rfl, trivial⟩), he⟩
          · skip
            refine And.intro ?_ trivial
            refine And.intro ?_ trivial
            obtain ⟨r29_, hr, he⟩ := ok_bind he
            refine ⟨r29_, hr, ?_⟩
            have he := ok_rq he
            have hne0 := he.1
            have he := he.2
            have he := ok_some he
            exact ⟨rfl, _, _, (leads_ren [(900, 24900)] (l := [(5, .c (.bool true))]) (st' := [(0, .rc [.imm (.int .i64) o0_0, .imm (.pair (.int .i64) (.pair (.sl (.int .i64)) (.pair (.sl (.int .i64)) (.pair (.int .i64) (.sl (.sl (.int .i64))))))) o0_1]), (1, .rc [.own 900 true]), (2, .rc [.imm (.int .i64) o2]), (3, .sl 3 (.int .i64) cells .shallow), (4, .dead), (900, .sl 3 (.int .i64) r29_ .shallow)]) rfl rfl ⟨⟨.inl rfl, .inl rfl, trivial⟩, ⟨⟨⟨rfl, rfl⟩, hne0⟩, trivial⟩, ⟨.inl rfl, trivial⟩, ⟨rfl, rfl⟩, trivial, ⟨rfl, rfl⟩, trivial⟩ ⟨.inr rfl, trivial⟩), he⟩
        · skip
          refine And.intro ?_ trivial
          refine And.intro ?_ trivial
          refine And.intro ?_ trivial
          obtain ⟨r30_, hr, he⟩ := ok_bind he
          refine ⟨r30_, hr, ?_⟩
          have he := ok_rq he
          have hne0 := he.1
          have he := he.2
          have he := ok_some he
          exact ⟨rfl, _, _, (leads_ren [(900, 24900)] (l := [(5, .c (.bool true))]) (st' := [(0, .rc [.imm (.int .i64) o0_0, .imm (.pair (.int .i64) (.pair (.sl (.int .i64)) (.pair (.sl (.int .i64)) (.pair (.int .i64) (.sl (.sl (.int .i64))))))) o0_1]), (1, .rc [.own 900 true]), (2, .rc [.imm (.int .i64) o2]), (3, .sl 3 (.int .i64) cells .shallow), (4, .dead), (900, .sl 3 (.int .i64) r30_ .shallow)]) rfl rfl ⟨⟨.inl rfl, .inl rfl, trivial⟩, ⟨⟨⟨rfl, rfl⟩, hne0⟩, trivial⟩, ⟨.inl rfl, trivial⟩, ⟨rfl, rfl⟩, trivial, ⟨rfl, rfl⟩, trivial⟩ ⟨.inr rfl, trivial⟩), he⟩
  · have he := ok_f he hb
    refine And.intro ?_ (And.intro ?_ (And.intro ?_ (trivial)))
    · skip
      refine And.intro ?_ (And.intro ?_ (And.intro ?_ (trivial)))
      · skip
        refine And.intro ?_ (And.intro ?_ (trivial))
        · skip
          refine And.intro ?_ trivial
          refine And.intro ?_ trivial
          have he := ok_some he
          exact ⟨rfl, _, _, (leads_ren [(900, 4)] (l := [(5, .c (.bool true))]) (st' := [(0, .rc [.imm (.int .i64) o0_0, .imm (.pair (.int .i64) (.pair (.sl (.int .i64)) (.pair (.sl (.int .i64)) (.pair (.int .i64) (.sl (.sl (.int .i64))))))) o0_1]), (1, .rc [.own 900 true]), (2, .rc [.imm (.int .i64) o2]), (3, .sl 3 (.int .i64) cells .shallow), (4, .dead), (900, .sl 3 (.int .i64) o4 .shallow)]) rfl rfl ⟨⟨.inl rfl, .inl rfl, trivial⟩, ⟨⟨⟨rfl, rfl⟩, trivial⟩, trivial⟩, ⟨.inl rfl, trivial⟩, ⟨rfl, rfl⟩, trivial, ⟨rfl, rfl⟩, trivial⟩ ⟨.inr rfl, trivial⟩), he⟩
        · skip
          refine And.intro ?_ trivial
          refine And.intro ?_ trivial
          have he := ok_some he
          exact ⟨rfl, _, _, (leads_ren [(900, 4)] (l := [(5, .c (.bool true))]) (st' := [(0, .rc [.imm (.int .i64) o0_0, .imm (.pair (.int .i64) (.pair (.sl (.int .i64)) (.pair (.sl (.int .i64)) (.pair (.int .i64) (.sl (.sl (.int .i64))))))) o0_1]), (1, .rc [.own 900 true]), (2, .rc [.imm (.int .i64) o2]), (3, .sl 3 (.int .i64) cells .shallow), (4, .dead), (900, .sl 3 (.int .i64) o4 .shallow)]) rfl rfl ⟨⟨.inl rfl, .inl rfl, trivial⟩, ⟨⟨⟨rfl, rfl⟩, trivial⟩, trivial⟩, ⟨.inl rfl, trivial⟩, ⟨rfl, rfl⟩, trivial, ⟨rfl, rfl⟩, trivial⟩ ⟨.inr rfl, trivial⟩), he⟩
      · skip
        refine And.intro ?_ (And.intro ?_ (trivial))
        · skip
          refine And.intro ?_ trivial
          refine And.intro ?_ trivial
          have he := ok_some he
          exact ⟨rfl, _, _, (leads_ren [(900, 4)] (l := [(5, .c (.bool true))]) (st' := [(0, .rc [.imm (.int .i64) o0_0, .imm (.pair (.int .i64) (.pair (.sl (.int .i64)) (.pair (.sl (.int .i64)) (.pair (.int .i64) (.sl (.sl (.int .i64))))))) o0_1]), (1, .rc [.own 900 true]), (2, .rc [.imm (.int .i64) o2]), (3, .sl 3 (.int .i64) cells .shallow), (4, .dead), (900, .sl 3 (.int .i64) o4 .shallow)]) rfl rfl ⟨⟨.inl rfl, .inl rfl, trivial⟩, ⟨⟨⟨rfl, rfl⟩, trivial⟩, trivial⟩, ⟨.inl rfl, trivial⟩, ⟨rfl, rfl⟩, trivial, ⟨rfl, rfl⟩, trivial⟩ ⟨.inr rfl, trivial⟩), he⟩
        · skip
          refine And.intro ?_ trivial
          refine And.intro ?_ trivial
          have he := ok_some he
          exact ⟨rfl, _, _, (leads_ren [(900, 4)] (l := [(5, .c (.bool true))]) (st' := [(0, .rc [.imm (.int .i64) o0_0, .imm (.pair (.int .i64) (.pair (.sl (.int .i64)) (.pair (.sl (.int .i64)) (.pair (.int .i64) (.sl (.sl (.int .i64))))))) o0_1]), (1, .rc [.own 900 true]), (2, .rc [.imm (.int .i64) o2]), (3, .sl 3 (.int .i64) cells .shallow), (4, .dead), (900, .sl 3 (.int .i64) o4 .shallow)]) rfl rfl ⟨⟨.inl rfl, .inl rfl, trivial⟩, ⟨⟨⟨rfl, rfl⟩, trivial⟩, trivial⟩, ⟨.inl rfl, trivial⟩, ⟨rfl, rfl⟩, trivial, ⟨rfl, rfl⟩, trivial⟩ ⟨.inr rfl, trivial⟩), he⟩
      · skip
        refine And.intro ?_ (And.intro ?_ (trivial))
        · skip
          refine And.intro ?_ trivial
          refine And.intro ?_ trivial
          have he := ok_some he
          exact ⟨rfl, _, _, (leads_ren [(900, 4)] (l := [(5, .c (.bool true))]) (st' := [(0, .rc [.imm (.int .i64) o0_0, .imm (.pair (.int .i64) (.pair (.sl (.int .i64)) (.pair (.sl (.int .i64)) (.pair (.int .i64) (.sl (.sl (.int .i64))))))) o0_1]), (1, .rc [.own 900 true]), (2, .rc [.imm (.int .i64) o2]), (3, .sl 3 (.int .i64) cells .shallow), (4, .dead), (900, .sl 3 (.int .i64) o4 .shallow)]) rfl rfl ⟨⟨.inl rfl, .inl rfl, trivial⟩, ⟨⟨⟨rfl, rfl⟩, trivial⟩, trivial⟩, ⟨.inl rfl, trivial⟩, ⟨rfl, rfl⟩, trivial, ⟨rfl, rfl⟩, trivial⟩ ⟨.inr rfl, trivial⟩), he⟩
        · skip
          refine And.intro ?_ trivial
          refine And.intro ?_ trivial
          have he := ok_some he
          exact ⟨rfl, _, _, (leads_ren [(900, 4)] (l := [(5, .c (.bool true))]) (st' := [(0, .rc [.imm (.int .i64) o0_0, .imm (.pair (.int .i64) (.pair (.sl (.int .i64)) (.pair (.sl (.int .i64)) (.pair (.int .i64) (.sl (.sl (.int .i64))))))) o0_1]), (1, .rc [.own 900 true]), (2, .rc [.imm (.int .i64) o2]), (3, .sl 3 (.int .i64) cells .shallow), (4, .dead), (900, .sl 3 (.int .i64) o4 .shallow)]) rfl rfl ⟨⟨.inl rfl, .inl rfl, trivial⟩, ⟨⟨⟨rfl, rfl⟩, trivial⟩, trivial⟩, ⟨.inl rfl, trivial⟩, ⟨rfl, rfl⟩, trivial, ⟨rfl, rfl⟩, trivial⟩ ⟨.inr rfl, trivial⟩), he⟩
    · skip
      refine And.intro ?_ (And.intro ?_ (trivial))
      · skip
        refine And.intro ?_ (And.intro ?_ (trivial))
        · skip
          refine And.intro ?_ trivial
          refine And.intro ?_ trivial
          have he := ok_some he
          exact ⟨rfl, _, _, (leads_ren [(900, 4)] (l := [(5, .c (.bool true))]) (st' := [(0, .rc [.imm (.int .i64) o0_0, .imm (.pair (.int .i64) (.pair (.sl (.int .i64)) (.pair (.sl (.int .i64)) (.pair (.int .i64) (.sl (.sl (.int .i64))))))) o0_1]), (1, .rc [.own 900 true]), (2, .rc [.imm (.int .i64) o2]), (3, .sl 3 (.int .i64) cells .shallow), (4, .dead), (900, .sl 3 (.int .i64) o4 .shallow)]) rfl rfl ⟨⟨.inl rfl, .inl rfl, trivial⟩, ⟨⟨⟨rfl, rfl⟩, trivial⟩, trivial⟩, ⟨.inl rfl, trivial⟩, ⟨rfl, rfl⟩, trivial, ⟨rfl, rfl⟩, trivial⟩ ⟨.inr rfl, trivial⟩), he⟩
        · skip
          refine And.intro ?_ trivial
          refine And.intro ?_ trivial
          have he := ok_some he
          exact ⟨rfl, _, _, (leads_ren [(900, 4)] (l := [(5, .c (.bool true))]) (st' := [(0, .rc [.imm (.int .i64) o0_0, .imm (.pair (.int .i64) (.pair (.sl (.int .i64)) (.pair (.sl (.int .i64)) (.pair (.int .i64) (.sl (.sl (.int .i64))))))) o0_1]), (1, .rc [.own 900 true]), (2, .rc [.imm (.int .i64) o2]), (3, .sl 3 (.int .i64) cells .shallow), (4, .dead), (900, .sl 3 (.int .i64) o4 .shallow)]) rfl rfl ⟨⟨.inl rfl, .inl rfl, trivial⟩, ⟨⟨⟨rfl, rfl⟩, trivial⟩, trivial⟩, ⟨.inl rfl, trivial⟩, ⟨rfl, rfl⟩, trivial, ⟨rfl, rfl⟩, trivial⟩ ⟨.inr rfl, trivial⟩), he⟩
      · skip
        refine And.intro ?_ trivial
        refine And.intro ?_ trivial
        refine And.intro ?_ trivial
        have he := ok_some he
        exact ⟨rfl, _, _, (leads_ren [(900, 4)] (l := [(5, .c (.bool true))]) (st' := [(0, .rc [.imm (.int .i64) o0_0, .imm (.pair (.int .i64) (.pair (.sl (.int .i64)) (.pair (.sl (.int .i64)) (.pair (.int .i64) (.sl (.sl (.int .i64))))))) o0_1]), (1, .rc [.own 900 true]), (2, .rc [.imm (.int .i64) o2]), (3, .sl 3 (.int .i64) cells .shallow), (4, .dead), (900, .sl 3 (.int .i64) o4 .shallow)]) rfl rfl ⟨⟨.inl rfl, .inl rfl, trivial⟩, ⟨⟨⟨rfl, rfl⟩, trivial⟩, trivial⟩, ⟨.inl rfl, trivial⟩, ⟨rfl, rfl⟩, trivial, ⟨rfl, rfl⟩, trivial⟩ ⟨.inr rfl, trivial⟩), he⟩
    · skip
      refine And.intro ?_ (And.intro ?_ (trivial))
      · skip
        refine And.intro ?_ (And.intro ?_ (trivial))
        · skip
          refine And.intro ?_ trivial
          refine And.intro ?_ trivial
          have he := ok_some he
          exact ⟨rfl, _, _, (leads_ren [(900, 4)] (l := [(5, .c (.bool true))]) (st' := [(0, .rc [.imm (.int .i64) o0_0, .imm (.pair (.int .i64) (.pair (.sl (.int .i64)) (.pair (.sl (.int .i64)) (.pair (.int .i64) (.sl (.sl (.int .i64))))))) o0_1]), (1, .rc [.own 900 true]), (2, .rc [.imm (.int .i64) o2]), (3, .sl 3 (.int .i64) cells .shallow), (4, .dead), (900, .sl 3 (.int .i64) o4 .shallow)]) rfl rfl ⟨⟨.inl rfl, .inl rfl, trivial⟩, ⟨⟨⟨rfl, rfl⟩, trivial⟩, trivial⟩, ⟨.inl rfl, trivial⟩, ⟨rfl, rfl⟩, trivial, ⟨rfl, rfl⟩, trivial⟩ ⟨.inr rfl, trivial⟩), he⟩
        · skip
          refine And.intro ?_ trivial
          refine And.intro ?_ trivial
          have he := ok_some he
          exact ⟨rfl, _, _, (leads_ren [(900, 4)] (l := [(5, .c (.bool true))]) (st' := [(0, .rc [.imm (.int .i64) o0_0, .imm (.pair (.int .i64) (.pair (.sl (.int .i64)) (.pair (.sl (.int .i64)) (.pair (.int .i64) (.sl (.sl (.int .i64))))))) o0_1]), (1, .rc [.own 900 true]), (2, .rc [.imm (.int .i64) o2]), (3, .sl 3 (.int .i64) cells .shallow), (4, .dead), (900, .sl 3 (.int .i64) o4 .shallow)]) rfl rfl ⟨⟨.inl rfl, .inl rfl, trivial⟩, ⟨⟨⟨rfl, rfl⟩, trivial⟩, trivial⟩, ⟨.inl rfl, trivial⟩, ⟨rfl, rfl⟩, trivial, ⟨rfl, rfl⟩, trivial⟩ ⟨.inr rfl, trivial⟩), he⟩
      · skip
        refine And.intro ?_ trivial
        refine And.intro ?_ trivial
        refine And.intro ?_ trivial
        have he := ok_some he
        exact ⟨rfl, _, _, (leads_ren [(900, 4)] (l := [(5, .c (.bool true))]) (st' := [(0, .rc [.imm (.int .i64) o0_0, .imm (.pair (.int .i64) (.pair (.sl (.int .i64)) (.pair (.sl (.int .i64)) (.pair (.int .i64) (.sl (.sl (.int .i64))))))) o0_1]), (1, .rc [.own 900 true]), (2, .rc [.imm (.int .i64) o2]), (3, .sl 3 (.int .i64) cells .shallow), (4, .dead), (900, .sl 3 (.int .i64) o4 .shallow)]) rfl rfl ⟨⟨.inl rfl, .inl rfl, trivial⟩, ⟨⟨⟨rfl, rfl⟩, trivial⟩, trivial⟩, ⟨.inl rfl, trivial⟩, ⟨rfl, rfl⟩, trivial, ⟨rfl, rfl⟩, trivial⟩ ⟨.inr rfl, trivial⟩), he⟩

noncomputable def c_impl_each__impl_MinimizeModel_1__rR0r : Con := fun args st => match args, st with
  | [.c (.imm (.int .i64) sizes), .c (.imm (.int .i64) from_), .c (.fn 149 [0, 1, 2])], [(0, .rc [.imm (.int .i64) o0_0, .imm (.pair (.int .i64) (.pair (.sl (.int .i64)) (.pair (.sl (.int .i64)) (.pair (.int .i64) (.sl (.sl (.int .i64))))))) o0_1]), (1, .rc [.nil]), (2, .rc [.imm (.int .i64) o2])] => .opt ((List Int)) (impl_each__impl_MinimizeModel_1__rR0r sizes from_ (o0_0, o0_1) o2) (fun r => .ret (.tup []) [(0, .rc [.imm (.int .i64) o0_0, .imm (.pair (.int .i64) (.pair (.sl (.int .i64)) (.pair (.sl (.int .i64)) (.pair (.int .i64) (.sl (.sl (.int .i64))))))) o0_1]), (1, .rc [.own 900 true]), (2, .rc [.imm (.int .i64) o2]), (900, .sl 3 (.int .i64) r .shallow)])
  | _, _ => .fail

noncomputable def C_impl_each__impl_MinimizeModel_1__rR0r : Cfg := { y := tys, n := 42, h := 3, tab := [(149, c_impl_MinimizeModel_1__rRNrss), (150, c_slices_Clone_int)], cut := [6], hand := [(149, [0])], good := [], deep := [], sched := [] }

theorem t_impl_each__impl_MinimizeModel_1__rR0r : TabOk Try.prog C_impl_each__impl_MinimizeModel_1__rR0r := by
  refine tabOk_of ?_
  simp only [C_impl_each__impl_MinimizeModel_1__rR0r, List.forall_mem_cons]
  exact ⟨k_impl_MinimizeModel_1__rRNrss, k_slices_Clone_int, fun p h => by cases h⟩

theorem k_impl_each__impl_MinimizeModel_1__rR0r : Entry Try.prog 134 c_impl_each__impl_MinimizeModel_1__rR0r := by
  refine entry_by (C := C_impl_each__impl_MinimizeModel_1__rR0r) mixed tys_ok t_impl_each__impl_MinimizeModel_1__rR0r (fn := Try.f134) (c := bd Try.f134) (by kernel_rfl) (by kernel_rfl) (by kernel_rfl) (by kernel_rfl) ?_
  intro args st k he
  unfold c_impl_each__impl_MinimizeModel_1__rR0r at he
  split at he
  rotate_left
  · exact he.elim
  rename_i sizes from_ o0_0 o0_1 o2
  have he : Ok (impl_each__impl_MinimizeModel_1__rR0r sizes from_ (o0_0, o0_1) o2) (fun r => k (.tup []) [(0, .rc [.imm (.int .i64) o0_0, .imm (.pair (.int .i64) (.pair (.sl (.int .i64)) (.pair (.sl (.int .i64)) (.pair (.int .i64) (.sl (.sl (.int .i64))))))) o0_1]), (1, .rc [.own 900 true]), (2, .rc [.imm (.int .i64) o2]), (900, .sl 3 (.int .i64) r .shallow)]) := he
  refine ⟨rfl, rfl, ?_⟩
  obtain ⟨r1_, hr, he⟩ := ok_bind he
  refine ⟨r1_, hr, ?_⟩
  refine loop_model mixed tys_ok t_impl_each__impl_MinimizeModel_1__rR0r (S := (List Int) × (List Int)) (I := (fun (cells2, cap) => (envOf [(0, .c (.imm (.int .i64) sizes)), (2, .c (.fn 149 [0, 1, 2])), (6, .c (.own 10000000 false))], [(0, .rc [.imm (.int .i64) (o0_0, o0_1).1, .imm (.pair (.int .i64) (.pair (.sl (.int .i64)) (.pair (.sl (.int .i64)) (.pair (.int .i64) (.sl (.sl (.int .i64))))))) (o0_0, o0_1).2]), (1, .rc [.own 10000001 true]), (2, .rc [.imm (.int .i64) o2]), (10000000, .sl 3 (.int .i64) cells2 .shallow), (10000001, .sl 3 (.int .i64) cap .shallow)]))) (f := impl_each__impl_MinimizeModel_1__rR0r_l1 sizes (o0_0, o0_1) o2) (K := (fun r => k (.tup []) [(0, .rc [.imm (.int .i64) o0_0, .imm (.pair (.int .i64) (.pair (.sl (.int .i64)) (.pair (.sl (.int .i64)) (.pair (.int .i64) (.sl (.sl (.int .i64))))))) o0_1]), (1, .rc [.own 900 true]), (2, .rc [.imm (.int .i64) o2]), (900, .sl 3 (.int .i64) r .shallow)])) he (leads_ren [(10000000, 10900)] (l := [(0, .c (.imm (.int .i64) sizes)), (2, .c (.fn 149 [0, 1, 2])), (6, .c (.own 10000000 false))]) (st' := [(0, .rc [.imm (.int .i64) (o0_0, o0_1).1, .imm (.pair (.int .i64) (.pair (.sl (.int .i64)) (.pair (.sl (.int .i64)) (.pair (.int .i64) (.sl (.sl (.int .i64))))))) (o0_0, o0_1).2]), (1, .rc [.own 10000001 true]), (2, .rc [.imm (.int .i64) o2]), (10000000, .sl 3 (.int .i64) r1_ .shallow), (10000001, .sl 3 (.int .i64) ([] : List Int) .shallow)]) rfl rfl ⟨⟨.inl rfl, .inl rfl, trivial⟩, ⟨⟨rfl, trivial⟩, trivial⟩, ⟨.inl rfl, trivial⟩, ⟨rfl, rfl⟩, trivial, trivial⟩ ⟨.inl rfl, ⟨rfl, ⟨⟨rfl, rfl⟩, ⟨⟨rfl, rfl⟩, ⟨⟨rfl, rfl⟩, trivial⟩⟩⟩⟩, ⟨⟨rfl, rfl⟩, trivial⟩, trivial⟩) ?_
  rintro ⟨cells2, cap⟩ J1 he
  obtain ⟨r3_, hr, he⟩ := ok_bind he
  refine ⟨r3_, hr, ?_⟩
  refine And.intro (fun hb => ?_) (fun hb => ?_)
  · have he := ok_t he hb
    have he := ok_rq he
    refine And.intro he.1 ?_
    have he := he.2
    refine seq_model mixed tys_ok t_impl_each__impl_MinimizeModel_1__rR0r (S := Int × (List Int)) (I := (fun (i3, cells4) => (envOf [(0, .c (.imm (.int .i64) sizes)), (2, .c (.fn 149 [0, 1, 2])), (6, .c (.own 10004000 false)), (7, .c (.int .i64 i3))], [(0, .rc [.imm (.int .i64) (o0_0, o0_1).1, .imm (.pair (.int .i64) (.pair (.sl (.int .i64)) (.pair (.sl (.int .i64)) (.pair (.int .i64) (.sl (.sl (.int .i64))))))) (o0_0, o0_1).2]), (1, .rc [.own 10004001 true]), (2, .rc [.imm (.int .i64) o2]), (10004000, .sl 3 (.int .i64) cells4 .shallow), (10004001, .sl 3 (.int .i64) r3_.2 .shallow)]))) (B := fun s => Ok (impl_each__impl_MinimizeModel_1__rR0r_j1 r3_ s) (LK J1 (fun r => k (.tup []) [(0, .rc [.imm (.int .i64) o0_0, .imm (.pair (.int .i64) (.pair (.sl (.int .i64)) (.pair (.sl (.int .i64)) (.pair (.int .i64) (.sl (.sl (.int .i64))))))) o0_1]), (1, .rc [.own 900 true]), (2, .rc [.imm (.int .i64) o2]), (900, .sl 3 (.int .i64) r .shallow)]))) ?_ ?_
    · rintro ⟨i3, cells4⟩ he
      refine And.intro (fun hb => ?_) (fun hb => ?_)
      · have he := ok_t he hb
        have he := ok_some he
        exact ⟨rfl, _, _, (leads_ren [(900, 10004001)] (l := []) (st' := [(0, .rc [.imm (.int .i64) o0_0, .imm (.pair (.int .i64) (.pair (.sl (.int .i64)) (.pair (.sl (.int .i64)) (.pair (.int .i64) (.sl (.sl (.int .i64))))))) o0_1]), (1, .rc [.own 900 true]), (2, .rc [.imm (.int .i64) o2]), (900, .sl 3 (.int .i64) r3_.2 .shallow)]) rfl rfl ⟨⟨.inl rfl, .inl rfl, trivial⟩, ⟨⟨⟨rfl, rfl⟩, trivial⟩, trivial⟩, ⟨.inl rfl, trivial⟩, ⟨rfl, rfl⟩, trivial⟩ trivial), he⟩
      · have he := ok_f he hb
        have he := ok_rq he
        refine And.intro he.1 ?_
        have he := he.2
        have he := ok_rq he
        refine And.intro he.1 ?_
        have he := he.2
        have he := ok_rq he
        refine And.intro he.1 ?_
        have he := he.2
        have he := ok_some he
        exact ⟨((cells4.set i3.toNat ((cells4.getD i3.toNat 0) + (1:Int))), r3_.2), he, (leads_ren [(10000000, 10004000), (10000001, 10004001)] (l := [(0, .c (.imm (.int .i64) sizes)), (2, .c (.fn 149 [0, 1, 2])), (6, .c (.own 10000000 false))]) (st' := [(0, .rc [.imm (.int .i64) (o0_0, o0_1).1, .imm (.pair (.int .i64) (.pair (.sl (.int .i64)) (.pair (.sl (.int .i64)) (.pair (.int .i64) (.sl (.sl (.int .i64))))))) (o0_0, o0_1).2]), (1, .rc [.own 10000001 true]), (2, .rc [.imm (.int .i64) o2]), (10000000, .sl 3 (.int .i64) (cells4.set i3.toNat ((cells4.getD i3.toNat 0) + (1:Int))) .shallow), (10000001, .sl 3 (.int .i64) r3_.2 .shallow)]) rfl rfl ⟨⟨.inl rfl, .inl rfl, trivial⟩, ⟨⟨⟨rfl, rfl⟩, trivial⟩, trivial⟩, ⟨.inl rfl, trivial⟩, ⟨rfl, rfl⟩, ⟨rfl, rfl⟩, trivial⟩ ⟨.inl rfl, ⟨rfl, ⟨⟨rfl, rfl⟩, ⟨⟨rfl, rfl⟩, ⟨⟨rfl, rfl⟩, trivial⟩⟩⟩⟩, ⟨⟨rfl, rfl⟩, trivial⟩, trivial⟩)⟩
    · skip
      refine loop_model mixed tys_ok t_impl_each__impl_MinimizeModel_1__rR0r (S := Int × (List Int)) (I := (fun (i2, cells3) => (envOf [(0, .c (.imm (.int .i64) sizes)), (2, .c (.fn 149 [0, 1, 2])), (6, .c (.own 10003000 false)), (7, .c (.int .i64 i2))], [(0, .rc [.imm (.int .i64) (o0_0, o0_1).1, .imm (.pair (.int .i64) (.pair (.sl (.int .i64)) (.pair (.sl (.int .i64)) (.pair (.int .i64) (.sl (.sl (.int .i64))))))) (o0_0, o0_1).2]), (1, .rc [.own 10003001 true]), (2, .rc [.imm (.int .i64) o2]), (10003000, .sl 3 (.int .i64) cells3 .shallow), (10003001, .sl 3 (.int .i64) r3_.2 .shallow)]))) (f := impl_each__impl_MinimizeModel_1__rR0r_l2 sizes r3_) (K := (LK J1 (fun r => k (.tup []) [(0, .rc [.imm (.int .i64) o0_0, .imm (.pair (.int .i64) (.pair (.sl (.int .i64)) (.pair (.sl (.int .i64)) (.pair (.int .i64) (.sl (.sl (.int .i64))))))) o0_1]), (1, .rc [.own 900 true]), (2, .rc [.imm (.int .i64) o2]), (900, .sl 3 (.int .i64) r .shallow)]))) he (leads_ren [(10003000, 10000000), (10003001, 13900)] (l := [(0, .c (.imm (.int .i64) sizes)), (2, .c (.fn 149 [0, 1, 2])), (6, .c (.own 10003000 false)), (7, .c (.int .i64 ((cells2.length:Int) - (1:Int))))]) (st' := [(0, .rc [.imm (.int .i64) (o0_0, o0_1).1, .imm (.pair (.int .i64) (.pair (.sl (.int .i64)) (.pair (.sl (.int .i64)) (.pair (.int .i64) (.sl (.sl (.int .i64))))))) (o0_0, o0_1).2]), (1, .rc [.own 10003001 true]), (2, .rc [.imm (.int .i64) o2]), (10003000, .sl 3 (.int .i64) cells2 .shallow), (10003001, .sl 3 (.int .i64) r3_.2 .shallow)]) rfl rfl ⟨⟨.inl rfl, .inl rfl, trivial⟩, ⟨⟨⟨rfl, rfl⟩, trivial⟩, trivial⟩, ⟨.inl rfl, trivial⟩, ⟨rfl, rfl⟩, ⟨rfl, rfl⟩, trivial⟩ ⟨.inl rfl, ⟨rfl, ⟨⟨rfl, rfl⟩, ⟨⟨rfl, rfl⟩, ⟨⟨rfl, rfl⟩, trivial⟩⟩⟩⟩, ⟨⟨rfl, rfl⟩, trivial⟩, rfl, trivial⟩) ?_
      rintro ⟨i2, cells3⟩ J2 he
      refine And.intro (by kernel_rfl) ?_
      refine And.intro (fun hb => ?_) (fun hb => ?_)
      · have he := ok_t he hb
        have he := ok_rq he
        refine And.intro he.1 ?_
        have he := he.2
        have he := ok_rq he
        refine And.intro he.1 ?_
        have he := he.2
        refine And.intro (fun hb => ?_) (fun hb => ?_)
        · have he := ok_t he hb
          have he := ok_rq he
          refine And.intro he.1 ?_
          have he := he.2
          have he := ok_rq he
          refine And.intro he.1 ?_
          have he := he.2
          have he := ok_some he
          exact ⟨((i2 - (1:Int)), (cells3.set i2.toNat (0:Int))), he, (leads_ren [] (l := [(0, .c (.imm (.int .i64) sizes)), (2, .c (.fn 149 [0, 1, 2])), (6, .c (.own 10003000 false)), (7, .c (.int .i64 (i2 - (1:Int))))]) (st' := [(0, .rc [.imm (.int .i64) (o0_0, o0_1).1, .imm (.pair (.int .i64) (.pair (.sl (.int .i64)) (.pair (.sl (.int .i64)) (.pair (.int .i64) (.sl (.sl (.int .i64))))))) (o0_0, o0_1).2]), (1, .rc [.own 10003001 true]), (2, .rc [.imm (.int .i64) o2]), (10003000, .sl 3 (.int .i64) (cells3.set i2.toNat (0:Int)) .shallow), (10003001, .sl 3 (.int .i64) r3_.2 .shallow)]) rfl rfl ⟨⟨.inl rfl, .inl rfl, trivial⟩, ⟨⟨⟨rfl, rfl⟩, trivial⟩, trivial⟩, ⟨.inl rfl, trivial⟩, ⟨rfl, rfl⟩, ⟨rfl, rfl⟩, trivial⟩ ⟨.inl rfl, ⟨rfl, ⟨⟨rfl, rfl⟩, ⟨⟨rfl, rfl⟩, ⟨⟨rfl, rfl⟩, trivial⟩⟩⟩⟩, ⟨⟨rfl, rfl⟩, trivial⟩, rfl, trivial⟩)⟩
        · have he := ok_f he hb
          exact ⟨(i2, cells3), ok_up he, (leads_ren [(10004000, 10003000), (10004001, 10003001)] (l := [(0, .c (.imm (.int .i64) sizes)), (2, .c (.fn 149 [0, 1, 2])), (6, .c (.own 10004000 false)), (7, .c (.int .i64 i2))]) (st' := [(0, .rc [.imm (.int .i64) (o0_0, o0_1).1, .imm (.pair (.int .i64) (.pair (.sl (.int .i64)) (.pair (.sl (.int .i64)) (.pair (.int .i64) (.sl (.sl (.int .i64))))))) (o0_0, o0_1).2]), (1, .rc [.own 10004001 true]), (2, .rc [.imm (.int .i64) o2]), (10004000, .sl 3 (.int .i64) cells3 .shallow), (10004001, .sl 3 (.int .i64) r3_.2 .shallow)]) rfl rfl ⟨⟨.inl rfl, .inl rfl, trivial⟩, ⟨⟨⟨rfl, rfl⟩, trivial⟩, trivial⟩, ⟨.inl rfl, trivial⟩, ⟨rfl, rfl⟩, ⟨rfl, rfl⟩, trivial⟩ ⟨.inl rfl, ⟨rfl, ⟨⟨rfl, rfl⟩, ⟨⟨rfl, rfl⟩, ⟨⟨rfl, rfl⟩, trivial⟩⟩⟩⟩, ⟨⟨rfl, rfl⟩, trivial⟩, rfl, trivial⟩)⟩
      · have he := ok_f he hb
        exact ⟨(i2, cells3), ok_up he, (leads_ren [(10004000, 10003000), (10004001, 10003001)] (l := [(0, .c (.imm (.int .i64) sizes)), (2, .c (.fn 149 [0, 1, 2])), (6, .c (.own 10004000 false)), (7, .c (.int .i64 i2))]) (st' := [(0, .rc [.imm (.int .i64) (o0_0, o0_1).1, .imm (.pair (.int .i64) (.pair (.sl (.int .i64)) (.pair (.sl (.int .i64)) (.pair (.int .i64) (.sl (.sl (.int .i64))))))) (o0_0, o0_1).2]), (1, .rc [.own 10004001 true]), (2, .rc [.imm (.int .i64) o2]), (10004000, .sl 3 (.int .i64) cells3 .shallow), (10004001, .sl 3 (.int .i64) r3_.2 .shallow)]) rfl rfl ⟨⟨.inl rfl, .inl rfl, trivial⟩, ⟨⟨⟨rfl, rfl⟩, trivial⟩, trivial⟩, ⟨.inl rfl, trivial⟩, ⟨rfl, rfl⟩, ⟨rfl, rfl⟩, trivial⟩ ⟨.inl rfl, ⟨rfl, ⟨⟨rfl, rfl⟩, ⟨⟨rfl, rfl⟩, ⟨⟨rfl, rfl⟩, trivial⟩⟩⟩⟩, ⟨⟨rfl, rfl⟩, trivial⟩, rfl, trivial⟩)⟩
  · have he := ok_f he hb
    have he := ok_some he
    exact ⟨rfl, _, _, (leads_ren [(900, 13900)] (l := []) (st' := [(0, .rc [.imm (.int .i64) o0_0, .imm (.pair (.int .i64) (.pair (.sl (.int .i64)) (.pair (.sl (.int .i64)) (.pair (.int .i64) (.sl (.sl (.int .i64))))))) o0_1]), (1, .rc [.own 900 true]), (2, .rc [.imm (.int .i64) o2]), (900, .sl 3 (.int .i64) r3_.2 .shallow)]) rfl rfl ⟨⟨.inl rfl, .inl rfl, trivial⟩, ⟨⟨⟨rfl, rfl⟩, trivial⟩, trivial⟩, ⟨.inl rfl, trivial⟩, ⟨rfl, rfl⟩, trivial⟩ trivial), he⟩

noncomputable def c_impl_MinimizeModel : Con := fun args st => match args, st with
  | [.agg [.imm (.int .i64) m_0, .imm (.pair (.int .i64) (.pair (.sl (.int .i64)) (.pair (.sl (.int .i64)) (.pair (.int .i64) (.sl (.sl (.int .i64))))))) m_1], .c (.imm (.int .i64) coefs)], [] => .opt (Bool × (List Int)) (impl_MinimizeModel (m_0, m_1) coefs) (fun r => .ret (.tup [.c (.own 900 false), .c (.bool r.1)]) [(900, .sl 3 (.int .i64) r.2 .shallow)])
  | _, _ => .fail

noncomputable def C_impl_MinimizeModel : Cfg := { y := tys, n := 27, h := 0, tab := [(39, c_impl_ModelValid), (100, c_impl_isObjective), (134, c_impl_each__impl_MinimizeModel_1__rR0r)], cut := [5], hand := [], good := [], deep := [], sched := [(4, (.first 0 (.first 2 (.alt 1 (.alt 3 (.first 4 (.alt 5 (.alt 6 (.alt 7 .done .stop) .stop) (.alt 6 (.alt 5 (.alt 7 .done .stop) .stop) .stop))) (.alt 6 (.alt 3 (.first 4 (.alt 5 (.alt 7 .done .stop) .stop)) .stop) .stop)) (.alt 3 (.first 4 (.alt 1 (.alt 5 (.alt 6 (.alt 7 .done .stop) .stop) (.alt 6 (.alt 5 (.alt 7 .done .stop) .stop) .stop)) (.alt 5 (.alt 1 (.alt 6 (.alt 7 .done .stop) .stop) (.alt 6 (.alt 1 (.alt 7 .done .stop) .stop) .stop)) (.alt 6 (.alt 1 (.alt 5 (.alt 7 .done .stop) .stop) (.alt 5 (.alt 1 (.alt 7 .done .stop) .stop) .stop)) .stop)))) (.alt 6 (.alt 1 (.alt 3 (.first 4 (.alt 5 (.alt 7 .done .stop) .stop)) .stop) (.alt 3 (.first 4 (.alt 1 (.alt 5 (.alt 7 .done .stop) .stop) (.alt 5 (.alt 1 (.alt 7 .done .stop) .stop) .stop))) .stop)) .stop))))))] }

theorem t_impl_MinimizeModel : TabOk Try.prog C_impl_MinimizeModel := by
  refine tabOk_of ?_
  simp only [C_impl_MinimizeModel, List.forall_mem_cons]
  exact ⟨k_impl_ModelValid, k_impl_isObjective, k_impl_each__impl_MinimizeModel_1__rR0r, fun p h => by cases h⟩

theorem k_impl_MinimizeModel : Entry Try.prog 50 c_impl_MinimizeModel := by
  refine entry_by (C := C_impl_MinimizeModel) mixed tys_ok t_impl_MinimizeModel (fn := Try.f50) (c := bd Try.f50) (by kernel_rfl) (by kernel_rfl) (by kernel_rfl) (by kernel_rfl) ?_
  intro args st k he
  unfold c_impl_MinimizeModel at he
  split at he
  rotate_left
  · exact he.elim
  rename_i m_0 m_1 coefs
  have he : Ok (impl_MinimizeModel (m_0, m_1) coefs) (fun r => k (.tup [.c (.own 900 false), .c (.bool r.1)]) [(900, .sl 3 (.int .i64) r.2 .shallow)]) := he
  refine ⟨rfl, rfl, ?_⟩
  obtain ⟨r1_, hr, he⟩ := ok_bind he
  refine ⟨r1_, hr, ?_⟩
  refine And.intro (fun hb => ?_) (fun hb => ?_)
  · have he := ok_f he hb
    obtain ⟨r2_, hr, he⟩ := ok_bind he
    refine ⟨r2_, hr, ?_⟩
    refine And.intro (fun hb => ?_) (fun hb => ?_)
    · have he := ok_t he hb
      have he := ok_some he
      exact ⟨rfl, _, _, (leads_ren [] (l := [(4, .c (.own 900 false)), (5, .c (.bool false))]) (st' := [(900, .sl 3 (.int .i64) ([] : List Int) .shallow)]) rfl rfl ⟨trivial, trivial⟩ ⟨⟨rfl, trivial⟩, .inr rfl, trivial⟩), he⟩
    · have he := ok_f he hb
      refine seq_model mixed tys_ok t_impl_MinimizeModel (S := (List Int)) (I := (fun best => (envOf [(6, .c (.ptr 10000000 0))], [(10000000, .rc [.own 10000001 true]), (10000001, .sl 3 (.int .i64) best .shallow)]))) (B := fun s => Ok (impl_MinimizeModel_j1 s) (fun r => k (.tup [.c (.own 900 false), .c (.bool r.1)]) [(900, .sl 3 (.int .i64) r.2 .shallow)])) ?_ ?_
      · rintro best he
        refine And.intro (by kernel_rfl) ?_
        have he := ok_some he
        exact ⟨rfl, _, _, (leads_ren [(900, 10000001)] (l := [(4, .c (.own 900 false)), (5, .c (.bool (!best.isEmpty)))]) (st' := [(900, .sl 3 (.int .i64) best .shallow)]) rfl rfl ⟨⟨rfl, rfl⟩, trivial⟩ ⟨⟨⟨rfl, rfl⟩, trivial⟩, .inl rfl, trivial⟩), he⟩
      · skip
        refine And.intro (by kernel_rfl) ?_
        have he := ok_rq he
        have hq1 := he.1
        have he := he.2
        obtain ⟨r4_, hq2, he⟩ := ok_bind he
        refine And.intro ?_ (And.intro ?_ (And.intro ?_ (trivial)))
        · skip
          refine And.intro ?_ (And.intro ?_ (trivial))
          · skip
            refine And.intro ?_ (And.intro ?_ (trivial))
            · skip
              refine And.intro hq1 ?_
              refine And.intro ?_ trivial
              refine And.intro ?_ trivial
              refine ⟨r4_, hq2, ?_⟩
              exact ⟨r4_, he, (leads_ren [(10000000, 6), (10000001, 24900)] (l := [(6, .c (.ptr 10000000 0))]) (st' := [(10000000, .rc [.own 10000001 true]), (10000001, .sl 3 (.int .i64) r4_ .shallow)]) rfl rfl ⟨⟨⟨⟨rfl, rfl⟩, trivial⟩, trivial⟩, ⟨rfl, rfl⟩, trivial⟩ ⟨⟨⟨rfl, rfl⟩, rfl⟩, trivial⟩)⟩
            · skip
              refine And.intro ?_ trivial
              refine And.intro hq1 ?_
              refine And.intro ?_ trivial
              refine ⟨r4_, hq2, ?_⟩
              exact ⟨r4_, he, (leads_ren [(10000000, 6), (10000001, 24900)] (l := [(6, .c (.ptr 10000000 0))]) (st' := [(10000000, .rc [.own 10000001 true]), (10000001, .sl 3 (.int .i64) r4_ .shallow)]) rfl rfl ⟨⟨⟨⟨rfl, rfl⟩, trivial⟩, trivial⟩, ⟨rfl, rfl⟩, trivial⟩ ⟨⟨⟨rfl, rfl⟩, rfl⟩, trivial⟩)⟩
          · skip
            refine And.intro ?_ trivial
            refine And.intro ?_ trivial
            refine And.intro hq1 ?_
            refine And.intro ?_ trivial
            refine ⟨r4_, hq2, ?_⟩
            exact ⟨r4_, he, (leads_ren [(10000000, 6), (10000001, 24900)] (l := [(6, .c (.ptr 10000000 0))]) (st' := [(10000000, .rc [.own 10000001 true]), (10000001, .sl 3 (.int .i64) r4_ .shallow)]) rfl rfl ⟨⟨⟨⟨rfl, rfl⟩, trivial⟩, trivial⟩, ⟨rfl, rfl⟩, trivial⟩ ⟨⟨⟨rfl, rfl⟩, rfl⟩, trivial⟩)⟩
        · skip
          refine And.intro ?_ (And.intro ?_ (And.intro ?_ (trivial)))
          · skip
            refine And.intro ?_ (And.intro ?_ (trivial))
            · skip
              refine And.intro hq1 ?_
              refine And.intro ?_ trivial
              refine And.intro ?_ trivial
              refine ⟨r4_, hq2, ?_⟩
              exact ⟨r4_, he, (leads_ren [(10000000, 6), (10000001, 24900)] (l := [(6, .c (.ptr 10000000 0))]) (st' := [(10000000, .rc [.own 10000001 true]), (10000001, .sl 3 (.int .i64) r4_ .shallow)]) rfl rfl ⟨⟨⟨⟨rfl, rfl⟩, trivial⟩, trivial⟩, ⟨rfl, rfl⟩, trivial⟩ ⟨⟨⟨rfl, rfl⟩, rfl⟩, trivial⟩)⟩
            · skip
              refine And.intro ?_ trivial
              refine And.intro hq1 ?_
              refine And.intro ?_ trivial
              refine ⟨r4_, hq2, ?_⟩
              exact ⟨r4_, he, (leads_ren [(10000000, 6), (10000001, 24900)] (l := [(6, .c (.ptr 10000000 0))]) (st' := [(10000000, .rc [.own 10000001 true]), (10000001, .sl 3 (.int .i64) r4_ .shallow)]) rfl rfl ⟨⟨⟨⟨rfl, rfl⟩, trivial⟩, trivial⟩, ⟨rfl, rfl⟩, trivial⟩ ⟨⟨⟨rfl, rfl⟩, rfl⟩, trivial⟩)⟩
          · skip
            refine And.intro hq1 ?_
            refine And.intro ?_ (And.intro ?_ (trivial))
            · skip
              refine And.intro ?_ trivial
              refine And.intro ?_ trivial
              refine ⟨r4_, hq2, ?_⟩
              exact ⟨r4_, he, (leads_ren [(10000000, 6), (10000001, 24900)] (l := [(6, .c (.ptr 10000000 0))]) (st' := [(10000000, .rc [.own 10000001 true]), (10000001, .sl 3 (.int .i64) r4_ .shallow)]) rfl rfl ⟨⟨⟨⟨rfl, rfl⟩, trivial⟩, trivial⟩, ⟨rfl, rfl⟩, trivial⟩ ⟨⟨⟨rfl, rfl⟩, rfl⟩, trivial⟩)⟩
            · skip
              refine And.intro ?_ trivial
              refine And.intro ?_ trivial
              refine ⟨r4_, hq2, ?_⟩
              exact ⟨r4_, he, (leads_ren [(10000000, 6), (10000001, 24900)] (l := [(6, .c (.ptr 10000000 0))]) (st' := [(10000000, .rc [.own 10000001 true]), (10000001, .sl 3 (.int .i64) r4_ .shallow)]) rfl rfl ⟨⟨⟨⟨rfl, rfl⟩, trivial⟩, trivial⟩, ⟨rfl, rfl⟩, trivial⟩ ⟨⟨⟨rfl, rfl⟩, rfl⟩, trivial⟩)⟩
          · skip
            refine And.intro ?_ (And.intro ?_ (trivial))
            · skip
              refine And.intro ?_ trivial
              refine And.intro hq1 ?_
              refine And.intro ?_ trivial
              refine ⟨r4_, hq2, ?_⟩
              exact ⟨r4_, he, (leads_ren [(10000000, 6), (10000001, 24900)] (l := [(6, .c (.ptr 10000000 0))]) (st' := [(10000000, .rc [.own 10000001 true]), (10000001, .sl 3 (.int .i64) r4_ .shallow)]) rfl rfl ⟨⟨⟨⟨rfl, rfl⟩, trivial⟩, trivial⟩, ⟨rfl, rfl⟩, trivial⟩ ⟨⟨⟨rfl, rfl⟩, rfl⟩, trivial⟩)⟩
            · skip
              refine And.intro hq1 ?_
              refine And.intro ?_ trivial
              refine And.intro ?_ trivial
              refine ⟨r4_, hq2, ?_⟩
              exact ⟨r4_, he, (leads_ren [(10000000, 6), (10000001, 24900)] (l := [(6, .c (.ptr 10000000 0))]) (st' := [(10000000, .rc [.own 10000001 true]), (10000001, .sl 3 (.int .i64) r4_ .shallow)]) rfl rfl ⟨⟨⟨⟨rfl, rfl⟩, trivial⟩, trivial⟩, ⟨rfl, rfl⟩, trivial⟩ ⟨⟨⟨rfl, rfl⟩, rfl⟩, trivial⟩)⟩
        · skip
          refine And.intro ?_ (And.intro ?_ (trivial))
          · skip
            refine And.intro ?_ trivial
            refine And.intro ?_ trivial
            refine And.intro hq1 ?_
            refine And.intro ?_ trivial
            refine ⟨r4_, hq2, ?_⟩
            exact ⟨r4_, he, (leads_ren [(10000000, 6), (10000001, 24900)] (l := [(6, .c (.ptr 10000000 0))]) (st' := [(10000000, .rc [.own 10000001 true]), (10000001, .sl 3 (.int .i64) r4_ .shallow)]) rfl rfl ⟨⟨⟨⟨rfl, rfl⟩, trivial⟩, trivial⟩, ⟨rfl, rfl⟩, trivial⟩ ⟨⟨⟨rfl, rfl⟩, rfl⟩, trivial⟩)⟩
          · skip
            refine And.intro ?_ (And.intro ?_ (trivial))
            · skip
              refine And.intro ?_ trivial
              refine And.intro hq1 ?_
              refine And.intro ?_ trivial
              refine ⟨r4_, hq2, ?_⟩
              exact ⟨r4_, he, (leads_ren [(10000000, 6), (10000001, 24900)] (l := [(6, .c (.ptr 10000000 0))]) (st' := [(10000000, .rc [.own 10000001 true]), (10000001, .sl 3 (.int .i64) r4_ .shallow)]) rfl rfl ⟨⟨⟨⟨rfl, rfl⟩, trivial⟩, trivial⟩, ⟨rfl, rfl⟩, trivial⟩ ⟨⟨⟨rfl, rfl⟩, rfl⟩, trivial⟩)⟩
            · skip
              refine And.intro hq1 ?_
              refine And.intro ?_ trivial
              refine And.intro ?_ trivial
              refine ⟨r4_, hq2, ?_⟩
              exact ⟨r4_, he, (leads_ren [(10000000, 6), (10000001, 24900)] (l := [(6, .c (.ptr 10000000 0))]) (st' := [(10000000, .rc [.own 10000001 true]), (10000001, .sl 3 (.int .i64) r4_ .shallow)]) rfl rfl ⟨⟨⟨⟨rfl, rfl⟩, trivial⟩, trivial⟩, ⟨rfl, rfl⟩, trivial⟩ ⟨⟨⟨rfl, rfl⟩, rfl⟩, trivial⟩)⟩
  · have he := ok_t he hb
    have he := ok_some he
    exact ⟨rfl, _, _, (leads_ren [] (l := [(4, .c (.own 900 false)), (5, .c (.bool false))]) (st' := [(900, .sl 3 (.int .i64) ([] : List Int) .shallow)]) rfl rfl ⟨trivial, trivial⟩ ⟨⟨rfl, trivial⟩, .inr rfl, trivial⟩), he⟩

noncomputable def c_spec_l6Vars : Con := fun args st => match args, st with
  | [.agg [.imm (.int .i64) m_0, .imm (.pair (.int .i64) (.pair (.sl (.int .i64)) (.pair (.sl (.int .i64)) (.pair (.int .i64) (.sl (.sl (.int .i64))))))) m_1], .c (.imm (.int .i64) list_)], [] => .opt (Bool) (spec_l6Vars (m_0, m_1) list_) (fun r => .ret (.c (.bool r)) [])
  | _, _ => .fail

noncomputable def C_spec_l6Vars : Cfg := { y := tys, n := 45, h := 0, tab := [], cut := [], hand := [], good := [], deep := [], sched := [] }

theorem t_spec_l6Vars : TabOk Try.prog C_spec_l6Vars := tabOk_of (fun p h => by cases h)

theorem k_spec_l6Vars : Entry Try.prog 213 c_spec_l6Vars := by
  refine entry_by (C := C_spec_l6Vars) mixed tys_ok t_spec_l6Vars (fn := Try.f213) (c := bd Try.f213) (by kernel_rfl) (by kernel_rfl) (by kernel_rfl) (by kernel_rfl) ?_
  intro args st k he
  unfold c_spec_l6Vars at he
  split at he
  rotate_left
  · exact he.elim
  rename_i m_0 m_1 list_
  have he : Ok (spec_l6Vars (m_0, m_1) list_) (fun r => k (.c (.bool r)) []) := he
  refine ⟨rfl, rfl, ?_⟩
  refine loop_model mixed tys_ok t_spec_l6Vars (S := Int) (I := (fun i => (envOf [(1, .c (.imm (.int .i64) list_)), (2, .c (.ptr 10000000 0)), (5, .c (.int .i64 i))], [(10000000, .rc [.imm (.int .i64) (m_0, m_1).1, .imm (.pair (.int .i64) (.pair (.sl (.int .i64)) (.pair (.sl (.int .i64)) (.pair (.int .i64) (.sl (.sl (.int .i64))))))) (m_0, m_1).2])]))) (f := spec_l6Vars_l1 (m_0, m_1) list_) (K := (fun r => k (.c (.bool r)) [])) he (leads_ren [(10000000, 2)] (l := [(1, .c (.imm (.int .i64) list_)), (2, .c (.ptr 10000000 0)), (5, .c (.int .i64 (0:Int)))]) (st' := [(10000000, .rc [.imm (.int .i64) (m_0, m_1).1, .imm (.pair (.int .i64) (.pair (.sl (.int .i64)) (.pair (.sl (.int .i64)) (.pair (.int .i64) (.sl (.sl (.int .i64))))))) (m_0, m_1).2])]) rfl rfl ⟨⟨.inl rfl, .inl rfl, trivial⟩, trivial⟩ ⟨.inl rfl, ⟨⟨rfl, rfl⟩, rfl⟩, rfl, trivial⟩) ?_
  rintro i J1 he
  refine And.intro (fun hb => ?_) (fun hb => ?_)
  · have he := ok_t he hb
    refine And.intro (by kernel_rfl) ?_
    have he := ok_rq he
    refine And.intro he.1 ?_
    have he := he.2
    refine And.intro (fun hb => ?_) (fun hb => ?_)
    · have he := ok_f he hb
      have he := ok_rq he
      refine And.intro he.1 ?_
      have he := he.2
      refine And.intro (fun hb => ?_) (fun hb => ?_)
      · have he := ok_t he hb
        have he := ok_some he
        exact ⟨rfl, _, _, (leads_ren [] (l := [(4, .c (.bool false))]) (st' := []) rfl rfl trivial ⟨.inr rfl, trivial⟩), he⟩
      · have he := ok_f he hb
        refine loop_model mixed tys_ok t_spec_l6Vars (S := Int) (I := (fun k_ => (envOf [(1, .c (.imm (.int .i64) list_)), (2, .c (.ptr 10001000 0)), (5, .c (.int .i64 i)), (6, .c (.int .i64 k_))], [(10001000, .rc [.imm (.int .i64) (m_0, m_1).1, .imm (.pair (.int .i64) (.pair (.sl (.int .i64)) (.pair (.sl (.int .i64)) (.pair (.int .i64) (.sl (.sl (.int .i64))))))) (m_0, m_1).2])]))) (f := spec_l6Vars_l2 list_ i) (K := (LK J1 (fun r => k (.c (.bool r)) []))) he (leads_ren [(10001000, 10000000)] (l := [(1, .c (.imm (.int .i64) list_)), (2, .c (.ptr 10001000 0)), (5, .c (.int .i64 i)), (6, .c (.int .i64 (0:Int)))]) (st' := [(10001000, .rc [.imm (.int .i64) (m_0, m_1).1, .imm (.pair (.int .i64) (.pair (.sl (.int .i64)) (.pair (.sl (.int .i64)) (.pair (.int .i64) (.sl (.sl (.int .i64))))))) (m_0, m_1).2])]) rfl rfl ⟨⟨.inl rfl, .inl rfl, trivial⟩, trivial⟩ ⟨.inl rfl, ⟨⟨rfl, rfl⟩, rfl⟩, rfl, rfl, trivial⟩) ?_
        rintro k_ J2 he
        refine And.intro (fun hb => ?_) (fun hb => ?_)
        · have he := ok_t he hb
          refine And.intro (by kernel_rfl) ?_
          have he := ok_rq he
          refine And.intro he.1 ?_
          have he := he.2
          have he := ok_rq he
          refine And.intro he.1 ?_
          have he := he.2
          refine And.intro (fun hb => ?_) (fun hb => ?_)
          · have he := ok_t he hb
            have he := ok_some he
            exact ⟨rfl, _, _, (leads_ren [] (l := [(4, .c (.bool false))]) (st' := []) rfl rfl trivial ⟨.inr rfl, trivial⟩), he⟩
          · have he := ok_f he hb
            have he := ok_rq he
            refine And.intro he.1 ?_
            have he := he.2
            have he := ok_some he
            exact ⟨(k_ + (1:Int)), he, (leads_ren [] (l := [(1, .c (.imm (.int .i64) list_)), (2, .c (.ptr 10001000 0)), (5, .c (.int .i64 i)), (6, .c (.int .i64 (k_ + (1:Int))))]) (st' := [(10001000, .rc [.imm (.int .i64) (m_0, m_1).1, .imm (.pair (.int .i64) (.pair (.sl (.int .i64)) (.pair (.sl (.int .i64)) (.pair (.int .i64) (.sl (.sl (.int .i64))))))) (m_0, m_1).2])]) rfl rfl ⟨⟨.inl rfl, .inl rfl, trivial⟩, trivial⟩ ⟨.inl rfl, ⟨⟨rfl, rfl⟩, rfl⟩, rfl, rfl, trivial⟩)⟩
        · have he := ok_f he hb
          have he := ok_rq he
          refine And.intro he.1 ?_
          have he := he.2
          have he := ok_some he
          exact ⟨(i + (1:Int)), he, (leads_ren [(10000000, 10001000)] (l := [(1, .c (.imm (.int .i64) list_)), (2, .c (.ptr 10000000 0)), (5, .c (.int .i64 (i + (1:Int))))]) (st' := [(10000000, .rc [.imm (.int .i64) (m_0, m_1).1, .imm (.pair (.int .i64) (.pair (.sl (.int .i64)) (.pair (.sl (.int .i64)) (.pair (.int .i64) (.sl (.sl (.int .i64))))))) (m_0, m_1).2])]) rfl rfl ⟨⟨.inl rfl, .inl rfl, trivial⟩, trivial⟩ ⟨.inl rfl, ⟨⟨rfl, rfl⟩, rfl⟩, rfl, trivial⟩)⟩
    · have he := ok_t he hb
      have he := ok_some he
      exact ⟨rfl, _, _, (leads_ren [] (l := [(4, .c (.bool false))]) (st' := []) rfl rfl trivial ⟨.inr rfl, trivial⟩), he⟩
  · have he := ok_f he hb
    have he := ok_some he
    exact ⟨rfl, _, _, (leads_ren [] (l := [(4, .c (.bool (decide ((1:Int) ≤ (list_.length:Int)))))]) (st' := []) rfl rfl trivial ⟨.inl rfl, trivial⟩), he⟩

noncomputable def c_spec_l6Linear : Con := fun args st => match args, st with
  | [.agg [.int .i64 r__0, .imm (.int .i64) r__1, .imm (.int .i64) r__2, .int .i64 r__3, .imm (.sl (.int .i64)) r__4]], [] => .opt (Bool) (spec_l6Linear (r__0, (r__1, (r__2, (r__3, r__4))))) (fun r => .ret (.c (.bool r)) [])
  | _, _ => .fail

noncomputable def C_spec_l6Linear : Cfg := { y := tys, n := 50, h := 0, tab := [], cut := [], hand := [], good := [], deep := [], sched := [] }

theorem t_spec_l6Linear : TabOk Try.prog C_spec_l6Linear := tabOk_of (fun p h => by cases h)

theorem k_spec_l6Linear : Entry Try.prog 279 c_spec_l6Linear := by
  refine entry_by (C := C_spec_l6Linear) mixed tys_ok t_spec_l6Linear (fn := Try.f279) (c := bd Try.f279) (by kernel_rfl) (by kernel_rfl) (by kernel_rfl) (by kernel_rfl) ?_
  intro args st k he
  unfold c_spec_l6Linear at he
  split at he
  rotate_left
  · exact he.elim
  rename_i r__0 r__1 r__2 r__3 r__4
  have he : Ok (spec_l6Linear (r__0, (r__1, (r__2, (r__3, r__4))))) (fun r => k (.c (.bool r)) []) := he
  refine ⟨rfl, rfl, ?_⟩
  refine loop_model mixed tys_ok t_spec_l6Linear (S := Int) (I := (fun i => (envOf [(1, .c (.ptr 10000000 0)), (3, .c (.int .i64 i))], [(10000000, .rc [.int .i64 (r__0, (r__1, (r__2, (r__3, r__4)))).1, .imm (.int .i64) (r__0, (r__1, (r__2, (r__3, r__4)))).2.1, .imm (.int .i64) (r__0, (r__1, (r__2, (r__3, r__4)))).2.2.1, .int .i64 (r__0, (r__1, (r__2, (r__3, r__4)))).2.2.2.1, .imm (.sl (.int .i64)) (r__0, (r__1, (r__2, (r__3, r__4)))).2.2.2.2])]))) (f := spec_l6Linear_l1 (r__0, (r__1, (r__2, (r__3, r__4))))) (K := (fun r => k (.c (.bool r)) [])) he (leads_ren [(10000000, 1)] (l := [(1, .c (.ptr 10000000 0)), (3, .c (.int .i64 (0:Int)))]) (st' := [(10000000, .rc [.int .i64 (r__0, (r__1, (r__2, (r__3, r__4)))).1, .imm (.int .i64) (r__0, (r__1, (r__2, (r__3, r__4)))).2.1, .imm (.int .i64) (r__0, (r__1, (r__2, (r__3, r__4)))).2.2.1, .int .i64 (r__0, (r__1, (r__2, (r__3, r__4)))).2.2.2.1, .imm (.sl (.int .i64)) (r__0, (r__1, (r__2, (r__3, r__4)))).2.2.2.2])]) rfl rfl ⟨⟨rfl, .inl rfl, .inl rfl, rfl, .inl rfl, trivial⟩, trivial⟩ ⟨⟨⟨rfl, rfl⟩, rfl⟩, rfl, trivial⟩) ?_
  rintro i J1 he
  refine And.intro (fun hb => ?_) (fun hb => ?_)
  · have he := ok_t he hb
    have he := ok_rq he
    refine And.intro he.1 ?_
    have he := he.2
    refine And.intro (fun hb => ?_) (fun hb => ?_)
    · have he := ok_f he hb
      have he := ok_rq he
      refine And.intro he.1 ?_
      have he := he.2
      refine And.intro (fun hb => ?_) (fun hb => ?_)
      · have he := ok_f he hb
        have he := ok_rq he
        refine And.intro he.1 ?_
        have he := he.2
        refine And.intro (fun hb => ?_) (fun hb => ?_)
        · have he := ok_t he hb
          have he := ok_some he
          exact ⟨rfl, _, _, (leads_ren [] (l := [(2, .c (.bool false))]) (st' := []) rfl rfl trivial ⟨.inr rfl, trivial⟩), he⟩
        · have he := ok_f he hb
          have he := ok_rq he
          refine And.intro he.1 ?_
          have he := he.2
          have he := ok_some he
          exact ⟨(i + (1:Int)), he, (leads_ren [] (l := [(1, .c (.ptr 10000000 0)), (3, .c (.int .i64 (i + (1:Int))))]) (st' := [(10000000, .rc [.int .i64 (r__0, (r__1, (r__2, (r__3, r__4)))).1, .imm (.int .i64) (r__0, (r__1, (r__2, (r__3, r__4)))).2.1, .imm (.int .i64) (r__0, (r__1, (r__2, (r__3, r__4)))).2.2.1, .int .i64 (r__0, (r__1, (r__2, (r__3, r__4)))).2.2.2.1, .imm (.sl (.int .i64)) (r__0, (r__1, (r__2, (r__3, r__4)))).2.2.2.2])]) rfl rfl ⟨⟨rfl, .inl rfl, .inl rfl, rfl, .inl rfl, trivial⟩, trivial⟩ ⟨⟨⟨rfl, rfl⟩, rfl⟩, rfl, trivial⟩)⟩
      · have he := ok_t he hb
        have he := ok_some he
        exact ⟨rfl, _, _, (leads_ren [] (l := [(2, .c (.bool false))]) (st' := []) rfl rfl trivial ⟨.inr rfl, trivial⟩), he⟩
    · have he := ok_t he hb
      have he := ok_some he
      exact ⟨rfl, _, _, (leads_ren [] (l := [(2, .c (.bool false))]) (st' := []) rfl rfl trivial ⟨.inr rfl, trivial⟩), he⟩
  · have he := ok_f he hb
    refine And.intro (fun hb => ?_) (fun hb => ?_)
    · have he := ok_t he hb
      refine And.intro (fun hb => ?_) (fun hb => ?_)
      · have he := ok_t he hb
        have he := ok_some he
        exact ⟨rfl, _, _, (leads_ren [] (l := [(2, .c (.bool (decide ((r__0, (r__1, (r__2, (r__3, r__4)))).2.2.2.1 ≤ (1000:Int)))))]) (st' := []) rfl rfl trivial ⟨.inl rfl, trivial⟩), he⟩
      · have he := ok_f he hb
        have he := ok_some he
        exact ⟨rfl, _, _, (leads_ren [] (l := [(2, .c (.bool false))]) (st' := []) rfl rfl trivial ⟨.inr rfl, trivial⟩), he⟩
    · have he := ok_f he hb
      have he := ok_some he
      exact ⟨rfl, _, _, (leads_ren [] (l := [(2, .c (.bool false))]) (st' := []) rfl rfl trivial ⟨.inr rfl, trivial⟩), he⟩

noncomputable def c_spec_l6Table : Con := fun args st => match args, st with
  | [.agg [.int .i64 r__0, .imm (.int .i64) r__1, .imm (.int .i64) r__2, .int .i64 r__3, .imm (.sl (.int .i64)) r__4]], [] => .opt (Bool) (spec_l6Table (r__0, (r__1, (r__2, (r__3, r__4))))) (fun r => .ret (.c (.bool r)) [])
  | _, _ => .fail

noncomputable def C_spec_l6Table : Cfg := { y := tys, n := 56, h := 0, tab := [], cut := [], hand := [], good := [], deep := [], sched := [] }

theorem t_spec_l6Table : TabOk Try.prog C_spec_l6Table := tabOk_of (fun p h => by cases h)

theorem k_spec_l6Table : Entry Try.prog 280 c_spec_l6Table := by
  refine entry_by (C := C_spec_l6Table) mixed tys_ok t_spec_l6Table (fn := Try.f280) (c := bd Try.f280) (by kernel_rfl) (by kernel_rfl) (by kernel_rfl) (by kernel_rfl) ?_
  intro args st k he
  unfold c_spec_l6Table at he
  split at he
  rotate_left
  · exact he.elim
  rename_i r__0 r__1 r__2 r__3 r__4
  have he : Ok (spec_l6Table (r__0, (r__1, (r__2, (r__3, r__4))))) (fun r => k (.c (.bool r)) []) := he
  refine ⟨rfl, rfl, ?_⟩
  refine loop_model mixed tys_ok t_spec_l6Table (S := Int) (I := (fun i => (envOf [(1, .c (.ptr 10000000 0)), (3, .c (.int .i64 i))], [(10000000, .rc [.int .i64 (r__0, (r__1, (r__2, (r__3, r__4)))).1, .imm (.int .i64) (r__0, (r__1, (r__2, (r__3, r__4)))).2.1, .imm (.int .i64) (r__0, (r__1, (r__2, (r__3, r__4)))).2.2.1, .int .i64 (r__0, (r__1, (r__2, (r__3, r__4)))).2.2.2.1, .imm (.sl (.int .i64)) (r__0, (r__1, (r__2, (r__3, r__4)))).2.2.2.2])]))) (f := spec_l6Table_l1 (r__0, (r__1, (r__2, (r__3, r__4))))) (K := (fun r => k (.c (.bool r)) [])) he (leads_ren [(10000000, 1)] (l := [(1, .c (.ptr 10000000 0)), (3, .c (.int .i64 (0:Int)))]) (st' := [(10000000, .rc [.int .i64 (r__0, (r__1, (r__2, (r__3, r__4)))).1, .imm (.int .i64) (r__0, (r__1, (r__2, (r__3, r__4)))).2.1, .imm (.int .i64) (r__0, (r__1, (r__2, (r__3, r__4)))).2.2.1, .int .i64 (r__0, (r__1, (r__2, (r__3, r__4)))).2.2.2.1, .imm (.sl (.int .i64)) (r__0, (r__1, (r__2, (r__3, r__4)))).2.2.2.2])]) rfl rfl ⟨⟨rfl, .inl rfl, .inl rfl, rfl, .inl rfl, trivial⟩, trivial⟩ ⟨⟨⟨rfl, rfl⟩, rfl⟩, rfl, trivial⟩) ?_
  rintro i J1 he
  refine And.intro (fun hb => ?_) (fun hb => ?_)
  · have he := ok_t he hb
    refine And.intro (by kernel_rfl) ?_
    have he := ok_rq he
    refine And.intro he.1 ?_
    have he := he.2
    refine And.intro (fun hb => ?_) (fun hb => ?_)
    · have he := ok_t he hb
      have he := ok_some he
      exact ⟨rfl, _, _, (leads_ren [] (l := [(2, .c (.bool false))]) (st' := []) rfl rfl trivial ⟨.inr rfl, trivial⟩), he⟩
    · have he := ok_f he hb
      refine loop_model mixed tys_ok t_spec_l6Table (S := Int) (I := (fun k_ => (envOf [(1, .c (.ptr 10001000 0)), (3, .c (.int .i64 i)), (4, .c (.int .i64 k_))], [(10001000, .rc [.int .i64 (r__0, (r__1, (r__2, (r__3, r__4)))).1, .imm (.int .i64) (r__0, (r__1, (r__2, (r__3, r__4)))).2.1, .imm (.int .i64) (r__0, (r__1, (r__2, (r__3, r__4)))).2.2.1, .int .i64 (r__0, (r__1, (r__2, (r__3, r__4)))).2.2.2.1, .imm (.sl (.int .i64)) (r__0, (r__1, (r__2, (r__3, r__4)))).2.2.2.2])]))) (f := spec_l6Table_l2 (r__0, (r__1, (r__2, (r__3, r__4)))) i) (K := (LK J1 (fun r => k (.c (.bool r)) []))) he (leads_ren [(10001000, 10000000)] (l := [(1, .c (.ptr 10001000 0)), (3, .c (.int .i64 i)), (4, .c (.int .i64 (0:Int)))]) (st' := [(10001000, .rc [.int .i64 (r__0, (r__1, (r__2, (r__3, r__4)))).1, .imm (.int .i64) (r__0, (r__1, (r__2, (r__3, r__4)))).2.1, .imm (.int .i64) (r__0, (r__1, (r__2, (r__3, r__4)))).2.2.1, .int .i64 (r__0, (r__1, (r__2, (r__3, r__4)))).2.2.2.1, .imm (.sl (.int .i64)) (r__0, (r__1, (r__2, (r__3, r__4)))).2.2.2.2])]) rfl rfl ⟨⟨rfl, .inl rfl, .inl rfl, rfl, .inl rfl, trivial⟩, trivial⟩ ⟨⟨⟨rfl, rfl⟩, rfl⟩, rfl, rfl, trivial⟩) ?_
      rintro k_ J2 he
      have he := ok_rq he
      refine And.intro he.1 ?_
      have he := he.2
      refine And.intro (fun hb => ?_) (fun hb => ?_)
      · have he := ok_t he hb
        have he := ok_rq he
        refine And.intro he.1 ?_
        have he := he.2
        have he := ok_rq he
        refine And.intro he.1 ?_
        have he := he.2
        refine And.intro (fun hb => ?_) (fun hb => ?_)
        · have he := ok_f he hb
          have he := ok_rq he
          refine And.intro he.1 ?_
          have he := he.2
          have he := ok_rq he
          refine And.intro he.1 ?_
          have he := he.2
          refine And.intro (fun hb => ?_) (fun hb => ?_)
          · have he := ok_t he hb
            have he := ok_some he
            exact ⟨rfl, _, _, (leads_ren [] (l := [(2, .c (.bool false))]) (st' := []) rfl rfl trivial ⟨.inr rfl, trivial⟩), he⟩
          · have he := ok_f he hb
            have he := ok_rq he
            refine And.intro he.1 ?_
            have he := he.2
            have he := ok_some he
            exact ⟨(k_ + (1:Int)), he, (leads_ren [] (l := [(1, .c (.ptr 10001000 0)), (3, .c (.int .i64 i)), (4, .c (.int .i64 (k_ + (1:Int))))]) (st' := [(10001000, .rc [.int .i64 (r__0, (r__1, (r__2, (r__3, r__4)))).1, .imm (.int .i64) (r__0, (r__1, (r__2, (r__3, r__4)))).2.1, .imm (.int .i64) (r__0, (r__1, (r__2, (r__3, r__4)))).2.2.1, .int .i64 (r__0, (r__1, (r__2, (r__3, r__4)))).2.2.2.1, .imm (.sl (.int .i64)) (r__0, (r__1, (r__2, (r__3, r__4)))).2.2.2.2])]) rfl rfl ⟨⟨rfl, .inl rfl, .inl rfl, rfl, .inl rfl, trivial⟩, trivial⟩ ⟨⟨⟨rfl, rfl⟩, rfl⟩, rfl, rfl, trivial⟩)⟩
        · have he := ok_t he hb
          have he := ok_some he
          exact ⟨rfl, _, _, (leads_ren [] (l := [(2, .c (.bool false))]) (st' := []) rfl rfl trivial ⟨.inr rfl, trivial⟩), he⟩
      · have he := ok_f he hb
        have he := ok_rq he
        refine And.intro he.1 ?_
        have he := he.2
        have he := ok_some he
        exact ⟨(i + (1:Int)), he, (leads_ren [(10000000, 10001000)] (l := [(1, .c (.ptr 10000000 0)), (3, .c (.int .i64 (i + (1:Int))))]) (st' := [(10000000, .rc [.int .i64 (r__0, (r__1, (r__2, (r__3, r__4)))).1, .imm (.int .i64) (r__0, (r__1, (r__2, (r__3, r__4)))).2.1, .imm (.int .i64) (r__0, (r__1, (r__2, (r__3, r__4)))).2.2.1, .int .i64 (r__0, (r__1, (r__2, (r__3, r__4)))).2.2.2.1, .imm (.sl (.int .i64)) (r__0, (r__1, (r__2, (r__3, r__4)))).2.2.2.2])]) rfl rfl ⟨⟨rfl, .inl rfl, .inl rfl, rfl, .inl rfl, trivial⟩, trivial⟩ ⟨⟨⟨rfl, rfl⟩, rfl⟩, rfl, trivial⟩)⟩
  · have he := ok_f he hb
    have he := ok_some he
    exact ⟨rfl, _, _, (leads_ren [] (l := [(2, .c (.bool (decide (((r__0, (r__1, (r__2, (r__3, r__4)))).2.2.2.2.length:Int) ≤ (8:Int)))))]) (st' := []) rfl rfl trivial ⟨.inl rfl, trivial⟩), he⟩

noncomputable def c_spec_l6Rule : Con := fun args st => match args, st with
  | [.agg [.imm (.int .i64) m_0, .imm (.pair (.int .i64) (.pair (.sl (.int .i64)) (.pair (.sl (.int .i64)) (.pair (.int .i64) (.sl (.sl (.int .i64))))))) m_1], .agg [.int .i64 r__0, .imm (.int .i64) r__1, .imm (.int .i64) r__2, .int .i64 r__3, .imm (.sl (.int .i64)) r__4]], [] => .opt (Bool) (spec_l6Rule (m_0, m_1) (r__0, (r__1, (r__2, (r__3, r__4))))) (fun r => .ret (.c (.bool r)) [])
  | _, _ => .fail

noncomputable def C_spec_l6Rule : Cfg := { y := tys, n := 55, h := 0, tab := [(213, c_spec_l6Vars), (279, c_spec_l6Linear), (280, c_spec_l6Table)], cut := [3], hand := [], good := [], deep := [], sched := [] }

theorem t_spec_l6Rule : TabOk Try.prog C_spec_l6Rule := by
  refine tabOk_of ?_
  simp only [C_spec_l6Rule, List.forall_mem_cons]
  exact ⟨k_spec_l6Vars, k_spec_l6Linear, k_spec_l6Table, fun p h => by cases h⟩

theorem k_spec_l6Rule : Entry Try.prog 255 c_spec_l6Rule := by
  refine entry_by (C := C_spec_l6Rule) mixed tys_ok t_spec_l6Rule (fn := Try.f255) (c := bd Try.f255) (by kernel_rfl) (by kernel_rfl) (by kernel_rfl) (by kernel_rfl) ?_
  intro args st k he
  unfold c_spec_l6Rule at he
  split at he
  rotate_left
  · exact he.elim
  rename_i m_0 m_1 r__0 r__1 r__2 r__3 r__4
  have he : Ok (spec_l6Rule (m_0, m_1) (r__0, (r__1, (r__2, (r__3, r__4))))) (fun r => k (.c (.bool r)) []) := he
  refine ⟨rfl, rfl, ?_⟩
  refine seq_model mixed tys_ok t_spec_l6Rule (S := Unit) (I := (fun _ => (envOf [(3, .c (.ptr 10000000 0))], [(10000000, .rc [.int .i64 (r__0, (r__1, (r__2, (r__3, r__4)))).1, .imm (.int .i64) (r__0, (r__1, (r__2, (r__3, r__4)))).2.1, .imm (.int .i64) (r__0, (r__1, (r__2, (r__3, r__4)))).2.2.1, .int .i64 (r__0, (r__1, (r__2, (r__3, r__4)))).2.2.2.1, .imm (.sl (.int .i64)) (r__0, (r__1, (r__2, (r__3, r__4)))).2.2.2.2])]))) (B := fun s => Ok (spec_l6Rule_j1 (r__0, (r__1, (r__2, (r__3, r__4)))) s) (fun r => k (.c (.bool r)) [])) ?_ ?_
  · rintro ⟨⟩ he
    refine And.intro (fun hb => ?_) (fun hb => ?_)
    · have he := ok_t he hb
      obtain ⟨r2_, hr, he⟩ := ok_bind he
      refine ⟨r2_, hr, ?_⟩
      have he := ok_some he
      exact ⟨rfl, _, _, (leads_ren [] (l := [(4, .c (.bool r2_))]) (st' := []) rfl rfl trivial ⟨.inl rfl, trivial⟩), he⟩
    · have he := ok_f he hb
      refine And.intro (fun hb => ?_) (fun hb => ?_)
      · have he := ok_t he hb
        have he := ok_some he
        exact ⟨rfl, _, _, (leads_ren [] (l := [(4, .c (.bool true))]) (st' := []) rfl rfl trivial ⟨.inr rfl, trivial⟩), he⟩
      · have he := ok_f he hb
        refine And.intro (fun hb => ?_) (fun hb => ?_)
        · have he := ok_t he hb
          obtain ⟨r3_, hr, he⟩ := ok_bind he
          refine ⟨r3_, hr, ?_⟩
          have he := ok_some he
          exact ⟨rfl, _, _, (leads_ren [] (l := [(4, .c (.bool r3_))]) (st' := []) rfl rfl trivial ⟨.inl rfl, trivial⟩), he⟩
        · have he := ok_f he hb
          refine And.intro (fun hb => ?_) (fun hb => ?_)
          · have he := ok_t he hb
            have he := ok_some he
            exact ⟨rfl, _, _, (leads_ren [] (l := [(4, .c (.bool (((r__0, (r__1, (r__2, (r__3, r__4)))).2.1.length:Int) == (2:Int))))]) (st' := []) rfl rfl trivial ⟨.inl rfl, trivial⟩), he⟩
          · have he := ok_f he hb
            have he := ok_some he
            exact ⟨rfl, _, _, (leads_ren [] (l := [(4, .c (.bool false))]) (st' := []) rfl rfl trivial ⟨.inr rfl, trivial⟩), he⟩
  · skip
    obtain ⟨r1_, hr, he⟩ := ok_bind he
    refine ⟨r1_, hr, ?_⟩
    refine And.intro (fun hb => ?_) (fun hb => ?_)
    · have he := ok_f he hb
      refine And.intro (fun hb => ?_) (fun hb => ?_)
      · have he := ok_t he hb
        refine And.intro (fun hb => ?_) (fun hb => ?_)
        · have he := ok_f he hb
          refine And.intro (fun hb => ?_) (fun hb => ?_)
          · have he := ok_f he hb
            refine And.intro (fun hb => ?_) (fun hb => ?_)
            · have he := ok_t he hb
              refine And.intro (fun hb => ?_) (fun hb => ?_)
              · have he := ok_t he hb
                have he := ok_some he
                exact ⟨rfl, _, _, (leads_ren [] (l := [(4, .c (.bool false))]) (st' := []) rfl rfl trivial ⟨.inr rfl, trivial⟩), he⟩
              · have he := ok_f he hb
                exact ⟨(), he, (leads_ren [(10000000, 3)] (l := [(3, .c (.ptr 10000000 0))]) (st' := [(10000000, .rc [.int .i64 (r__0, (r__1, (r__2, (r__3, r__4)))).1, .imm (.int .i64) (r__0, (r__1, (r__2, (r__3, r__4)))).2.1, .imm (.int .i64) (r__0, (r__1, (r__2, (r__3, r__4)))).2.2.1, .int .i64 (r__0, (r__1, (r__2, (r__3, r__4)))).2.2.2.1, .imm (.sl (.int .i64)) (r__0, (r__1, (r__2, (r__3, r__4)))).2.2.2.2])]) rfl rfl ⟨⟨rfl, .inl rfl, .inl rfl, rfl, .inl rfl, trivial⟩, trivial⟩ ⟨⟨⟨rfl, rfl⟩, rfl⟩, trivial⟩)⟩
            · have he := ok_f he hb
              exact ⟨(), he, (leads_ren [(10000000, 3)] (l := [(3, .c (.ptr 10000000 0))]) (st' := [(10000000, .rc [.int .i64 (r__0, (r__1, (r__2, (r__3, r__4)))).1, .imm (.int .i64) (r__0, (r__1, (r__2, (r__3, r__4)))).2.1, .imm (.int .i64) (r__0, (r__1, (r__2, (r__3, r__4)))).2.2.1, .int .i64 (r__0, (r__1, (r__2, (r__3, r__4)))).2.2.2.1, .imm (.sl (.int .i64)) (r__0, (r__1, (r__2, (r__3, r__4)))).2.2.2.2])]) rfl rfl ⟨⟨rfl, .inl rfl, .inl rfl, rfl, .inl rfl, trivial⟩, trivial⟩ ⟨⟨⟨rfl, rfl⟩, rfl⟩, trivial⟩)⟩
          · have he := ok_t he hb
            have he := ok_some he
            exact ⟨rfl, _, _, (leads_ren [] (l := [(4, .c (.bool false))]) (st' := []) rfl rfl trivial ⟨.inr rfl, trivial⟩), he⟩
        · have he := ok_t he hb
          have he := ok_some he
          exact ⟨rfl, _, _, (leads_ren [] (l := [(4, .c (.bool false))]) (st' := []) rfl rfl trivial ⟨.inr rfl, trivial⟩), he⟩
      · have he := ok_f he hb
        refine And.intro (fun hb => ?_) (fun hb => ?_)
        · have he := ok_t he hb
          refine And.intro (fun hb => ?_) (fun hb => ?_)
          · have he := ok_t he hb
            have he := ok_some he
            exact ⟨rfl, _, _, (leads_ren [] (l := [(4, .c (.bool false))]) (st' := []) rfl rfl trivial ⟨.inr rfl, trivial⟩), he⟩
          · have he := ok_f he hb
            exact ⟨(), he, (leads_ren [(10000000, 3)] (l := [(3, .c (.ptr 10000000 0))]) (st' := [(10000000, .rc [.int .i64 (r__0, (r__1, (r__2, (r__3, r__4)))).1, .imm (.int .i64) (r__0, (r__1, (r__2, (r__3, r__4)))).2.1, .imm (.int .i64) (r__0, (r__1, (r__2, (r__3, r__4)))).2.2.1, .int .i64 (r__0, (r__1, (r__2, (r__3, r__4)))).2.2.2.1, .imm (.sl (.int .i64)) (r__0, (r__1, (r__2, (r__3, r__4)))).2.2.2.2])]) rfl rfl ⟨⟨rfl, .inl rfl, .inl rfl, rfl, .inl rfl, trivial⟩, trivial⟩ ⟨⟨⟨rfl, rfl⟩, rfl⟩, trivial⟩)⟩
        · have he := ok_f he hb
          exact ⟨(), he, (leads_ren [(10000000, 3)] (l := [(3, .c (.ptr 10000000 0))]) (st' := [(10000000, .rc [.int .i64 (r__0, (r__1, (r__2, (r__3, r__4)))).1, .imm (.int .i64) (r__0, (r__1, (r__2, (r__3, r__4)))).2.1, .imm (.int .i64) (r__0, (r__1, (r__2, (r__3, r__4)))).2.2.1, .int .i64 (r__0, (r__1, (r__2, (r__3, r__4)))).2.2.2.1, .imm (.sl (.int .i64)) (r__0, (r__1, (r__2, (r__3, r__4)))).2.2.2.2])]) rfl rfl ⟨⟨rfl, .inl rfl, .inl rfl, rfl, .inl rfl, trivial⟩, trivial⟩ ⟨⟨⟨rfl, rfl⟩, rfl⟩, trivial⟩)⟩
    · have he := ok_t he hb
      have he := ok_some he
      exact ⟨rfl, _, _, (leads_ren [] (l := [(4, .c (.bool false))]) (st' := []) rfl rfl trivial ⟨.inr rfl, trivial⟩), he⟩

noncomputable def c_spec_ModelValid : Con := fun args st => match args, st with
  | [.agg [.imm (.int .i64) a0_0, .imm (.pair (.int .i64) (.pair (.sl (.int .i64)) (.pair (.sl (.int .i64)) (.pair (.int .i64) (.sl (.sl (.int .i64))))))) a0_1]], [] => .opt (Bool) (spec_ModelValid (a0_0, a0_1)) (fun r => .ret (.c (.bool r)) [])
  | _, _ => .fail

noncomputable def C_spec_ModelValid : Cfg := { y := tys, n := 74, h := 0, tab := [(255, c_spec_l6Rule)], cut := [8], hand := [], good := [], deep := [], sched := [(13, (.first 1 (.first 3 (.alt 0 (.alt 2 (.first 4 (.first 5 (.alt 6 (.first 7 .done) .stop))) .stop) (.alt 2 (.first 4 (.first 5 (.alt 0 (.alt 6 (.first 7 .done) .stop) .stop))) .stop)))))] }

theorem t_spec_ModelValid : TabOk Try.prog C_spec_ModelValid := by
  refine tabOk_of ?_
  simp only [C_spec_ModelValid, List.forall_mem_cons]
  exact ⟨k_spec_l6Rule, fun p h => by cases h⟩

theorem k_spec_ModelValid : Entry Try.prog 196 c_spec_ModelValid := by
  refine entry_by (C := C_spec_ModelValid) mixed tys_ok t_spec_ModelValid (fn := Try.f196) (c := bd Try.f196) (by kernel_rfl) (by kernel_rfl) (by kernel_rfl) (by kernel_rfl) ?_
  intro args st k he
  unfold c_spec_ModelValid at he
  split at he
  rotate_left
  · exact he.elim
  rename_i a0_0 a0_1
  have he : Ok (spec_ModelValid (a0_0, a0_1)) (fun r => k (.c (.bool r)) []) := he
  refine ⟨rfl, rfl, ?_⟩
  refine seq_model mixed tys_ok t_spec_ModelValid (S := Int) (I := (fun i2 => (envOf [(1, .c (.ptr 10001000 0)), (3, .c (.int .i64 i2))], [(10001000, .rc [.imm (.int .i64) (a0_0, a0_1).1, .imm (.pair (.int .i64) (.pair (.sl (.int .i64)) (.pair (.sl (.int .i64)) (.pair (.int .i64) (.sl (.sl (.int .i64))))))) (a0_0, a0_1).2])]))) (B := fun s => Ok (spec_ModelValid_j1 (a0_0, a0_1) s) (fun r => k (.c (.bool r)) [])) ?_ ?_
  · rintro i2 he
    refine And.intro (fun hb => ?_) (fun hb => ?_)
    · have he := ok_f he hb
      refine And.intro (fun hb => ?_) (fun hb => ?_)
      · have he := ok_f he hb
        refine And.intro (fun hb => ?_) (fun hb => ?_)
        · have he := ok_f he hb
          refine And.intro (fun hb => ?_) (fun hb => ?_)
          · have he := ok_t he hb
            have he := ok_some he
            exact ⟨rfl, _, _, (leads_ren [] (l := [(2, .c (.bool false))]) (st' := []) rfl rfl trivial ⟨.inr rfl, trivial⟩), he⟩
          · have he := ok_f he hb
            refine loop_model mixed tys_ok t_spec_ModelValid (S := Int) (I := (fun i3 => (envOf [(1, .c (.ptr 10002000 0)), (5, .c (.int .i64 i3))], [(10002000, .rc [.imm (.int .i64) (a0_0, a0_1).1, .imm (.pair (.int .i64) (.pair (.sl (.int .i64)) (.pair (.sl (.int .i64)) (.pair (.int .i64) (.sl (.sl (.int .i64))))))) (a0_0, a0_1).2])]))) (f := spec_ModelValid_l1 (a0_0, a0_1)) (K := (fun r => k (.c (.bool r)) [])) he (leads_ren [(10002000, 10001000)] (l := [(1, .c (.ptr 10002000 0)), (5, .c (.int .i64 (0:Int)))]) (st' := [(10002000, .rc [.imm (.int .i64) (a0_0, a0_1).1, .imm (.pair (.int .i64) (.pair (.sl (.int .i64)) (.pair (.sl (.int .i64)) (.pair (.int .i64) (.sl (.sl (.int .i64))))))) (a0_0, a0_1).2])]) rfl rfl ⟨⟨.inl rfl, .inl rfl, trivial⟩, trivial⟩ ⟨⟨⟨rfl, rfl⟩, rfl⟩, rfl, trivial⟩) ?_
            rintro i3 J1 he
            refine And.intro (fun hb => ?_) (fun hb => ?_)
            · have he := ok_t he hb
              refine And.intro (by kernel_rfl) ?_
              have he := ok_rq he
              have hq1 := he.1
              have he := he.2
              obtain ⟨r2_, hq2, he⟩ := ok_bind he
              refine And.intro ?_ (And.intro ?_ (trivial))
              · skip
                refine And.intro ?_ trivial
                refine And.intro hq1 ?_
                refine And.intro ?_ trivial
                refine ⟨r2_, hq2, ?_⟩
                refine And.intro (fun hb => ?_) (fun hb => ?_)
                · have he := ok_t he hb
                  have he := ok_some he
                  exact ⟨rfl, _, _, (leads_ren [] (l := [(2, .c (.bool false))]) (st' := []) rfl rfl trivial ⟨.inr rfl, trivial⟩), he⟩
                · have he := ok_f he hb
                  have he := ok_rq he
                  refine And.intro he.1 ?_
                  have he := he.2
                  have he := ok_some he
                  exact ⟨(i3 + (1:Int)), he, (leads_ren [] (l := [(1, .c (.ptr 10002000 0)), (5, .c (.int .i64 (i3 + (1:Int))))]) (st' := [(10002000, .rc [.imm (.int .i64) (a0_0, a0_1).1, .imm (.pair (.int .i64) (.pair (.sl (.int .i64)) (.pair (.sl (.int .i64)) (.pair (.int .i64) (.sl (.sl (.int .i64))))))) (a0_0, a0_1).2])]) rfl rfl ⟨⟨.inl rfl, .inl rfl, trivial⟩, trivial⟩ ⟨⟨⟨rfl, rfl⟩, rfl⟩, rfl, trivial⟩)⟩
              · skip
                refine And.intro hq1 ?_
                refine And.intro ?_ trivial
                refine And.intro ?_ trivial
                refine ⟨r2_, hq2, ?_⟩
                refine And.intro (fun hb => ?_) (fun hb => ?_)
                · have he := ok_t he hb
                  have he := ok_some he
                  exact ⟨rfl, _, _, (leads_ren [] (l := [(2, .c (.bool false))]) (st' := []) rfl rfl trivial ⟨.inr rfl, trivial⟩), he⟩
                · have he := ok_f he hb
                  have he := ok_rq he
                  refine And.intro he.1 ?_
                  have he := he.2
                  have he := ok_some he
                  exact ⟨(i3 + (1:Int)), he, (leads_ren [] (l := [(1, .c (.ptr 10002000 0)), (5, .c (.int .i64 (i3 + (1:Int))))]) (st' := [(10002000, .rc [.imm (.int .i64) (a0_0, a0_1).1, .imm (.pair (.int .i64) (.pair (.sl (.int .i64)) (.pair (.sl (.int .i64)) (.pair (.int .i64) (.sl (.sl (.int .i64))))))) (a0_0, a0_1).2])]) rfl rfl ⟨⟨.inl rfl, .inl rfl, trivial⟩, trivial⟩ ⟨⟨⟨rfl, rfl⟩, rfl⟩, rfl, trivial⟩)⟩
            · have he := ok_f he hb
              have he := ok_some he
              exact ⟨rfl, _, _, (leads_ren [] (l := [(2, .c (.bool true))]) (st' := []) rfl rfl trivial ⟨.inr rfl, trivial⟩), he⟩
        · have he := ok_t he hb
          have he := ok_some he
          exact ⟨rfl, _, _, (leads_ren [] (l := [(2, .c (.bool false))]) (st' := []) rfl rfl trivial ⟨.inr rfl, trivial⟩), he⟩
      · have he := ok_t he hb
        have he := ok_some he
        exact ⟨rfl, _, _, (leads_ren [] (l := [(2, .c (.bool false))]) (st' := []) rfl rfl trivial ⟨.inr rfl, trivial⟩), he⟩
    · have he := ok_t he hb
      have he := ok_some he
      exact ⟨rfl, _, _, (leads_ren [] (l := [(2, .c (.bool false))]) (st' := []) rfl rfl trivial ⟨.inr rfl, trivial⟩), he⟩
  · skip
    refine loop_model mixed tys_ok t_spec_ModelValid (S := Int × Int) (I := (fun (i, i1) => (envOf [(1, .c (.ptr 10000000 0)), (3, .c (.int .i64 i)), (4, .c (.int .i64 i1))], [(10000000, .rc [.imm (.int .i64) (a0_0, a0_1).1, .imm (.pair (.int .i64) (.pair (.sl (.int .i64)) (.pair (.sl (.int .i64)) (.pair (.int .i64) (.sl (.sl (.int .i64))))))) (a0_0, a0_1).2])]))) (f := spec_ModelValid_l2 (a0_0, a0_1)) (K := (fun r => k (.c (.bool r)) [])) he (leads_ren [(10000000, 1)] (l := [(1, .c (.ptr 10000000 0)), (3, .c (.int .i64 (0:Int))), (4, .c (.int .i64 (0:Int)))]) (st' := [(10000000, .rc [.imm (.int .i64) (a0_0, a0_1).1, .imm (.pair (.int .i64) (.pair (.sl (.int .i64)) (.pair (.sl (.int .i64)) (.pair (.int .i64) (.sl (.sl (.int .i64))))))) (a0_0, a0_1).2])]) rfl rfl ⟨⟨.inl rfl, .inl rfl, trivial⟩, trivial⟩ ⟨⟨⟨rfl, rfl⟩, rfl⟩, rfl, rfl, trivial⟩) ?_
    rintro ⟨i, i1⟩ J1 he
    refine And.intro (fun hb => ?_) (fun hb => ?_)
    · have he := ok_t he hb
      refine And.intro (fun hb => ?_) (fun hb => ?_)
      · have he := ok_t he hb
        have he := ok_rq he
        refine And.intro he.1 ?_
        have he := he.2
        refine And.intro (fun hb => ?_) (fun hb => ?_)
        · have he := ok_f he hb
          have he := ok_rq he
          refine And.intro he.1 ?_
          have he := he.2
          refine And.intro (fun hb => ?_) (fun hb => ?_)
          · have he := ok_t he hb
            have he := ok_some he
            exact ⟨rfl, _, _, (leads_ren [] (l := [(2, .c (.bool false))]) (st' := []) rfl rfl trivial ⟨.inr rfl, trivial⟩), he⟩
          · have he := ok_f he hb
            have he := ok_rq he
            refine And.intro he.1 ?_
            have he := he.2
            have he := ok_rq he
            refine And.intro he.1 ?_
            have he := he.2
            have he := ok_rq he
            refine And.intro he.1 ?_
            have he := he.2
            have he := ok_rq he
            refine And.intro he.1 ?_
            have he := he.2
            have he := ok_some he
            exact ⟨(((i + ((a0_0, a0_1).1.getD i1.toNat 0)) + (1:Int)), (i1 + (1:Int))), he, (leads_ren [] (l := [(1, .c (.ptr 10000000 0)), (3, .c (.int .i64 ((i + ((a0_0, a0_1).1.getD i1.toNat 0)) + (1:Int)))), (4, .c (.int .i64 (i1 + (1:Int))))]) (st' := [(10000000, .rc [.imm (.int .i64) (a0_0, a0_1).1, .imm (.pair (.int .i64) (.pair (.sl (.int .i64)) (.pair (.sl (.int .i64)) (.pair (.int .i64) (.sl (.sl (.int .i64))))))) (a0_0, a0_1).2])]) rfl rfl ⟨⟨.inl rfl, .inl rfl, trivial⟩, trivial⟩ ⟨⟨⟨rfl, rfl⟩, rfl⟩, rfl, rfl, trivial⟩)⟩
        · have he := ok_t he hb
          have he := ok_some he
          exact ⟨rfl, _, _, (leads_ren [] (l := [(2, .c (.bool false))]) (st' := []) rfl rfl trivial ⟨.inr rfl, trivial⟩), he⟩
      · have he := ok_f he hb
        exact ⟨i, ok_up he, (leads_ren [(10001000, 10000000)] (l := [(1, .c (.ptr 10001000 0)), (3, .c (.int .i64 i))]) (st' := [(10001000, .rc [.imm (.int .i64) (a0_0, a0_1).1, .imm (.pair (.int .i64) (.pair (.sl (.int .i64)) (.pair (.sl (.int .i64)) (.pair (.int .i64) (.sl (.sl (.int .i64))))))) (a0_0, a0_1).2])]) rfl rfl ⟨⟨.inl rfl, .inl rfl, trivial⟩, trivial⟩ ⟨⟨⟨rfl, rfl⟩, rfl⟩, rfl, trivial⟩)⟩
    · have he := ok_f he hb
      exact ⟨i, ok_up he, (leads_ren [(10001000, 10000000)] (l := [(1, .c (.ptr 10001000 0)), (3, .c (.int .i64 i))]) (st' := [(10001000, .rc [.imm (.int .i64) (a0_0, a0_1).1, .imm (.pair (.int .i64) (.pair (.sl (.int .i64)) (.pair (.sl (.int .i64)) (.pair (.int .i64) (.sl (.sl (.int .i64))))))) (a0_0, a0_1).2])]) rfl rfl ⟨⟨.inl rfl, .inl rfl, trivial⟩, trivial⟩ ⟨⟨⟨rfl, rfl⟩, rfl⟩, rfl, trivial⟩)⟩

noncomputable def c_spec_l9Coefs : Con := fun args st => match args, st with
  | [.agg [.imm (.int .i64) m_0, .imm (.pair (.int .i64) (.pair (.sl (.int .i64)) (.pair (.sl (.int .i64)) (.pair (.int .i64) (.sl (.sl (.int .i64))))))) m_1], .c (.imm (.int .i64) coefs)], [] => .opt (Bool) (spec_l9Coefs (m_0, m_1) coefs) (fun r => .ret (.c (.bool r)) [])
  | _, _ => .fail

noncomputable def C_spec_l9Coefs : Cfg := { y := tys, n := 35, h := 0, tab := [(196, c_spec_ModelValid)], cut := [], hand := [], good := [], deep := [], sched := [] }

theorem t_spec_l9Coefs : TabOk Try.prog C_spec_l9Coefs := by
  refine tabOk_of ?_
  simp only [C_spec_l9Coefs, List.forall_mem_cons]
  exact ⟨k_spec_ModelValid, fun p h => by cases h⟩

theorem k_spec_l9Coefs : Entry Try.prog 104 c_spec_l9Coefs := by
  refine entry_by (C := C_spec_l9Coefs) mixed tys_ok t_spec_l9Coefs (fn := Try.f104) (c := bd Try.f104) (by kernel_rfl) (by kernel_rfl) (by kernel_rfl) (by kernel_rfl) ?_
  intro args st k he
  unfold c_spec_l9Coefs at he
  split at he
  rotate_left
  · exact he.elim
  rename_i m_0 m_1 coefs
  have he : Ok (spec_l9Coefs (m_0, m_1) coefs) (fun r => k (.c (.bool r)) []) := he
  refine ⟨rfl, rfl, ?_⟩
  obtain ⟨r1_, hr, he⟩ := ok_bind he
  refine ⟨r1_, hr, ?_⟩
  refine And.intro (fun hb => ?_) (fun hb => ?_)
  · have he := ok_f he hb
    refine And.intro (fun hb => ?_) (fun hb => ?_)
    · have he := ok_t he hb
      have he := ok_some he
      exact ⟨rfl, _, _, (leads_ren [] (l := [(4, .c (.bool false))]) (st' := []) rfl rfl trivial ⟨.inr rfl, trivial⟩), he⟩
    · have he := ok_f he hb
      refine loop_model mixed tys_ok t_spec_l9Coefs (S := Int) (I := (fun i => (envOf [(1, .c (.imm (.int .i64) coefs)), (5, .c (.int .i64 i))], []))) (f := spec_l9Coefs_l1 coefs) (K := (fun r => k (.c (.bool r)) [])) he (leads_ren [] (l := [(1, .c (.imm (.int .i64) coefs)), (5, .c (.int .i64 (0:Int)))]) (st' := []) rfl rfl trivial ⟨.inl rfl, rfl, trivial⟩) ?_
      rintro i J1 he
      refine And.intro (fun hb => ?_) (fun hb => ?_)
      · have he := ok_t he hb
        have he := ok_rq he
        refine And.intro he.1 ?_
        have he := he.2
        refine And.intro (fun hb => ?_) (fun hb => ?_)
        · have he := ok_f he hb
          have he := ok_rq he
          refine And.intro he.1 ?_
          have he := he.2
          refine And.intro (fun hb => ?_) (fun hb => ?_)
          · have he := ok_t he hb
            have he := ok_some he
            exact ⟨rfl, _, _, Leads.refl _ _, he⟩
          · have he := ok_f he hb
            have he := ok_rq he
            refine And.intro he.1 ?_
            have he := he.2
            have he := ok_some he
            exact ⟨(i + (1:Int)), he, (leads_ren [] (l := [(1, .c (.imm (.int .i64) coefs)), (5, .c (.int .i64 (i + (1:Int))))]) (st' := []) rfl rfl trivial ⟨.inl rfl, rfl, trivial⟩)⟩
        · have he := ok_t he hb
          have he := ok_some he
          exact ⟨rfl, _, _, Leads.refl _ _, he⟩
      · have he := ok_f he hb
        have he := ok_some he
        exact ⟨rfl, _, _, Leads.refl _ _, he⟩
  · have he := ok_t he hb
    have he := ok_some he
    exact ⟨rfl, _, _, (leads_ren [] (l := [(4, .c (.bool false))]) (st' := []) rfl rfl trivial ⟨.inr rfl, trivial⟩), he⟩

noncomputable def c_spec_l6Ints : Con := fun args st => match args, st with
  | [.c (.imm (.int .i64) a), .c (.imm (.int .i64) b)], [] => .opt (Bool) (spec_l6Ints a b) (fun r => .ret (.c (.bool r)) [])
  | _, _ => .fail

noncomputable def C_spec_l6Ints : Cfg := { y := tys, n := 26, h := 0, tab := [], cut := [], hand := [], good := [], deep := [], sched := [] }

theorem t_spec_l6Ints : TabOk Try.prog C_spec_l6Ints := tabOk_of (fun p h => by cases h)

theorem k_spec_l6Ints : Entry Try.prog 266 c_spec_l6Ints := by
  refine entry_by (C := C_spec_l6Ints) mixed tys_ok t_spec_l6Ints (fn := Try.f266) (c := bd Try.f266) (by kernel_rfl) (by kernel_rfl) (by kernel_rfl) (by kernel_rfl) ?_
  intro args st k he
  unfold c_spec_l6Ints at he
  split at he
  rotate_left
  · exact he.elim
  rename_i a b
  have he : Ok (spec_l6Ints a b) (fun r => k (.c (.bool r)) []) := he
  refine ⟨rfl, rfl, ?_⟩
  refine And.intro (fun hb => ?_) (fun hb => ?_)
  · have he := ok_t he hb
    have he := ok_some he
    exact ⟨rfl, _, _, Leads.refl _ _, he⟩
  · have he := ok_f he hb
    refine loop_model mixed tys_ok t_spec_l6Ints (S := Int) (I := (fun i => (envOf [(0, .c (.imm (.int .i64) a)), (1, .c (.imm (.int .i64) b)), (5, .c (.int .i64 i))], []))) (f := spec_l6Ints_l1 a b) (K := (fun r => k (.c (.bool r)) [])) he (leads_ren [] (l := [(0, .c (.imm (.int .i64) a)), (1, .c (.imm (.int .i64) b)), (5, .c (.int .i64 (0:Int)))]) (st' := []) rfl rfl trivial ⟨.inl rfl, .inl rfl, rfl, trivial⟩) ?_
    rintro i J1 he
    refine And.intro (fun hb => ?_) (fun hb => ?_)
    · have he := ok_t he hb
      refine And.intro (by kernel_rfl) ?_
      have he := ok_rq he
      refine And.intro he.1 ?_
      have he := he.2
      have he := ok_rq he
      refine And.intro he.1 ?_
      have he := he.2
      refine And.intro (fun hb => ?_) (fun hb => ?_)
      · have he := ok_t he hb
        have he := ok_some he
        exact ⟨rfl, _, _, Leads.refl _ _, he⟩
      · have he := ok_f he hb
        have he := ok_rq he
        refine And.intro he.1 ?_
        have he := he.2
        have he := ok_some he
        exact ⟨(i + (1:Int)), he, (leads_ren [] (l := [(0, .c (.imm (.int .i64) a)), (1, .c (.imm (.int .i64) b)), (5, .c (.int .i64 (i + (1:Int))))]) (st' := []) rfl rfl trivial ⟨.inl rfl, .inl rfl, rfl, trivial⟩)⟩
    · have he := ok_f he hb
      have he := ok_some he
      exact ⟨rfl, _, _, Leads.refl _ _, he⟩

noncomputable def c_spec_l6Holds : Con := fun args st => match args, st with
  | [.agg [.int .i64 a0_0, .imm (.int .i64) a0_1, .imm (.int .i64) a0_2, .int .i64 a0_3, .imm (.sl (.int .i64)) a0_4], .c (.imm (.int .i64) a1)], [] => .opt (Bool) (spec_l6Holds (a0_0, (a0_1, (a0_2, (a0_3, a0_4)))) a1) (fun r => .ret (.c (.bool r)) [])
  | _, _ => .fail

noncomputable def C_spec_l6Holds : Cfg := { y := tys, n := 102, h := 0, tab := [(266, c_spec_l6Ints)], cut := [6], hand := [], good := [], deep := [], sched := [] }

theorem t_spec_l6Holds : TabOk Try.prog C_spec_l6Holds := by
  refine tabOk_of ?_
  simp only [C_spec_l6Holds, List.forall_mem_cons]
  exact ⟨k_spec_l6Ints, fun p h => by cases h⟩

theorem k_spec_l6Holds : Entry Try.prog 226 c_spec_l6Holds := by
  refine entry_by (C := C_spec_l6Holds) mixed tys_ok t_spec_l6Holds (fn := Try.f226) (c := bd Try.f226) (by kernel_rfl) (by kernel_rfl) (by kernel_rfl) (by kernel_rfl) ?_
  intro args st k he
  unfold c_spec_l6Holds at he
  split at he
  rotate_left
  · exact he.elim
  rename_i a0_0 a0_1 a0_2 a0_3 a0_4 a1
  have he : Ok (spec_l6Holds (a0_0, (a0_1, (a0_2, (a0_3, a0_4)))) a1) (fun r => k (.c (.bool r)) []) := he
  refine ⟨rfl, rfl, ?_⟩
  refine seq_model mixed tys_ok t_spec_l6Holds (S := (List Int)) (I := (fun i2 => (envOf [(2, .c (.ptr 10001000 0)), (5, .c (.own 10001001 false))], [(10001000, .rc [.int .i64 (a0_0, (a0_1, (a0_2, (a0_3, a0_4)))).1, .imm (.int .i64) (a0_0, (a0_1, (a0_2, (a0_3, a0_4)))).2.1, .imm (.int .i64) (a0_0, (a0_1, (a0_2, (a0_3, a0_4)))).2.2.1, .int .i64 (a0_0, (a0_1, (a0_2, (a0_3, a0_4)))).2.2.2.1, .imm (.sl (.int .i64)) (a0_0, (a0_1, (a0_2, (a0_3, a0_4)))).2.2.2.2]), (10001001, .sl 3 (.int .i64) i2 .shallow)]))) (B := fun s => Ok (spec_l6Holds_j1 (a0_0, (a0_1, (a0_2, (a0_3, a0_4)))) s) (fun r => k (.c (.bool r)) [])) ?_ ?_
  · rintro i2 he
    refine And.intro (fun hb => ?_) (fun hb => ?_)
    · have he := ok_t he hb
      refine loop_model mixed tys_ok t_spec_l6Holds (S := Int × Int) (I := (fun (i3, i4) => (envOf [(2, .c (.ptr 10002000 0)), (5, .c (.own 10002001 false)), (7, .c (.int .i64 i3)), (8, .c (.int .i64 i4))], [(10002000, .rc [.int .i64 (a0_0, (a0_1, (a0_2, (a0_3, a0_4)))).1, .imm (.int .i64) (a0_0, (a0_1, (a0_2, (a0_3, a0_4)))).2.1, .imm (.int .i64) (a0_0, (a0_1, (a0_2, (a0_3, a0_4)))).2.2.1, .int .i64 (a0_0, (a0_1, (a0_2, (a0_3, a0_4)))).2.2.2.1, .imm (.sl (.int .i64)) (a0_0, (a0_1, (a0_2, (a0_3, a0_4)))).2.2.2.2]), (10002001, .sl 3 (.int .i64) i2 .shallow)]))) (f := spec_l6Holds_l1 (a0_0, (a0_1, (a0_2, (a0_3, a0_4)))) i2) (K := (fun r => k (.c (.bool r)) [])) he (leads_ren [(10002000, 10001000), (10002001, 10001001)] (l := [(2, .c (.ptr 10002000 0)), (5, .c (.own 10002001 false)), (7, .c (.int .i64 (0:Int))), (8, .c (.int .i64 (0:Int)))]) (st' := [(10002000, .rc [.int .i64 (a0_0, (a0_1, (a0_2, (a0_3, a0_4)))).1, .imm (.int .i64) (a0_0, (a0_1, (a0_2, (a0_3, a0_4)))).2.1, .imm (.int .i64) (a0_0, (a0_1, (a0_2, (a0_3, a0_4)))).2.2.1, .int .i64 (a0_0, (a0_1, (a0_2, (a0_3, a0_4)))).2.2.2.1, .imm (.sl (.int .i64)) (a0_0, (a0_1, (a0_2, (a0_3, a0_4)))).2.2.2.2]), (10002001, .sl 3 (.int .i64) i2 .shallow)]) rfl rfl ⟨⟨rfl, .inl rfl, .inl rfl, rfl, .inl rfl, trivial⟩, ⟨rfl, rfl⟩, trivial⟩ ⟨⟨⟨rfl, rfl⟩, rfl⟩, ⟨⟨rfl, rfl⟩, trivial⟩, rfl, rfl, trivial⟩) ?_
      rintro ⟨i3, i4⟩ J1 he
      refine And.intro (fun hb => ?_) (fun hb => ?_)
      · have he := ok_t he hb
        refine And.intro (by kernel_rfl) ?_
        have he := ok_rq he
        refine And.intro he.1 ?_
        have he := he.2
        have he := ok_rq he
        refine And.intro he.1 ?_
        have he := he.2
        have he := ok_rq he
        refine And.intro he.1 ?_
        have he := he.2
        have he := ok_rq he
        refine And.intro he.1 ?_
        have he := he.2
        have he := ok_rq he
        refine And.intro he.1 ?_
        have he := he.2
        have he := ok_some he
        exact ⟨((i3 + (((a0_0, (a0_1, (a0_2, (a0_3, a0_4)))).2.2.1.getD i4.toNat 0) * (i2.getD i4.toNat 0))), (i4 + (1:Int))), he, (leads_ren [] (l := [(2, .c (.ptr 10002000 0)), (5, .c (.own 10002001 false)), (7, .c (.int .i64 (i3 + (((a0_0, (a0_1, (a0_2, (a0_3, a0_4)))).2.2.1.getD i4.toNat 0) * (i2.getD i4.toNat 0))))), (8, .c (.int .i64 (i4 + (1:Int))))]) (st' := [(10002000, .rc [.int .i64 (a0_0, (a0_1, (a0_2, (a0_3, a0_4)))).1, .imm (.int .i64) (a0_0, (a0_1, (a0_2, (a0_3, a0_4)))).2.1, .imm (.int .i64) (a0_0, (a0_1, (a0_2, (a0_3, a0_4)))).2.2.1, .int .i64 (a0_0, (a0_1, (a0_2, (a0_3, a0_4)))).2.2.2.1, .imm (.sl (.int .i64)) (a0_0, (a0_1, (a0_2, (a0_3, a0_4)))).2.2.2.2]), (10002001, .sl 3 (.int .i64) i2 .shallow)]) rfl rfl ⟨⟨rfl, .inl rfl, .inl rfl, rfl, .inl rfl, trivial⟩, ⟨rfl, rfl⟩, trivial⟩ ⟨⟨⟨rfl, rfl⟩, rfl⟩, ⟨⟨rfl, rfl⟩, trivial⟩, rfl, rfl, trivial⟩)⟩
      · have he := ok_f he hb
        have he := ok_some he
        exact ⟨rfl, _, _, (leads_ren [] (l := [(4, .c (.bool (decide ((a0_0, (a0_1, (a0_2, (a0_3, a0_4)))).2.2.2.1 ≤ i3))))]) (st' := []) rfl rfl trivial ⟨.inl rfl, trivial⟩), he⟩
    · have he := ok_f he hb
      refine And.intro (fun hb => ?_) (fun hb => ?_)
      · have he := ok_t he hb
        refine loop_model mixed tys_ok t_spec_l6Holds (S := Int) (I := (fun i5 => (envOf [(5, .c (.own 10003000 false)), (9, .c (.int .i64 i5))], [(10003000, .sl 3 (.int .i64) i2 .shallow)]))) (f := spec_l6Holds_l2 i2) (K := (fun r => k (.c (.bool r)) [])) he (leads_ren [(10003000, 10001001)] (l := [(5, .c (.own 10003000 false)), (9, .c (.int .i64 (0:Int)))]) (st' := [(10003000, .sl 3 (.int .i64) i2 .shallow)]) rfl rfl ⟨⟨rfl, rfl⟩, trivial⟩ ⟨⟨⟨rfl, rfl⟩, trivial⟩, rfl, trivial⟩) ?_
        rintro i5 J1 he
        refine And.intro (fun hb => ?_) (fun hb => ?_)
        · have he := ok_t he hb
          refine loop_model mixed tys_ok t_spec_l6Holds (S := Int) (I := (fun i6 => (envOf [(5, .c (.own 10004000 false)), (9, .c (.int .i64 i5)), (10, .c (.int .i64 i6))], [(10004000, .sl 3 (.int .i64) i2 .shallow)]))) (f := spec_l6Holds_l3 i2 i5) (K := (LK J1 (fun r => k (.c (.bool r)) []))) he (leads_ren [(10004000, 10003000)] (l := [(5, .c (.own 10004000 false)), (9, .c (.int .i64 i5)), (10, .c (.int .i64 (0:Int)))]) (st' := [(10004000, .sl 3 (.int .i64) i2 .shallow)]) rfl rfl ⟨⟨rfl, rfl⟩, trivial⟩ ⟨⟨⟨rfl, rfl⟩, trivial⟩, rfl, rfl, trivial⟩) ?_
          rintro i6 J2 he
          refine And.intro (fun hb => ?_) (fun hb => ?_)
          · have he := ok_t he hb
            refine And.intro (by kernel_rfl) ?_
            have he := ok_rq he
            refine And.intro he.1 ?_
            have he := he.2
            have he := ok_rq he
            refine And.intro he.1 ?_
            have he := he.2
            refine And.intro (fun hb => ?_) (fun hb => ?_)
            · have he := ok_t he hb
              have he := ok_some he
              exact ⟨rfl, _, _, (leads_ren [] (l := [(4, .c (.bool false))]) (st' := []) rfl rfl trivial ⟨.inr rfl, trivial⟩), he⟩
            · have he := ok_f he hb
              have he := ok_rq he
              refine And.intro he.1 ?_
              have he := he.2
              have he := ok_some he
              exact ⟨(i6 + (1:Int)), he, (leads_ren [] (l := [(5, .c (.own 10004000 false)), (9, .c (.int .i64 i5)), (10, .c (.int .i64 (i6 + (1:Int))))]) (st' := [(10004000, .sl 3 (.int .i64) i2 .shallow)]) rfl rfl ⟨⟨rfl, rfl⟩, trivial⟩ ⟨⟨⟨rfl, rfl⟩, trivial⟩, rfl, rfl, trivial⟩)⟩
          · have he := ok_f he hb
            have he := ok_rq he
            refine And.intro he.1 ?_
            have he := he.2
            have he := ok_some he
            exact ⟨(i5 + (1:Int)), he, (leads_ren [(10003000, 10004000)] (l := [(5, .c (.own 10003000 false)), (9, .c (.int .i64 (i5 + (1:Int))))]) (st' := [(10003000, .sl 3 (.int .i64) i2 .shallow)]) rfl rfl ⟨⟨rfl, rfl⟩, trivial⟩ ⟨⟨⟨rfl, rfl⟩, trivial⟩, rfl, trivial⟩)⟩
        · have he := ok_f he hb
          have he := ok_some he
          exact ⟨rfl, _, _, (leads_ren [] (l := [(4, .c (.bool true))]) (st' := []) rfl rfl trivial ⟨.inr rfl, trivial⟩), he⟩
      · have he := ok_f he hb
        refine And.intro (fun hb => ?_) (fun hb => ?_)
        · have he := ok_t he hb
          refine And.intro (by kernel_rfl) ?_
          have he := ok_rq he
          refine And.intro he.1 ?_
          have he := he.2
          have he := ok_rq he
          refine And.intro he.1 ?_
          have he := he.2
          have he := ok_some he
          exact ⟨rfl, _, _, (leads_ren [] (l := [(4, .c (.bool (decide ((i2.getD (0:Int).toNat 0) < (i2.getD (1:Int).toNat 0)))))]) (st' := []) rfl rfl trivial ⟨.inl rfl, trivial⟩), he⟩
        · have he := ok_f he hb
          refine loop_model mixed tys_ok t_spec_l6Holds (S := Int) (I := (fun i7 => (envOf [(2, .c (.ptr 10005000 0)), (5, .c (.own 10005001 false)), (11, .c (.int .i64 i7))], [(10005000, .rc [.int .i64 (a0_0, (a0_1, (a0_2, (a0_3, a0_4)))).1, .imm (.int .i64) (a0_0, (a0_1, (a0_2, (a0_3, a0_4)))).2.1, .imm (.int .i64) (a0_0, (a0_1, (a0_2, (a0_3, a0_4)))).2.2.1, .int .i64 (a0_0, (a0_1, (a0_2, (a0_3, a0_4)))).2.2.2.1, .imm (.sl (.int .i64)) (a0_0, (a0_1, (a0_2, (a0_3, a0_4)))).2.2.2.2]), (10005001, .sl 3 (.int .i64) i2 .shallow)]))) (f := spec_l6Holds_l4 (a0_0, (a0_1, (a0_2, (a0_3, a0_4)))) i2) (K := (fun r => k (.c (.bool r)) [])) he (leads_ren [(10005000, 10001000), (10005001, 10001001)] (l := [(2, .c (.ptr 10005000 0)), (5, .c (.own 10005001 false)), (11, .c (.int .i64 (0:Int)))]) (st' := [(10005000, .rc [.int .i64 (a0_0, (a0_1, (a0_2, (a0_3, a0_4)))).1, .imm (.int .i64) (a0_0, (a0_1, (a0_2, (a0_3, a0_4)))).2.1, .imm (.int .i64) (a0_0, (a0_1, (a0_2, (a0_3, a0_4)))).2.2.1, .int .i64 (a0_0, (a0_1, (a0_2, (a0_3, a0_4)))).2.2.2.1, .imm (.sl (.int .i64)) (a0_0, (a0_1, (a0_2, (a0_3, a0_4)))).2.2.2.2]), (10005001, .sl 3 (.int .i64) i2 .shallow)]) rfl rfl ⟨⟨rfl, .inl rfl, .inl rfl, rfl, .inl rfl, trivial⟩, ⟨rfl, rfl⟩, trivial⟩ ⟨⟨⟨rfl, rfl⟩, rfl⟩, ⟨⟨rfl, rfl⟩, trivial⟩, rfl, trivial⟩) ?_
          rintro i7 J1 he
          refine And.intro (fun hb => ?_) (fun hb => ?_)
          · have he := ok_t he hb
            have he := ok_rq he
            refine And.intro he.1 ?_
            have he := he.2
            obtain ⟨r1_, hr, he⟩ := ok_bind he
            refine ⟨r1_, hr, ?_⟩
            refine And.intro (fun hb => ?_) (fun hb => ?_)
            · have he := ok_t he hb
              have he := ok_some he
              exact ⟨rfl, _, _, (leads_ren [] (l := [(4, .c (.bool true))]) (st' := []) rfl rfl trivial ⟨.inr rfl, trivial⟩), he⟩
            · have he := ok_f he hb
              have he := ok_rq he
              refine And.intro he.1 ?_
              have he := he.2
              have he := ok_some he
              exact ⟨(i7 + (1:Int)), he, (leads_ren [] (l := [(2, .c (.ptr 10005000 0)), (5, .c (.own 10005001 false)), (11, .c (.int .i64 (i7 + (1:Int))))]) (st' := [(10005000, .rc [.int .i64 (a0_0, (a0_1, (a0_2, (a0_3, a0_4)))).1, .imm (.int .i64) (a0_0, (a0_1, (a0_2, (a0_3, a0_4)))).2.1, .imm (.int .i64) (a0_0, (a0_1, (a0_2, (a0_3, a0_4)))).2.2.1, .int .i64 (a0_0, (a0_1, (a0_2, (a0_3, a0_4)))).2.2.2.1, .imm (.sl (.int .i64)) (a0_0, (a0_1, (a0_2, (a0_3, a0_4)))).2.2.2.2]), (10005001, .sl 3 (.int .i64) i2 .shallow)]) rfl rfl ⟨⟨rfl, .inl rfl, .inl rfl, rfl, .inl rfl, trivial⟩, ⟨rfl, rfl⟩, trivial⟩ ⟨⟨⟨rfl, rfl⟩, rfl⟩, ⟨⟨rfl, rfl⟩, trivial⟩, rfl, trivial⟩)⟩
          · have he := ok_f he hb
            have he := ok_some he
            exact ⟨rfl, _, _, (leads_ren [] (l := [(4, .c (.bool false))]) (st' := []) rfl rfl trivial ⟨.inr rfl, trivial⟩), he⟩
  · skip
    refine loop_model mixed tys_ok t_spec_l6Holds (S := Int × (List Int)) (I := (fun (i, i1) => (envOf [(1, .c (.imm (.int .i64) a1)), (2, .c (.ptr 10000000 0)), (5, .c (.own 10000001 false)), (6, .c (.int .i64 i))], [(10000000, .rc [.int .i64 (a0_0, (a0_1, (a0_2, (a0_3, a0_4)))).1, .imm (.int .i64) (a0_0, (a0_1, (a0_2, (a0_3, a0_4)))).2.1, .imm (.int .i64) (a0_0, (a0_1, (a0_2, (a0_3, a0_4)))).2.2.1, .int .i64 (a0_0, (a0_1, (a0_2, (a0_3, a0_4)))).2.2.2.1, .imm (.sl (.int .i64)) (a0_0, (a0_1, (a0_2, (a0_3, a0_4)))).2.2.2.2]), (10000001, .sl 3 (.int .i64) i1 .shallow)]))) (f := spec_l6Holds_l5 (a0_0, (a0_1, (a0_2, (a0_3, a0_4)))) a1) (K := (fun r => k (.c (.bool r)) [])) he (leads_ren [(10000000, 2), (10000001, 12)] (l := [(1, .c (.imm (.int .i64) a1)), (2, .c (.ptr 10000000 0)), (5, .c (.own 10000001 false)), (6, .c (.int .i64 (0:Int)))]) (st' := [(10000000, .rc [.int .i64 (a0_0, (a0_1, (a0_2, (a0_3, a0_4)))).1, .imm (.int .i64) (a0_0, (a0_1, (a0_2, (a0_3, a0_4)))).2.1, .imm (.int .i64) (a0_0, (a0_1, (a0_2, (a0_3, a0_4)))).2.2.1, .int .i64 (a0_0, (a0_1, (a0_2, (a0_3, a0_4)))).2.2.2.1, .imm (.sl (.int .i64)) (a0_0, (a0_1, (a0_2, (a0_3, a0_4)))).2.2.2.2]), (10000001, .sl 3 (.int .i64) ([] : List Int) .shallow)]) rfl rfl ⟨⟨rfl, .inl rfl, .inl rfl, rfl, .inl rfl, trivial⟩, ⟨rfl, rfl⟩, trivial⟩ ⟨.inl rfl, ⟨⟨rfl, rfl⟩, rfl⟩, ⟨⟨rfl, rfl⟩, trivial⟩, rfl, trivial⟩) ?_
    rintro ⟨i, i1⟩ J1 he
    refine And.intro (fun hb => ?_) (fun hb => ?_)
    · have he := ok_t he hb
      have he := ok_rq he
      refine And.intro he.1 ?_
      have he := he.2
      have he := ok_rq he
      refine And.intro he.1 ?_
      have he := he.2
      have he := ok_rq he
      refine And.intro he.1 ?_
      have he := he.2
      have he := ok_rq he
      refine And.intro he.1 ?_
      have he := he.2
      have he := ok_some he
      exact ⟨((i + (1:Int)), (i1 ++ [(a1.getD ((a0_0, (a0_1, (a0_2, (a0_3, a0_4)))).2.1.getD i.toNat 0).toNat 0)])), he, (leads_ren [(10000001, 30)] (l := [(1, .c (.imm (.int .i64) a1)), (2, .c (.ptr 10000000 0)), (5, .c (.own 10000001 false)), (6, .c (.int .i64 (i + (1:Int))))]) (st' := [(10000000, .rc [.int .i64 (a0_0, (a0_1, (a0_2, (a0_3, a0_4)))).1, .imm (.int .i64) (a0_0, (a0_1, (a0_2, (a0_3, a0_4)))).2.1, .imm (.int .i64) (a0_0, (a0_1, (a0_2, (a0_3, a0_4)))).2.2.1, .int .i64 (a0_0, (a0_1, (a0_2, (a0_3, a0_4)))).2.2.2.1, .imm (.sl (.int .i64)) (a0_0, (a0_1, (a0_2, (a0_3, a0_4)))).2.2.2.2]), (10000001, .sl 3 (.int .i64) (i1 ++ [(a1.getD ((a0_0, (a0_1, (a0_2, (a0_3, a0_4)))).2.1.getD i.toNat 0).toNat 0)]) .shallow)]) rfl rfl ⟨⟨rfl, .inl rfl, .inl rfl, rfl, .inl rfl, trivial⟩, ⟨rfl, rfl⟩, trivial⟩ ⟨.inl rfl, ⟨⟨rfl, rfl⟩, rfl⟩, ⟨⟨rfl, rfl⟩, trivial⟩, rfl, trivial⟩)⟩
    · have he := ok_f he hb
      exact ⟨i1, ok_up he, (leads_ren [(10001000, 10000000), (10001001, 10000001)] (l := [(2, .c (.ptr 10001000 0)), (5, .c (.own 10001001 false))]) (st' := [(10001000, .rc [.int .i64 (a0_0, (a0_1, (a0_2, (a0_3, a0_4)))).1, .imm (.int .i64) (a0_0, (a0_1, (a0_2, (a0_3, a0_4)))).2.1, .imm (.int .i64) (a0_0, (a0_1, (a0_2, (a0_3, a0_4)))).2.2.1, .int .i64 (a0_0, (a0_1, (a0_2, (a0_3, a0_4)))).2.2.2.1, .imm (.sl (.int .i64)) (a0_0, (a0_1, (a0_2, (a0_3, a0_4)))).2.2.2.2]), (10001001, .sl 3 (.int .i64) i1 .shallow)]) rfl rfl ⟨⟨rfl, .inl rfl, .inl rfl, rfl, .inl rfl, trivial⟩, ⟨rfl, rfl⟩, trivial⟩ ⟨⟨⟨rfl, rfl⟩, rfl⟩, ⟨⟨rfl, rfl⟩, trivial⟩, trivial⟩)⟩

noncomputable def c_spec_l6Solves : Con := fun args st => match args, st with
  | [.agg [.imm (.int .i64) m_0, .imm (.pair (.int .i64) (.pair (.sl (.int .i64)) (.pair (.sl (.int .i64)) (.pair (.int .i64) (.sl (.sl (.int .i64))))))) m_1], .c (.imm (.int .i64) cells)], [] => .opt (Bool) (spec_l6Solves (m_0, m_1) cells) (fun r => .ret (.c (.bool r)) [])
  | _, _ => .fail

noncomputable def C_spec_l6Solves : Cfg := { y := tys, n := 21, h := 0, tab := [(226, c_spec_l6Holds)], cut := [], hand := [], good := [], deep := [], sched := [] }

theorem t_spec_l6Solves : TabOk Try.prog C_spec_l6Solves := by
  refine tabOk_of ?_
  simp only [C_spec_l6Solves, List.forall_mem_cons]
  exact ⟨k_spec_l6Holds, fun p h => by cases h⟩

theorem k_spec_l6Solves : Entry Try.prog 151 c_spec_l6Solves := by
  refine entry_by (C := C_spec_l6Solves) mixed tys_ok t_spec_l6Solves (fn := Try.f151) (c := bd Try.f151) (by kernel_rfl) (by kernel_rfl) (by kernel_rfl) (by kernel_rfl) ?_
  intro args st k he
  unfold c_spec_l6Solves at he
  split at he
  rotate_left
  · exact he.elim
  rename_i m_0 m_1 cells
  have he : Ok (spec_l6Solves (m_0, m_1) cells) (fun r => k (.c (.bool r)) []) := he
  refine ⟨rfl, rfl, ?_⟩
  refine loop_model mixed tys_ok t_spec_l6Solves (S := Int) (I := (fun i => (envOf [(1, .c (.imm (.int .i64) cells)), (2, .c (.ptr 10000000 0)), (5, .c (.int .i64 i))], [(10000000, .rc [.imm (.int .i64) (m_0, m_1).1, .imm (.pair (.int .i64) (.pair (.sl (.int .i64)) (.pair (.sl (.int .i64)) (.pair (.int .i64) (.sl (.sl (.int .i64))))))) (m_0, m_1).2])]))) (f := spec_l6Solves_l1 (m_0, m_1) cells) (K := (fun r => k (.c (.bool r)) [])) he (leads_ren [(10000000, 2)] (l := [(1, .c (.imm (.int .i64) cells)), (2, .c (.ptr 10000000 0)), (5, .c (.int .i64 (0:Int)))]) (st' := [(10000000, .rc [.imm (.int .i64) (m_0, m_1).1, .imm (.pair (.int .i64) (.pair (.sl (.int .i64)) (.pair (.sl (.int .i64)) (.pair (.int .i64) (.sl (.sl (.int .i64))))))) (m_0, m_1).2])]) rfl rfl ⟨⟨.inl rfl, .inl rfl, trivial⟩, trivial⟩ ⟨.inl rfl, ⟨⟨rfl, rfl⟩, rfl⟩, rfl, trivial⟩) ?_
  rintro i J1 he
  refine And.intro (fun hb => ?_) (fun hb => ?_)
  · have he := ok_t he hb
    have he := ok_rq he
    refine And.intro he.1 ?_
    have he := he.2
    obtain ⟨r1_, hr, he⟩ := ok_bind he
    refine ⟨r1_, hr, ?_⟩
    refine And.intro (fun hb => ?_) (fun hb => ?_)
    · have he := ok_t he hb
      have he := ok_some he
      exact ⟨rfl, _, _, (leads_ren [] (l := [(4, .c (.bool false))]) (st' := []) rfl rfl trivial ⟨.inr rfl, trivial⟩), he⟩
    · have he := ok_f he hb
      have he := ok_rq he
      refine And.intro he.1 ?_
      have he := he.2
      have he := ok_some he
      exact ⟨(i + (1:Int)), he, (leads_ren [] (l := [(1, .c (.imm (.int .i64) cells)), (2, .c (.ptr 10000000 0)), (5, .c (.int .i64 (i + (1:Int))))]) (st' := [(10000000, .rc [.imm (.int .i64) (m_0, m_1).1, .imm (.pair (.int .i64) (.pair (.sl (.int .i64)) (.pair (.sl (.int .i64)) (.pair (.int .i64) (.sl (.sl (.int .i64))))))) (m_0, m_1).2])]) rfl rfl ⟨⟨.inl rfl, .inl rfl, trivial⟩, trivial⟩ ⟨.inl rfl, ⟨⟨rfl, rfl⟩, rfl⟩, rfl, trivial⟩)⟩
  · have he := ok_f he hb
    have he := ok_some he
    exact ⟨rfl, _, _, (leads_ren [] (l := [(4, .c (.bool true))]) (st' := []) rfl rfl trivial ⟨.inr rfl, trivial⟩), he⟩

noncomputable def c_spec_l9Value : Con := fun args st => match args, st with
  | [.c (.imm (.int .i64) coefs), .c (.imm (.int .i64) cells)], [] => .opt (Int) (spec_l9Value coefs cells) (fun r => .ret (.c (.int .i64 r)) [])
  | _, _ => .fail

noncomputable def C_spec_l9Value : Cfg := { y := tys, n := 25, h := 0, tab := [], cut := [], hand := [], good := [], deep := [], sched := [] }

theorem t_spec_l9Value : TabOk Try.prog C_spec_l9Value := tabOk_of (fun p h => by cases h)

theorem k_spec_l9Value : Entry Try.prog 152 c_spec_l9Value := by
  refine entry_by (C := C_spec_l9Value) mixed tys_ok t_spec_l9Value (fn := Try.f152) (c := bd Try.f152) (by kernel_rfl) (by kernel_rfl) (by kernel_rfl) (by kernel_rfl) ?_
  intro args st k he
  unfold c_spec_l9Value at he
  split at he
  rotate_left
  · exact he.elim
  rename_i coefs cells
  have he : Ok (spec_l9Value coefs cells) (fun r => k (.c (.int .i64 r)) []) := he
  refine ⟨rfl, rfl, ?_⟩
  refine loop_model mixed tys_ok t_spec_l9Value (S := Int × Int) (I := (fun (n, i) => (envOf [(0, .c (.imm (.int .i64) coefs)), (1, .c (.imm (.int .i64) cells)), (5, .c (.int .i64 n)), (6, .c (.int .i64 i))], []))) (f := spec_l9Value_l1 coefs cells) (K := (fun r => k (.c (.int .i64 r)) [])) he (leads_ren [] (l := [(0, .c (.imm (.int .i64) coefs)), (1, .c (.imm (.int .i64) cells)), (5, .c (.int .i64 (0:Int))), (6, .c (.int .i64 (0:Int)))]) (st' := []) rfl rfl trivial ⟨.inl rfl, .inl rfl, rfl, rfl, trivial⟩) ?_
  rintro ⟨n, i⟩ J1 he
  refine And.intro (fun hb => ?_) (fun hb => ?_)
  · have he := ok_t he hb
    refine And.intro (by kernel_rfl) ?_
    have he := ok_rq he
    refine And.intro he.1 ?_
    have he := he.2
    have he := ok_rq he
    refine And.intro he.1 ?_
    have he := he.2
    have he := ok_rq he
    refine And.intro he.1 ?_
    have he := he.2
    have he := ok_rq he
    refine And.intro he.1 ?_
    have he := he.2
    have he := ok_rq he
    refine And.intro he.1 ?_
    have he := he.2
    have he := ok_some he
    exact ⟨((n + ((coefs.getD i.toNat 0) * (cells.getD i.toNat 0))), (i + (1:Int))), he, (leads_ren [] (l := [(0, .c (.imm (.int .i64) coefs)), (1, .c (.imm (.int .i64) cells)), (5, .c (.int .i64 (n + ((coefs.getD i.toNat 0) * (cells.getD i.toNat 0))))), (6, .c (.int .i64 (i + (1:Int))))]) (st' := []) rfl rfl trivial ⟨.inl rfl, .inl rfl, rfl, rfl, trivial⟩)⟩
  · have he := ok_f he hb
    have he := ok_some he
    exact ⟨rfl, _, _, Leads.refl _ _, he⟩

noncomputable def c_spec_l6Next : Con := fun args st => match args, st with
  | [.agg [.imm (.int .i64) m_0, .imm (.pair (.int .i64) (.pair (.sl (.int .i64)) (.pair (.sl (.int .i64)) (.pair (.int .i64) (.sl (.sl (.int .i64))))))) m_1], .c (.imm (.int .i64) cells)], [] => .opt (Bool × (List Int)) (spec_l6Next (m_0, m_1) cells) (fun r => .ret (.tup [.c (.own 900 false), .c (.bool r.1)]) [(900, .sl 3 (.int .i64) r.2 .shallow)])
  | _, _ => .fail

noncomputable def C_spec_l6Next : Cfg := { y := tys, n := 41, h := 0, tab := [], cut := [], hand := [], good := [], deep := [], sched := [] }

theorem t_spec_l6Next : TabOk Try.prog C_spec_l6Next := tabOk_of (fun p h => by cases h)

theorem k_spec_l6Next : Entry Try.prog 153 c_spec_l6Next := by
  refine entry_by (C := C_spec_l6Next) mixed tys_ok t_spec_l6Next (fn := Try.f153) (c := bd Try.f153) (by kernel_rfl) (by kernel_rfl) (by kernel_rfl) (by kernel_rfl) ?_
  intro args st k he
  unfold c_spec_l6Next at he
  split at he
  rotate_left
  · exact he.elim
  rename_i m_0 m_1 cells
  have he : Ok (spec_l6Next (m_0, m_1) cells) (fun r => k (.tup [.c (.own 900 false), .c (.bool r.1)]) [(900, .sl 3 (.int .i64) r.2 .shallow)]) := he
  refine ⟨rfl, rfl, ?_⟩
  have he := ok_rq he
  refine And.intro he.1 ?_
  have he := he.2
  have he := ok_rq he
  refine And.intro he.1 ?_
  have he := he.2
  refine loop_model mixed tys_ok t_spec_l6Next (S := Int × (List Int)) (I := (fun (i, out) => (envOf [(2, .c (.ptr 10000000 0)), (6, .c (.own 10000001 false)), (7, .c (.int .i64 i))], [(10000000, .rc [.imm (.int .i64) (m_0, m_1).1, .imm (.pair (.int .i64) (.pair (.sl (.int .i64)) (.pair (.sl (.int .i64)) (.pair (.int .i64) (.sl (.sl (.int .i64))))))) (m_0, m_1).2]), (10000001, .sl 3 (.int .i64) out .shallow)]))) (f := spec_l6Next_l1 (m_0, m_1)) (K := (fun r => k (.tup [.c (.own 900 false), .c (.bool r.1)]) [(900, .sl 3 (.int .i64) r.2 .shallow)])) he (leads_ren [(10000000, 2), (10000001, 10)] (l := [(2, .c (.ptr 10000000 0)), (6, .c (.own 10000001 false)), (7, .c (.int .i64 (((([] : List Int) ++ cells).length:Int) - (1:Int))))]) (st' := [(10000000, .rc [.imm (.int .i64) (m_0, m_1).1, .imm (.pair (.int .i64) (.pair (.sl (.int .i64)) (.pair (.sl (.int .i64)) (.pair (.int .i64) (.sl (.sl (.int .i64))))))) (m_0, m_1).2]), (10000001, .sl 3 (.int .i64) (([] : List Int) ++ cells) .shallow)]) rfl rfl ⟨⟨.inl rfl, .inl rfl, trivial⟩, ⟨rfl, rfl⟩, trivial⟩ ⟨⟨⟨rfl, rfl⟩, rfl⟩, ⟨⟨rfl, rfl⟩, trivial⟩, rfl, trivial⟩) ?_
  rintro ⟨i, out⟩ J1 he
  refine And.intro (fun hb => ?_) (fun hb => ?_)
  · have he := ok_t he hb
    refine And.intro (by kernel_rfl) ?_
    have he := ok_rq he
    refine And.intro he.1 ?_
    have he := he.2
    have he := ok_rq he
    refine And.intro he.1 ?_
    have he := he.2
    refine And.intro (fun hb => ?_) (fun hb => ?_)
    · have he := ok_t he hb
      have he := ok_rq he
      refine And.intro he.1 ?_
      have he := he.2
      have he := ok_rq he
      refine And.intro he.1 ?_
      have he := he.2
      have he := ok_rq he
      refine And.intro he.1 ?_
      have he := he.2
      have he := ok_some he
      exact ⟨rfl, _, _, (leads_ren [(900, 10000001)] (l := [(4, .c (.own 900 false)), (5, .c (.bool true))]) (st' := [(900, .sl 3 (.int .i64) (out.set i.toNat ((out.getD i.toNat 0) + (1:Int))) .shallow)]) rfl rfl ⟨⟨rfl, rfl⟩, trivial⟩ ⟨⟨⟨rfl, rfl⟩, trivial⟩, .inr rfl, trivial⟩), he⟩
    · have he := ok_f he hb
      have he := ok_rq he
      refine And.intro he.1 ?_
      have he := he.2
      have he := ok_rq he
      refine And.intro he.1 ?_
      have he := he.2
      have he := ok_some he
      exact ⟨((i - (1:Int)), (out.set i.toNat (0:Int))), he, (leads_ren [] (l := [(2, .c (.ptr 10000000 0)), (6, .c (.own 10000001 false)), (7, .c (.int .i64 (i - (1:Int))))]) (st' := [(10000000, .rc [.imm (.int .i64) (m_0, m_1).1, .imm (.pair (.int .i64) (.pair (.sl (.int .i64)) (.pair (.sl (.int .i64)) (.pair (.int .i64) (.sl (.sl (.int .i64))))))) (m_0, m_1).2]), (10000001, .sl 3 (.int .i64) (out.set i.toNat (0:Int)) .shallow)]) rfl rfl ⟨⟨.inl rfl, .inl rfl, trivial⟩, ⟨rfl, rfl⟩, trivial⟩ ⟨⟨⟨rfl, rfl⟩, rfl⟩, ⟨⟨rfl, rfl⟩, trivial⟩, rfl, trivial⟩)⟩
  · have he := ok_f he hb
    have he := ok_some he
    exact ⟨rfl, _, _, (leads_ren [(900, 10000001)] (l := [(4, .c (.own 900 false)), (5, .c (.bool false))]) (st' := [(900, .sl 3 (.int .i64) out .shallow)]) rfl rfl ⟨⟨rfl, rfl⟩, trivial⟩ ⟨⟨⟨rfl, rfl⟩, trivial⟩, .inr rfl, trivial⟩), he⟩

noncomputable def c_spec_MinimizeModel : Con := fun args st => match args, st with
  | [.agg [.imm (.int .i64) m_0, .imm (.pair (.int .i64) (.pair (.sl (.int .i64)) (.pair (.sl (.int .i64)) (.pair (.int .i64) (.sl (.sl (.int .i64))))))) m_1], .c (.imm (.int .i64) coefs)], [] => .opt (Bool × (List Int)) (spec_MinimizeModel (m_0, m_1) coefs) (fun r => .ret (.tup [.c (.own 900 false), .c (.bool r.1)]) [(900, .sl 3 (.int .i64) r.2 .shallow)])
  | _, _ => .fail

noncomputable def C_spec_MinimizeModel : Cfg := { y := tys, n := 48, h := 0, tab := [(104, c_spec_l9Coefs), (151, c_spec_l6Solves), (152, c_spec_l9Value), (153, c_spec_l6Next)], cut := [11, 12], hand := [], good := [], deep := [], sched := [] }

theorem t_spec_MinimizeModel : TabOk Try.prog C_spec_MinimizeModel := by
  refine tabOk_of ?_
  simp only [C_spec_MinimizeModel, List.forall_mem_cons]
  exact ⟨k_spec_l9Coefs, k_spec_l6Solves, k_spec_l9Value, k_spec_l6Next, fun p h => by cases h⟩

theorem k_spec_MinimizeModel : Entry Try.prog 51 c_spec_MinimizeModel := by
  refine entry_by (C := C_spec_MinimizeModel) mixed tys_ok t_spec_MinimizeModel (fn := Try.f51) (c := bd Try.f51) (by kernel_rfl) (by kernel_rfl) (by kernel_rfl) (by kernel_rfl) ?_
  intro args st k he
  unfold c_spec_MinimizeModel at he
  split at he
  rotate_left
  · exact he.elim
  rename_i m_0 m_1 coefs
  have he : Ok (spec_MinimizeModel (m_0, m_1) coefs) (fun r => k (.tup [.c (.own 900 false), .c (.bool r.1)]) [(900, .sl 3 (.int .i64) r.2 .shallow)]) := he
  refine ⟨rfl, rfl, ?_⟩
  obtain ⟨r1_, hr, he⟩ := ok_bind he
  refine ⟨r1_, hr, ?_⟩
  refine And.intro (fun hb => ?_) (fun hb => ?_)
  · have he := ok_t he hb
    have he := ok_some he
    exact ⟨rfl, _, _, (leads_ren [(900, 10)] (l := [(4, .c (.own 900 false)), (5, .c (.bool false))]) (st' := [(900, .sl 3 (.int .i64) ([] : List Int) .shallow)]) rfl rfl ⟨⟨rfl, rfl⟩, trivial⟩ ⟨⟨⟨rfl, rfl⟩, trivial⟩, .inr rfl, trivial⟩), he⟩
  · have he := ok_f he hb
    have he := ok_rq he
    refine And.intro he.1 ?_
    have he := he.2
    refine seq_model mixed tys_ok t_spec_MinimizeModel (S := Bool × (List Int)) (I := (fun (found3, best3) => (envOf [(6, .c (.own 10003000 false)), (7, .c (.bool found3))], [(10003000, .sl 3 (.int .i64) best3 .shallow)]))) (B := fun s => Ok (spec_MinimizeModel_j1 s) (fun r => k (.tup [.c (.own 900 false), .c (.bool r.1)]) [(900, .sl 3 (.int .i64) r.2 .shallow)])) ?_ ?_
    · rintro ⟨found3, best3⟩ he
      have he := ok_some he
      exact ⟨rfl, _, _, (leads_ren [(900, 10003000)] (l := [(4, .c (.own 900 false)), (5, .c (.bool found3))]) (st' := [(900, .sl 3 (.int .i64) best3 .shallow)]) rfl rfl ⟨⟨rfl, rfl⟩, trivial⟩ ⟨⟨⟨rfl, rfl⟩, trivial⟩, .inl rfl, trivial⟩), he⟩
    · skip
      refine loop_model mixed tys_ok t_spec_MinimizeModel (S := Bool × Bool × (List Int) × (List Int)) (I := (fun (found, more, best1, cells) => (envOf [(1, .c (.imm (.int .i64) coefs)), (2, .c (.ptr 10000000 0)), (6, .c (.own 10000001 false)), (7, .c (.bool found)), (8, .c (.own 10000002 false)), (9, .c (.bool more))], [(10000000, .rc [.imm (.int .i64) (m_0, m_1).1, .imm (.pair (.int .i64) (.pair (.sl (.int .i64)) (.pair (.sl (.int .i64)) (.pair (.int .i64) (.sl (.sl (.int .i64))))))) (m_0, m_1).2]), (10000001, .sl 3 (.int .i64) best1 .shallow), (10000002, .sl 3 (.int .i64) cells .shallow)]))) (f := spec_MinimizeModel_l1 (m_0, m_1) coefs) (K := (fun r => k (.tup [.c (.own 900 false), .c (.bool r.1)]) [(900, .sl 3 (.int .i64) r.2 .shallow)])) he (leads_ren [(10000000, 2), (10000001, 10), (10000002, 19)] (l := [(1, .c (.imm (.int .i64) coefs)), (2, .c (.ptr 10000000 0)), (6, .c (.own 10000001 false)), (7, .c (.bool false)), (8, .c (.own 10000002 false)), (9, .c (.bool true))]) (st' := [(10000000, .rc [.imm (.int .i64) (m_0, m_1).1, .imm (.pair (.int .i64) (.pair (.sl (.int .i64)) (.pair (.sl (.int .i64)) (.pair (.int .i64) (.sl (.sl (.int .i64))))))) (m_0, m_1).2]), (10000001, .sl 3 (.int .i64) ([] : List Int) .shallow), (10000002, .sl 3 (.int .i64) (List.replicate ((m_0, m_1).1.length:Int).toNat 0) .shallow)]) rfl rfl ⟨⟨.inl rfl, .inl rfl, trivial⟩, ⟨rfl, rfl⟩, ⟨rfl, rfl⟩, trivial⟩ ⟨.inl rfl, ⟨⟨rfl, rfl⟩, rfl⟩, ⟨⟨rfl, rfl⟩, trivial⟩, .inr rfl, ⟨⟨rfl, rfl⟩, trivial⟩, .inr rfl, trivial⟩) ?_
      rintro ⟨found, more, best1, cells⟩ J1 he
      refine And.intro (fun hb => ?_) (fun hb => ?_)
      · have he := ok_t he hb
        refine seq_model mixed tys_ok t_spec_MinimizeModel (S := Bool × (List Int)) (I := (fun (found2, best2) => (envOf [(1, .c (.imm (.int .i64) coefs)), (2, .c (.ptr 10002000 0)), (6, .c (.own 10002001 false)), (7, .c (.bool found2)), (8, .c (.own 10002002 false))], [(10002000, .rc [.imm (.int .i64) (m_0, m_1).1, .imm (.pair (.int .i64) (.pair (.sl (.int .i64)) (.pair (.sl (.int .i64)) (.pair (.int .i64) (.sl (.sl (.int .i64))))))) (m_0, m_1).2]), (10002001, .sl 3 (.int .i64) best2 .shallow), (10002002, .sl 3 (.int .i64) cells .shallow)]))) (B := fun s => Ok (spec_MinimizeModel_j2 (m_0, m_1) cells s) (LK J1 (fun r => k (.tup [.c (.own 900 false), .c (.bool r.1)]) [(900, .sl 3 (.int .i64) r.2 .shallow)]))) ?_ ?_
        · rintro ⟨found2, best2⟩ he
          obtain ⟨r9_, hr, he⟩ := ok_bind he
          refine ⟨r9_, hr, ?_⟩
          have he := ok_some he
          exact ⟨(found2, r9_.1, best2, r9_.2), he, (leads_ren [(10000000, 10002000), (10000001, 10002001), (10000002, 44900)] (l := [(1, .c (.imm (.int .i64) coefs)), (2, .c (.ptr 10000000 0)), (6, .c (.own 10000001 false)), (7, .c (.bool found2)), (8, .c (.own 10000002 false)), (9, .c (.bool r9_.1))]) (st' := [(10000000, .rc [.imm (.int .i64) (m_0, m_1).1, .imm (.pair (.int .i64) (.pair (.sl (.int .i64)) (.pair (.sl (.int .i64)) (.pair (.int .i64) (.sl (.sl (.int .i64))))))) (m_0, m_1).2]), (10000001, .sl 3 (.int .i64) best2 .shallow), (10000002, .sl 3 (.int .i64) r9_.2 .shallow)]) rfl rfl ⟨⟨.inl rfl, .inl rfl, trivial⟩, ⟨rfl, rfl⟩, ⟨rfl, rfl⟩, trivial⟩ ⟨.inl rfl, ⟨⟨rfl, rfl⟩, rfl⟩, ⟨⟨rfl, rfl⟩, trivial⟩, .inl rfl, ⟨⟨rfl, rfl⟩, trivial⟩, .inl rfl, trivial⟩)⟩
        · skip
          obtain ⟨r6_, hr, he⟩ := ok_bind he
          refine ⟨r6_, hr, ?_⟩
          refine And.intro (fun hb => ?_) (fun hb => ?_)
          · have he := ok_t he hb
            refine And.intro (fun hb => ?_) (fun hb => ?_)
            · have he := ok_f he hb
              obtain ⟨r7_, hr, he⟩ := ok_bind he
              refine ⟨r7_, hr, ?_⟩
              obtain ⟨r8_, hr, he⟩ := ok_bind he
              refine ⟨r8_, hr, ?_⟩
              refine And.intro (fun hb => ?_) (fun hb => ?_)
              · have he := ok_t he hb
                have he := ok_rq he
                refine And.intro he.1 ?_
                have he := he.2
                exact ⟨(true, (([] : List Int) ++ cells)), he, (leads_ren [(10002000, 10000000), (10002001, 39), (10002002, 10000002)] (l := [(1, .c (.imm (.int .i64) coefs)), (2, .c (.ptr 10002000 0)), (6, .c (.own 10002001 false)), (7, .c (.bool true)), (8, .c (.own 10002002 false))]) (st' := [(10002000, .rc [.imm (.int .i64) (m_0, m_1).1, .imm (.pair (.int .i64) (.pair (.sl (.int .i64)) (.pair (.sl (.int .i64)) (.pair (.int .i64) (.sl (.sl (.int .i64))))))) (m_0, m_1).2]), (10002001, .sl 3 (.int .i64) (([] : List Int) ++ cells) .shallow), (10002002, .sl 3 (.int .i64) cells .shallow)]) rfl rfl ⟨⟨.inl rfl, .inl rfl, trivial⟩, ⟨rfl, rfl⟩, ⟨rfl, rfl⟩, trivial⟩ ⟨.inl rfl, ⟨⟨rfl, rfl⟩, rfl⟩, ⟨⟨rfl, rfl⟩, trivial⟩, .inr rfl, ⟨⟨rfl, rfl⟩, trivial⟩, trivial⟩)⟩
              · have he := ok_f he hb
                exact ⟨(found, best1), he, (leads_ren [(10002000, 10000000), (10002001, 10000001), (10002002, 10000002)] (l := [(1, .c (.imm (.int .i64) coefs)), (2, .c (.ptr 10002000 0)), (6, .c (.own 10002001 false)), (7, .c (.bool found)), (8, .c (.own 10002002 false))]) (st' := [(10002000, .rc [.imm (.int .i64) (m_0, m_1).1, .imm (.pair (.int .i64) (.pair (.sl (.int .i64)) (.pair (.sl (.int .i64)) (.pair (.int .i64) (.sl (.sl (.int .i64))))))) (m_0, m_1).2]), (10002001, .sl 3 (.int .i64) best1 .shallow), (10002002, .sl 3 (.int .i64) cells .shallow)]) rfl rfl ⟨⟨.inl rfl, .inl rfl, trivial⟩, ⟨rfl, rfl⟩, ⟨rfl, rfl⟩, trivial⟩ ⟨.inl rfl, ⟨⟨rfl, rfl⟩, rfl⟩, ⟨⟨rfl, rfl⟩, trivial⟩, .inl rfl, ⟨⟨rfl, rfl⟩, trivial⟩, trivial⟩)⟩
            · have he := ok_t he hb
              have he := ok_rq he
              refine And.intro he.1 ?_
              have he := he.2
              exact ⟨(true, (([] : List Int) ++ cells)), he, (leads_ren [(10002000, 10000000), (10002001, 39), (10002002, 10000002)] (l := [(1, .c (.imm (.int .i64) coefs)), (2, .c (.ptr 10002000 0)), (6, .c (.own 10002001 false)), (7, .c (.bool true)), (8, .c (.own 10002002 false))]) (st' := [(10002000, .rc [.imm (.int .i64) (m_0, m_1).1, .imm (.pair (.int .i64) (.pair (.sl (.int .i64)) (.pair (.sl (.int .i64)) (.pair (.int .i64) (.sl (.sl (.int .i64))))))) (m_0, m_1).2]), (10002001, .sl 3 (.int .i64) (([] : List Int) ++ cells) .shallow), (10002002, .sl 3 (.int .i64) cells .shallow)]) rfl rfl ⟨⟨.inl rfl, .inl rfl, trivial⟩, ⟨rfl, rfl⟩, ⟨rfl, rfl⟩, trivial⟩ ⟨.inl rfl, ⟨⟨rfl, rfl⟩, rfl⟩, ⟨⟨rfl, rfl⟩, trivial⟩, .inr rfl, ⟨⟨rfl, rfl⟩, trivial⟩, trivial⟩)⟩
          · have he := ok_f he hb
            exact ⟨(found, best1), he, (leads_ren [(10002000, 10000000), (10002001, 10000001), (10002002, 10000002)] (l := [(1, .c (.imm (.int .i64) coefs)), (2, .c (.ptr 10002000 0)), (6, .c (.own 10002001 false)), (7, .c (.bool found)), (8, .c (.own 10002002 false))]) (st' := [(10002000, .rc [.imm (.int .i64) (m_0, m_1).1, .imm (.pair (.int .i64) (.pair (.sl (.int .i64)) (.pair (.sl (.int .i64)) (.pair (.int .i64) (.sl (.sl (.int .i64))))))) (m_0, m_1).2]), (10002001, .sl 3 (.int .i64) best1 .shallow), (10002002, .sl 3 (.int .i64) cells .shallow)]) rfl rfl ⟨⟨.inl rfl, .inl rfl, trivial⟩, ⟨rfl, rfl⟩, ⟨rfl, rfl⟩, trivial⟩ ⟨.inl rfl, ⟨⟨rfl, rfl⟩, rfl⟩, ⟨⟨rfl, rfl⟩, trivial⟩, .inl rfl, ⟨⟨rfl, rfl⟩, trivial⟩, trivial⟩)⟩
      · have he := ok_f he hb
        exact ⟨(found, best1), ok_up he, (leads_ren [(10003000, 10000001)] (l := [(6, .c (.own 10003000 false)), (7, .c (.bool found))]) (st' := [(10003000, .sl 3 (.int .i64) best1 .shallow)]) rfl rfl ⟨⟨rfl, rfl⟩, trivial⟩ ⟨⟨⟨rfl, rfl⟩, trivial⟩, .inl rfl, trivial⟩)⟩

noncomputable def c_laws_cpInts : Con := fun args st => match args, st with
  | [.c (.imm (.int .i64) a), .c (.imm (.int .i64) b)], [] => .opt (Bool) (laws_cpInts a b) (fun r => .ret (.c (.bool r)) [])
  | _, _ => .fail

noncomputable def C_laws_cpInts : Cfg := { y := tys, n := 26, h := 0, tab := [], cut := [], hand := [], good := [], deep := [], sched := [] }

theorem t_laws_cpInts : TabOk Try.prog C_laws_cpInts := tabOk_of (fun p h => by cases h)

theorem k_laws_cpInts : Entry Try.prog 52 c_laws_cpInts := by
  refine entry_by (C := C_laws_cpInts) mixed tys_ok t_laws_cpInts (fn := Try.f52) (c := bd Try.f52) (by kernel_rfl) (by kernel_rfl) (by kernel_rfl) (by kernel_rfl) ?_
  intro args st k he
  unfold c_laws_cpInts at he
  split at he
  rotate_left
  · exact he.elim
  rename_i a b
  have he : Ok (laws_cpInts a b) (fun r => k (.c (.bool r)) []) := he
  refine ⟨rfl, rfl, ?_⟩
  refine And.intro (fun hb => ?_) (fun hb => ?_)
  · have he := ok_t he hb
    have he := ok_some he
    exact ⟨rfl, _, _, Leads.refl _ _, he⟩
  · have he := ok_f he hb
    refine loop_model mixed tys_ok t_laws_cpInts (S := Int) (I := (fun i => (envOf [(0, .c (.imm (.int .i64) a)), (1, .c (.imm (.int .i64) b)), (5, .c (.int .i64 i))], []))) (f := laws_cpInts_l1 a b) (K := (fun r => k (.c (.bool r)) [])) he (leads_ren [] (l := [(0, .c (.imm (.int .i64) a)), (1, .c (.imm (.int .i64) b)), (5, .c (.int .i64 (0:Int)))]) (st' := []) rfl rfl trivial ⟨.inl rfl, .inl rfl, rfl, trivial⟩) ?_
    rintro i J1 he
    refine And.intro (fun hb => ?_) (fun hb => ?_)
    · have he := ok_t he hb
      refine And.intro (by kernel_rfl) ?_
      have he := ok_rq he
      refine And.intro he.1 ?_
      have he := he.2
      have he := ok_rq he
      refine And.intro he.1 ?_
      have he := he.2
      refine And.intro (fun hb => ?_) (fun hb => ?_)
      · have he := ok_t he hb
        have he := ok_some he
        exact ⟨rfl, _, _, Leads.refl _ _, he⟩
      · have he := ok_f he hb
        have he := ok_rq he
        refine And.intro he.1 ?_
        have he := he.2
        have he := ok_some he
        exact ⟨(i + (1:Int)), he, (leads_ren [] (l := [(0, .c (.imm (.int .i64) a)), (1, .c (.imm (.int .i64) b)), (5, .c (.int .i64 (i + (1:Int))))]) (st' := []) rfl rfl trivial ⟨.inl rfl, .inl rfl, rfl, trivial⟩)⟩
    · have he := ok_f he hb
      have he := ok_some he
      exact ⟨rfl, _, _, Leads.refl _ _, he⟩

noncomputable def c_impl_CellsValid : Con := fun args st => match args, st with
  | [.agg [.imm (.int .i64) m_0, .imm (.pair (.int .i64) (.pair (.sl (.int .i64)) (.pair (.sl (.int .i64)) (.pair (.int .i64) (.sl (.sl (.int .i64))))))) m_1], .c (.imm (.int .i64) cells)], [] => .opt (Bool) (impl_CellsValid (m_0, m_1) cells) (fun r => .ret (.c (.bool r)) [])
  | _, _ => .fail

noncomputable def C_impl_CellsValid : Cfg := { y := tys, n := 34, h := 0, tab := [(39, c_impl_ModelValid), (101, c_impl_within)], cut := [], hand := [], good := [], deep := [], sched := [] }

theorem t_impl_CellsValid : TabOk Try.prog C_impl_CellsValid := by
  refine tabOk_of ?_
  simp only [C_impl_CellsValid, List.forall_mem_cons]
  exact ⟨k_impl_ModelValid, k_impl_within, fun p h => by cases h⟩

theorem k_impl_CellsValid : Entry Try.prog 108 c_impl_CellsValid := by
  refine entry_by (C := C_impl_CellsValid) mixed tys_ok t_impl_CellsValid (fn := Try.f108) (c := bd Try.f108) (by kernel_rfl) (by kernel_rfl) (by kernel_rfl) (by kernel_rfl) ?_
  intro args st k he
  unfold c_impl_CellsValid at he
  split at he
  rotate_left
  · exact he.elim
  rename_i m_0 m_1 cells
  have he : Ok (impl_CellsValid (m_0, m_1) cells) (fun r => k (.c (.bool r)) []) := he
  refine ⟨rfl, rfl, ?_⟩
  obtain ⟨r1_, hr, he⟩ := ok_bind he
  refine ⟨r1_, hr, ?_⟩
  refine And.intro (fun hb => ?_) (fun hb => ?_)
  · have he := ok_f he hb
    refine And.intro (fun hb => ?_) (fun hb => ?_)
    · have he := ok_t he hb
      have he := ok_some he
      exact ⟨rfl, _, _, (leads_ren [] (l := [(4, .c (.bool false))]) (st' := []) rfl rfl trivial ⟨.inr rfl, trivial⟩), he⟩
    · have he := ok_f he hb
      refine loop_model mixed tys_ok t_impl_CellsValid (S := Int) (I := (fun i => (envOf [(2, .c (.ptr 10000000 0)), (18, .c (.imm (.int .i64) cells)), (19, .c (.int .i64 (cells.length:Int))), (20, .c (.int .i64 i))], [(10000000, .rc [.imm (.int .i64) (m_0, m_1).1, .imm (.pair (.int .i64) (.pair (.sl (.int .i64)) (.pair (.sl (.int .i64)) (.pair (.int .i64) (.sl (.sl (.int .i64))))))) (m_0, m_1).2])]))) (f := impl_CellsValid_l1 (m_0, m_1) cells) (K := (fun r => k (.c (.bool r)) [])) he (leads_ren [(10000000, 2)] (l := [(2, .c (.ptr 10000000 0)), (18, .c (.imm (.int .i64) cells)), (19, .c (.int .i64 (cells.length:Int))), (20, .c (.int .i64 (0:Int)))]) (st' := [(10000000, .rc [.imm (.int .i64) (m_0, m_1).1, .imm (.pair (.int .i64) (.pair (.sl (.int .i64)) (.pair (.sl (.int .i64)) (.pair (.int .i64) (.sl (.sl (.int .i64))))))) (m_0, m_1).2])]) rfl rfl ⟨⟨.inl rfl, .inl rfl, trivial⟩, trivial⟩ ⟨⟨⟨rfl, rfl⟩, rfl⟩, .inl rfl, rfl, rfl, trivial⟩) ?_
      rintro i J1 he
      refine And.intro (fun hb => ?_) (fun hb => ?_)
      · have he := ok_t he hb
        have he := ok_rq he
        refine And.intro he.1 ?_
        have he := he.2
        have he := ok_rq he
        refine And.intro he.1 ?_
        have he := he.2
        obtain ⟨r2_, hr, he⟩ := ok_bind he
        refine ⟨r2_, hr, ?_⟩
        refine And.intro (fun hb => ?_) (fun hb => ?_)
        · have he := ok_t he hb
          have he := ok_some he
          exact ⟨rfl, _, _, (leads_ren [] (l := [(4, .c (.bool false))]) (st' := []) rfl rfl trivial ⟨.inr rfl, trivial⟩), he⟩
        · have he := ok_f he hb
          have he := ok_rq he
          refine And.intro he.1 ?_
          have he := he.2
          have he := ok_some he
          exact ⟨(i + (1:Int)), he, (leads_ren [] (l := [(2, .c (.ptr 10000000 0)), (18, .c (.imm (.int .i64) cells)), (19, .c (.int .i64 (cells.length:Int))), (20, .c (.int .i64 (i + (1:Int))))]) (st' := [(10000000, .rc [.imm (.int .i64) (m_0, m_1).1, .imm (.pair (.int .i64) (.pair (.sl (.int .i64)) (.pair (.sl (.int .i64)) (.pair (.int .i64) (.sl (.sl (.int .i64))))))) (m_0, m_1).2])]) rfl rfl ⟨⟨.inl rfl, .inl rfl, trivial⟩, trivial⟩ ⟨⟨⟨rfl, rfl⟩, rfl⟩, .inl rfl, rfl, rfl, trivial⟩)⟩
      · have he := ok_f he hb
        have he := ok_some he
        exact ⟨rfl, _, _, (leads_ren [] (l := [(4, .c (.bool true))]) (st' := []) rfl rfl trivial ⟨.inr rfl, trivial⟩), he⟩
  · have he := ok_t he hb
    have he := ok_some he
    exact ⟨rfl, _, _, (leads_ren [] (l := [(4, .c (.bool false))]) (st' := []) rfl rfl trivial ⟨.inr rfl, trivial⟩), he⟩

end Go.AE.Y
