/-
  Walks: each function keeps the contract that its model gives. No conditions.
-/
import Derived.Test.YtpjbfmifmikloaaR3Tab
import Derived.Test.YtpjbfmifmikloaaR3W2
namespace Go.AE.Y
open Go Go.AE Go.Proofs
set_option linter.unusedVariables false
set_option maxHeartbeats 2000000
set_option maxRecDepth 100000

noncomputable def c_impl_Model_permuted : Con := fun args st => match args, st with
  | [.agg [.imm (.int .i64) m_0, .imm (.pair (.int .i64) (.pair (.sl (.int .i64)) (.pair (.sl (.int .i64)) (.pair (.int .i64) (.sl (.sl (.int .i64))))))) m_1], .c (.imm (.int .i64) perm)], [] => .opt ((List Int) × (List (Int × (List Int) × (List Int) × Int × (List (List Int))))) (impl_Model_permuted (m_0, m_1) perm) (fun r => .ret (.agg [.own 901 false, .own 902 false]) [(900, .rc [.own 901 false, .own 902 false]), (901, .sl 3 (.int .i64) r.1 .shallow), (902, .sl 112 (.pair (.int .i64) (.pair (.sl (.int .i64)) (.pair (.sl (.int .i64)) (.pair (.int .i64) (.sl (.sl (.int .i64))))))) r.2 (.deep true .no))])
  | _, _ => .fail

noncomputable def C_impl_Model_permuted : Cfg := { y := tys, n := 38, h := 0, tab := [(162, c_impl_Model_own)], cut := [], hand := [], good := [], deep := [], sched := [(8, (.first 0 (.first 2 (.first 3 (.first 4 (.first 5 (.first 6 (.alt 1 (.first 7 (.alt 8 .done .stop)) .stop))))))))] }

theorem t_impl_Model_permuted : TabOk Try.prog C_impl_Model_permuted := by
  refine tabOk_of ?_
  simp only [C_impl_Model_permuted, List.forall_mem_cons]
  exact ⟨k_impl_Model_own, fun p h => by cases h⟩

theorem k_impl_Model_permuted : Entry Try.prog 111 c_impl_Model_permuted := by
  refine entry_by (C := C_impl_Model_permuted) mixed tys_ok t_impl_Model_permuted (fn := Try.f111) (c := bd Try.f111) (by kernel_rfl) (by kernel_rfl) (by kernel_rfl) (by kernel_rfl) ?_
  intro args st k he
  unfold c_impl_Model_permuted at he
  split at he
  rotate_left
  · exact he.elim
  rename_i m_0 m_1 perm
  have he : Ok (impl_Model_permuted (m_0, m_1) perm) (fun r => k (.agg [.own 901 false, .own 902 false]) [(900, .rc [.own 901 false, .own 902 false]), (901, .sl 3 (.int .i64) r.1 .shallow), (902, .sl 112 (.pair (.int .i64) (.pair (.sl (.int .i64)) (.pair (.sl (.int .i64)) (.pair (.int .i64) (.sl (.sl (.int .i64))))))) r.2 (.deep true .no))]) := he
  refine ⟨rfl, rfl, ?_⟩
  obtain ⟨r1_, hr, he⟩ := ok_bind he
  refine ⟨r1_, hr, ?_⟩
  refine loop_model mixed tys_ok t_impl_Model_permuted (S := Int × (List (Int × (List Int) × (List Int) × Int × (List (List Int))))) (I := (fun (i, i3) => (envOf [(1, .c (.imm (.int .i64) perm)), (4, .c (.ptr 10000000 0)), (5, .c (.ptr 10000001 0)), (13, .c (.own 10000002 false)), (14, .c (.int .i64 (r1_.2.length:Int))), (15, .c (.int .i64 i))], [(10000000, .rc [.nil, .nil]), (10000001, .rc [.own 10000003 false, .own 10000002 false]), (10000002, .sl 112 (.pair (.int .i64) (.pair (.sl (.int .i64)) (.pair (.sl (.int .i64)) (.pair (.int .i64) (.sl (.sl (.int .i64))))))) i3 (.deep true .no)), (10000003, .sl 3 (.int .i64) r1_.1 .shallow)]))) (f := impl_Model_permuted_l1 perm r1_) (K := (fun r => k (.agg [.own 901 false, .own 902 false]) [(900, .rc [.own 901 false, .own 902 false]), (901, .sl 3 (.int .i64) r.1 .shallow), (902, .sl 112 (.pair (.int .i64) (.pair (.sl (.int .i64)) (.pair (.sl (.int .i64)) (.pair (.int .i64) (.sl (.sl (.int .i64))))))) r.2 (.deep true .no))])) he (leads_ren [(10000000, 4), (10000001, 5), (10000002, 12902), (10000003, 12901)] (l := [(1, .c (.imm (.int .i64) perm)), (4, .c (.ptr 10000000 0)), (5, .c (.ptr 10000001 0)), (13, .c (.own 10000002 false)), (14, .c (.int .i64 (r1_.2.length:Int))), (15, .c (.int .i64 (0:Int)))]) (st' := [(10000000, .rc [.nil, .nil]), (10000001, .rc [.own 10000003 false, .own 10000002 false]), (10000002, .sl 112 (.pair (.int .i64) (.pair (.sl (.int .i64)) (.pair (.sl (.int .i64)) (.pair (.int .i64) (.sl (.sl (.int .i64))))))) r1_.2 (.deep true .no)), (10000003, .sl 3 (.int .i64) r1_.1 .shallow)]) rfl rfl ⟨⟨rfl, rfl, trivial⟩, ⟨⟨⟨rfl, rfl⟩, trivial⟩, ⟨⟨rfl, rfl⟩, trivial⟩, trivial⟩, ⟨rfl, rfl⟩, ⟨rfl, rfl⟩, trivial⟩ ⟨.inl rfl, ⟨⟨rfl, rfl⟩, rfl⟩, ⟨⟨rfl, rfl⟩, rfl⟩, ⟨⟨rfl, rfl⟩, trivial⟩, rfl, rfl, trivial⟩) ?_
  rintro ⟨i, i3⟩ J1 he
  refine And.intro (fun hb => ?_) (fun hb => ?_)
  · have he := ok_t he hb
    have he := ok_rq he
    refine And.intro he.1 ?_
    have he := he.2
    refine loop_model mixed tys_ok t_impl_Model_permuted (S := Int × (List Int)) (I := (fun (i4, i5) => (envOf [(1, .c (.imm (.int .i64) perm)), (4, .c (.ptr 10002000 0)), (5, .c (.ptr 10002001 0)), (7, .c (.ptr 10002002 0)), (13, .c (.own 10000002 false)), (14, .c (.int .i64 (r1_.2.length:Int))), (15, .c (.int .i64 i)), (20, .c (.own 19001 false)), (21, .c (.int .i64 ((i3.getD i.toNat (0, ([], ([], (0, []))))).2.1.length:Int))), (22, .c (.int .i64 i4))], [(19001, .sl 0 (.int .i64) i5 (.deep false .no)), (19002, .sl 0 (.int .i64) (i3.getD i.toNat (0, ([], ([], (0, []))))).2.2.1 (.deep false .no)), (19004, .sl 0 (.sl (.int .i64)) (i3.getD i.toNat (0, ([], ([], (0, []))))).2.2.2.2 (.deep false .no)), (10000002, .sl 112 (.pair (.int .i64) (.pair (.sl (.int .i64)) (.pair (.sl (.int .i64)) (.pair (.int .i64) (.sl (.sl (.int .i64))))))) i3 (.deep true (.at i.toNat 0 5 19000))), (10002000, .rc [.nil, .nil]), (10002001, .rc [.own 10002003 false, .own 10000002 false]), (10002002, .rc [.int .i64 (i3.getD i.toNat (0, ([], ([], (0, []))))).1, .own 19001 false, .own 19002 false, .int .i64 (i3.getD i.toNat (0, ([], ([], (0, []))))).2.2.2.1, .own 19004 false]), (10002003, .sl 3 (.int .i64) r1_.1 .shallow)]))) (f := impl_Model_permuted_l2 perm i i3) (K := (LK J1 (fun r => k (.agg [.own 901 false, .own 902 false]) [(900, .rc [.own 901 false, .own 902 false]), (901, .sl 3 (.int .i64) r.1 .shallow), (902, .sl 112 (.pair (.int .i64) (.pair (.sl (.int .i64)) (.pair (.sl (.int .i64)) (.pair (.int .i64) (.sl (.sl (.int .i64))))))) r.2 (.deep true .no))]))) he (leads_ren [(10002000, 10000000), (10002001, 10000001), (10002002, 7), (10002003, 10000003)] (l := [(1, .c (.imm (.int .i64) perm)), (4, .c (.ptr 10002000 0)), (5, .c (.ptr 10002001 0)), (7, .c (.ptr 10002002 0)), (13, .c (.own 10000002 false)), (14, .c (.int .i64 (r1_.2.length:Int))), (15, .c (.int .i64 i)), (20, .c (.own 19001 false)), (21, .c (.int .i64 ((i3.getD i.toNat (0, ([], ([], (0, []))))).2.1.length:Int))), (22, .c (.int .i64 (0:Int)))]) (st' := [(19001, .sl 0 (.int .i64) (i3.getD i.toNat (0, ([], ([], (0, []))))).2.1 (.deep false .no)), (19002, .sl 0 (.int .i64) (i3.getD i.toNat (0, ([], ([], (0, []))))).2.2.1 (.deep false .no)), (19004, .sl 0 (.sl (.int .i64)) (i3.getD i.toNat (0, ([], ([], (0, []))))).2.2.2.2 (.deep false .no)), (10000002, .sl 112 (.pair (.int .i64) (.pair (.sl (.int .i64)) (.pair (.sl (.int .i64)) (.pair (.int .i64) (.sl (.sl (.int .i64))))))) i3 (.deep true (.at i.toNat 0 5 19000))), (10002000, .rc [.nil, .nil]), (10002001, .rc [.own 10002003 false, .own 10000002 false]), (10002002, .rc [.int .i64 (i3.getD i.toNat (0, ([], ([], (0, []))))).1, .own 19001 false, .own 19002 false, .int .i64 (i3.getD i.toNat (0, ([], ([], (0, []))))).2.2.2.1, .own 19004 false]), (10002003, .sl 3 (.int .i64) r1_.1 .shallow)]) rfl rfl ⟨⟨rfl, rfl⟩, ⟨rfl, rfl⟩, ⟨rfl, rfl⟩, ⟨rfl, rfl⟩, ⟨rfl, rfl, trivial⟩, ⟨⟨⟨rfl, rfl⟩, trivial⟩, ⟨⟨rfl, rfl⟩, trivial⟩, trivial⟩, ⟨rfl, ⟨⟨rfl, rfl⟩, trivial⟩, ⟨⟨rfl, rfl⟩, trivial⟩, rfl, ⟨⟨rfl, rfl⟩, trivial⟩, trivial⟩, ⟨rfl, rfl⟩, trivial⟩ ⟨.inl rfl, ⟨⟨rfl, rfl⟩, rfl⟩, ⟨⟨rfl, rfl⟩, rfl⟩, ⟨⟨rfl, rfl⟩, rfl⟩, ⟨⟨rfl, rfl⟩, trivial⟩, rfl, rfl, ⟨⟨rfl, rfl⟩, trivial⟩, rfl, rfl, trivial⟩) ?_
    rintro ⟨i4, i5⟩ J2 he
    refine And.intro (fun hb => ?_) (fun hb => ?_)
    · have he := ok_t he hb
      have he := ok_rq he
      refine And.intro he.1 ?_
      have he := he.2
      refine And.intro (by kernel_rfl) ?_
      have he := ok_rq he
      refine And.intro he.1 ?_
      have he := he.2
      refine And.intro ?_ trivial
      have he := ok_rq he
      refine And.intro he.1 ?_
      have he := he.2
      refine And.intro ?_ trivial
      have he := ok_rq he
      refine And.intro he.1 ?_
      have he := he.2
      have he := ok_some he
      exact ⟨((i4 + (1:Int)), (i5.set i4.toNat (perm.getD (i5.getD i4.toNat 0).toNat 0))), he, (leads_ren [] (l := [(1, .c (.imm (.int .i64) perm)), (4, .c (.ptr 10002000 0)), (5, .c (.ptr 10002001 0)), (7, .c (.ptr 10002002 0)), (13, .c (.own 10000002 false)), (14, .c (.int .i64 (r1_.2.length:Int))), (15, .c (.int .i64 i)), (20, .c (.own 19001 false)), (21, .c (.int .i64 ((i3.getD i.toNat (0, ([], ([], (0, []))))).2.1.length:Int))), (22, .c (.int .i64 (i4 + (1:Int))))]) (st' := [(19001, .sl 0 (.int .i64) (i5.set i4.toNat (perm.getD (i5.getD i4.toNat 0).toNat 0)) (.deep false .no)), (19002, .sl 0 (.int .i64) (i3.getD i.toNat (0, ([], ([], (0, []))))).2.2.1 (.deep false .no)), (19004, .sl 0 (.sl (.int .i64)) (i3.getD i.toNat (0, ([], ([], (0, []))))).2.2.2.2 (.deep false .no)), (10000002, .sl 112 (.pair (.int .i64) (.pair (.sl (.int .i64)) (.pair (.sl (.int .i64)) (.pair (.int .i64) (.sl (.sl (.int .i64))))))) i3 (.deep true (.at i.toNat 0 5 19000))), (10002000, .rc [.nil, .nil]), (10002001, .rc [.own 10002003 false, .own 10000002 false]), (10002002, .rc [.int .i64 (i3.getD i.toNat (0, ([], ([], (0, []))))).1, .own 19001 false, .own 19002 false, .int .i64 (i3.getD i.toNat (0, ([], ([], (0, []))))).2.2.2.1, .own 19004 false]), (10002003, .sl 3 (.int .i64) r1_.1 .shallow)]) rfl rfl ⟨⟨rfl, rfl⟩, ⟨rfl, rfl⟩, ⟨rfl, rfl⟩, ⟨rfl, rfl⟩, ⟨rfl, rfl, trivial⟩, ⟨⟨⟨rfl, rfl⟩, trivial⟩, ⟨⟨rfl, rfl⟩, trivial⟩, trivial⟩, ⟨rfl, ⟨⟨rfl, rfl⟩, trivial⟩, ⟨⟨rfl, rfl⟩, trivial⟩, rfl, ⟨⟨rfl, rfl⟩, trivial⟩, trivial⟩, ⟨rfl, rfl⟩, trivial⟩ ⟨.inl rfl, ⟨⟨rfl, rfl⟩, rfl⟩, ⟨⟨rfl, rfl⟩, rfl⟩, ⟨⟨rfl, rfl⟩, rfl⟩, ⟨⟨rfl, rfl⟩, trivial⟩, rfl, rfl, ⟨⟨rfl, rfl⟩, trivial⟩, rfl, rfl, trivial⟩)⟩
    · have he := ok_f he hb
      have he := ok_rq he
      refine And.intro he.1 ?_
      have he := he.2
      have he := ok_some he
      exact ⟨((i + (1:Int)), (i3.set i.toNat ((i3.getD i.toNat (0, ([], ([], (0, []))))).1, (i5, (i3.getD i.toNat (0, ([], ([], (0, []))))).2.2)))), he, ((leads_close [10000002] rfl).trans (leads_ren [(10000000, 10002000), (10000001, 10002001), (10000003, 10002003)] (l := [(1, .c (.imm (.int .i64) perm)), (4, .c (.ptr 10000000 0)), (5, .c (.ptr 10000001 0)), (13, .c (.own 10000002 false)), (14, .c (.int .i64 (r1_.2.length:Int))), (15, .c (.int .i64 (i + (1:Int))))]) (st' := [(10000000, .rc [.nil, .nil]), (10000001, .rc [.own 10000003 false, .own 10000002 false]), (10000002, .sl 112 (.pair (.int .i64) (.pair (.sl (.int .i64)) (.pair (.sl (.int .i64)) (.pair (.int .i64) (.sl (.sl (.int .i64))))))) (i3.set i.toNat ((i3.getD i.toNat (0, ([], ([], (0, []))))).1, (i5, (i3.getD i.toNat (0, ([], ([], (0, []))))).2.2))) (.deep true .no)), (10000003, .sl 3 (.int .i64) r1_.1 .shallow)]) rfl rfl (by exact ⟨⟨rfl, rfl, trivial⟩, ⟨⟨⟨rfl, rfl⟩, trivial⟩, ⟨⟨rfl, rfl⟩, trivial⟩, trivial⟩, ⟨rfl, rfl⟩, ⟨rfl, rfl⟩, trivial⟩) (by exact ⟨.inl rfl, ⟨⟨rfl, rfl⟩, rfl⟩, ⟨⟨rfl, rfl⟩, rfl⟩, ⟨⟨rfl, rfl⟩, trivial⟩, rfl, rfl, trivial⟩)))⟩
  · have he := ok_f he hb
    have he := ok_some he
    exact ⟨rfl, _, _, (leads_ren [(900, 10000000), (901, 10000003), (902, 10000002)] (l := [(4, .c (.ptr 900 0))]) (st' := [(900, .rc [.own 901 false, .own 902 false]), (901, .sl 3 (.int .i64) r1_.1 .shallow), (902, .sl 112 (.pair (.int .i64) (.pair (.sl (.int .i64)) (.pair (.sl (.int .i64)) (.pair (.int .i64) (.sl (.sl (.int .i64))))))) i3 (.deep true .no))]) rfl rfl ⟨⟨⟨⟨rfl, rfl⟩, trivial⟩, ⟨⟨rfl, rfl⟩, trivial⟩, trivial⟩, ⟨rfl, rfl⟩, ⟨rfl, rfl⟩, trivial⟩ ⟨⟨⟨rfl, rfl⟩, rfl⟩, trivial⟩), he⟩

noncomputable def c_impl_PermuteModel : Con := fun args st => match args, st with
  | [.agg [.imm (.int .i64) m_0, .imm (.pair (.int .i64) (.pair (.sl (.int .i64)) (.pair (.sl (.int .i64)) (.pair (.int .i64) (.sl (.sl (.int .i64))))))) m_1], .c (.imm (.int .i64) perm)], [] => .opt (Bool × (List Int) × (List (Int × (List Int) × (List Int) × Int × (List (List Int))))) (impl_PermuteModel (m_0, m_1) perm) (fun r => .ret (.tup [.agg [.own 901 false, .own 902 false], .c (.bool r.1)]) [(900, .rc [.own 901 false, .own 902 false]), (901, .sl 3 (.int .i64) r.2.1 .shallow), (902, .sl 112 (.pair (.int .i64) (.pair (.sl (.int .i64)) (.pair (.sl (.int .i64)) (.pair (.int .i64) (.sl (.sl (.int .i64))))))) r.2.2 (.deep true .no))])
  | _, _ => .fail

noncomputable def C_impl_PermuteModel : Cfg := { y := tys, n := 14, h := 0, tab := [(39, c_impl_PermValid), (111, c_impl_Model_permuted)], cut := [], hand := [], good := [], deep := [], sched := [] }

theorem t_impl_PermuteModel : TabOk Try.prog C_impl_PermuteModel := by
  refine tabOk_of ?_
  simp only [C_impl_PermuteModel, List.forall_mem_cons]
  exact ⟨k_impl_PermValid, k_impl_Model_permuted, fun p h => by cases h⟩

theorem k_impl_PermuteModel : Entry Try.prog 47 c_impl_PermuteModel := by
  refine entry_by (C := C_impl_PermuteModel) mixed tys_ok t_impl_PermuteModel (fn := Try.f47) (c := bd Try.f47) (by kernel_rfl) (by kernel_rfl) (by kernel_rfl) (by kernel_rfl) ?_
  intro args st k he
  unfold c_impl_PermuteModel at he
  split at he
  rotate_left
  · exact he.elim
  rename_i m_0 m_1 perm
  have he : Ok (impl_PermuteModel (m_0, m_1) perm) (fun r => k (.tup [.agg [.own 901 false, .own 902 false], .c (.bool r.1)]) [(900, .rc [.own 901 false, .own 902 false]), (901, .sl 3 (.int .i64) r.2.1 .shallow), (902, .sl 112 (.pair (.int .i64) (.pair (.sl (.int .i64)) (.pair (.sl (.int .i64)) (.pair (.int .i64) (.sl (.sl (.int .i64))))))) r.2.2 (.deep true .no))]) := he
  refine ⟨rfl, rfl, ?_⟩
  obtain ⟨r1_, hr, he⟩ := ok_bind he
  refine ⟨r1_, hr, ?_⟩
  refine And.intro (fun hb => ?_) (fun hb => ?_)
  · have he := ok_t he hb
    have he := ok_some he
    exact ⟨rfl, _, _, (leads_ren [(900, 4)] (l := [(4, .c (.ptr 900 0)), (5, .c (.bool false))]) (st' := [(900, .rc [.own 901 false, .own 902 false]), (901, .sl 3 (.int .i64) ([] : List Int) .shallow), (902, .sl 112 (.pair (.int .i64) (.pair (.sl (.int .i64)) (.pair (.sl (.int .i64)) (.pair (.int .i64) (.sl (.sl (.int .i64))))))) ([] : List (Int × (List Int) × (List Int) × Int × (List (List Int)))) (.deep true .no))]) rfl rfl ⟨⟨⟨rfl, trivial⟩, ⟨rfl, trivial⟩, trivial⟩, trivial, trivial, trivial⟩ ⟨⟨⟨rfl, rfl⟩, rfl⟩, .inr rfl, trivial⟩), he⟩
  · have he := ok_f he hb
    obtain ⟨r2_, hr, he⟩ := ok_bind he
    refine ⟨r2_, hr, ?_⟩
    have he := ok_some he
    exact ⟨rfl, _, _, (leads_ren [(900, 4), (901, 14901), (902, 14902)] (l := [(4, .c (.ptr 900 0)), (5, .c (.bool true))]) (st' := [(900, .rc [.own 901 false, .own 902 false]), (901, .sl 3 (.int .i64) r2_.1 .shallow), (902, .sl 112 (.pair (.int .i64) (.pair (.sl (.int .i64)) (.pair (.sl (.int .i64)) (.pair (.int .i64) (.sl (.sl (.int .i64))))))) r2_.2 (.deep true .no))]) rfl rfl ⟨⟨⟨⟨rfl, rfl⟩, trivial⟩, ⟨⟨rfl, rfl⟩, trivial⟩, trivial⟩, ⟨rfl, rfl⟩, ⟨rfl, rfl⟩, trivial⟩ ⟨⟨⟨rfl, rfl⟩, rfl⟩, .inr rfl, trivial⟩), he⟩

noncomputable def c_laws_eqIntS : Con := fun args st => match args, st with
  | [.c (.imm (.int .i64) a), .c (.imm (.int .i64) b)], [] => .opt (Bool) (laws_eqIntS a b) (fun r => .ret (.c (.bool r)) [])
  | _, _ => .fail

noncomputable def C_laws_eqIntS : Cfg := { y := tys, n := 26, h := 0, tab := [], cut := [], hand := [], good := [], deep := [], sched := [] }

theorem t_laws_eqIntS : TabOk Try.prog C_laws_eqIntS := tabOk_of (fun p h => by cases h)

theorem k_laws_eqIntS : Entry Try.prog 34 c_laws_eqIntS := by
  refine entry_by (C := C_laws_eqIntS) mixed tys_ok t_laws_eqIntS (fn := Try.f34) (c := bd Try.f34) (by kernel_rfl) (by kernel_rfl) (by kernel_rfl) (by kernel_rfl) ?_
  intro args st k he
  unfold c_laws_eqIntS at he
  split at he
  rotate_left
  · exact he.elim
  rename_i a b
  have he : Ok (laws_eqIntS a b) (fun r => k (.c (.bool r)) []) := he
  refine ⟨rfl, rfl, ?_⟩
  refine And.intro (fun hb => ?_) (fun hb => ?_)
  · have he := ok_t he hb
    have he := ok_some he
    exact ⟨rfl, _, _, Leads.refl _ _, he⟩
  · have he := ok_f he hb
    refine loop_model mixed tys_ok t_laws_eqIntS (S := Int) (I := (fun i => (envOf [(0, .c (.imm (.int .i64) a)), (1, .c (.imm (.int .i64) b)), (5, .c (.int .i64 i))], []))) (f := laws_eqIntS_l1 a b) (K := (fun r => k (.c (.bool r)) [])) he (leads_ren [] (l := [(0, .c (.imm (.int .i64) a)), (1, .c (.imm (.int .i64) b)), (5, .c (.int .i64 (0:Int)))]) (st' := []) rfl rfl trivial ⟨.inl rfl, .inl rfl, rfl, trivial⟩) ?_
    rintro i J1 he
    refine And.intro (fun hb => ?_) (fun hb => ?_)
    · have he := ok_t he hb
      refine And.intro (by kernel_rfl) ?_
      have he := ok_rq he
      refine And.intro he.1 ?_
      have he := he.2
      have he := ok_rq he
      refine And.intro he.1 ?_
      have he := he.2
      refine And.intro (fun hb => ?_) (fun hb => ?_)
      · have he := ok_t he hb
        have he := ok_some he
        exact ⟨rfl, _, _, Leads.refl _ _, he⟩
      · have he := ok_f he hb
        have he := ok_rq he
        refine And.intro he.1 ?_
        have he := he.2
        have he := ok_some he
        exact ⟨(i + (1:Int)), he, (leads_ren [] (l := [(0, .c (.imm (.int .i64) a)), (1, .c (.imm (.int .i64) b)), (5, .c (.int .i64 (i + (1:Int))))]) (st' := []) rfl rfl trivial ⟨.inl rfl, .inl rfl, rfl, trivial⟩)⟩
    · have he := ok_f he hb
      have he := ok_some he
      exact ⟨rfl, _, _, Leads.refl _ _, he⟩

noncomputable def c_laws_eqIntSS : Con := fun args st => match args, st with
  | [.c (.imm (.sl (.int .i64)) a), .c (.imm (.sl (.int .i64)) b)], [] => .opt (Bool) (laws_eqIntSS a b) (fun r => .ret (.c (.bool r)) [])
  | _, _ => .fail

noncomputable def C_laws_eqIntSS : Cfg := { y := tys, n := 27, h := 0, tab := [(34, c_laws_eqIntS)], cut := [], hand := [], good := [], deep := [], sched := [(6, (.first 0 (.first 1 (.first 2 (.first 3 (.first 4 (.first 5 (.first 6 (.first 7 (.alt 8 (.first 9 .done) .stop))))))))))] }

theorem t_laws_eqIntSS : TabOk Try.prog C_laws_eqIntSS := by
  refine tabOk_of ?_
  simp only [C_laws_eqIntSS, List.forall_mem_cons]
  exact ⟨k_laws_eqIntS, fun p h => by cases h⟩

theorem k_laws_eqIntSS : Entry Try.prog 170 c_laws_eqIntSS := by
  refine entry_by (C := C_laws_eqIntSS) mixed tys_ok t_laws_eqIntSS (fn := Try.f170) (c := bd Try.f170) (by kernel_rfl) (by kernel_rfl) (by kernel_rfl) (by kernel_rfl) ?_
  intro args st k he
  unfold c_laws_eqIntSS at he
  split at he
  rotate_left
  · exact he.elim
  rename_i a b
  have he : Ok (laws_eqIntSS a b) (fun r => k (.c (.bool r)) []) := he
  refine ⟨rfl, rfl, ?_⟩
  refine And.intro (fun hb => ?_) (fun hb => ?_)
  · have he := ok_t he hb
    have he := ok_some he
    exact ⟨rfl, _, _, Leads.refl _ _, he⟩
  · have he := ok_f he hb
    refine loop_model mixed tys_ok t_laws_eqIntSS (S := Int) (I := (fun i => (envOf [(0, .c (.imm (.sl (.int .i64)) a)), (1, .c (.imm (.sl (.int .i64)) b)), (5, .c (.int .i64 i))], []))) (f := laws_eqIntSS_l1 a b) (K := (fun r => k (.c (.bool r)) [])) he (leads_ren [] (l := [(0, .c (.imm (.sl (.int .i64)) a)), (1, .c (.imm (.sl (.int .i64)) b)), (5, .c (.int .i64 (0:Int)))]) (st' := []) rfl rfl trivial ⟨.inl rfl, .inl rfl, rfl, trivial⟩) ?_
    rintro i J1 he
    refine And.intro (fun hb => ?_) (fun hb => ?_)
    · have he := ok_t he hb
      refine And.intro (by kernel_rfl) ?_
      have he := ok_rq he
      refine And.intro he.1 ?_
      have he := he.2
      have he := ok_rq he
      refine And.intro he.1 ?_
      have he := he.2
      refine And.intro ?_ trivial
      obtain ⟨r2_, hr, he⟩ := ok_bind he
      refine ⟨r2_, hr, ?_⟩
      refine And.intro (fun hb => ?_) (fun hb => ?_)
      · have he := ok_t he hb
        have he := ok_some he
        exact ⟨rfl, _, _, Leads.refl _ _, he⟩
      · have he := ok_f he hb
        have he := ok_rq he
        refine And.intro he.1 ?_
        have he := he.2
        have he := ok_some he
        exact ⟨(i + (1:Int)), he, (leads_ren [] (l := [(0, .c (.imm (.sl (.int .i64)) a)), (1, .c (.imm (.sl (.int .i64)) b)), (5, .c (.int .i64 (i + (1:Int))))]) (st' := []) rfl rfl trivial ⟨.inl rfl, .inl rfl, rfl, trivial⟩)⟩
    · have he := ok_f he hb
      have he := ok_some he
      exact ⟨rfl, _, _, Leads.refl _ _, he⟩

noncomputable def c_laws_eqRule : Con := fun args st => match args, st with
  | [.agg [.int .i64 a_0, .imm (.int .i64) a_1, .imm (.int .i64) a_2, .int .i64 a_3, .imm (.sl (.int .i64)) a_4], .agg [.int .i64 b_0, .imm (.int .i64) b_1, .imm (.int .i64) b_2, .int .i64 b_3, .imm (.sl (.int .i64)) b_4]], [] => .opt (Bool) (laws_eqRule (a_0, (a_1, (a_2, (a_3, a_4)))) (b_0, (b_1, (b_2, (b_3, b_4))))) (fun r => .ret (.c (.bool r)) [])
  | _, _ => .fail

noncomputable def C_laws_eqRule : Cfg := { y := tys, n := 33, h := 0, tab := [(34, c_laws_eqIntS), (170, c_laws_eqIntSS)], cut := [], hand := [], good := [], deep := [], sched := [] }

theorem t_laws_eqRule : TabOk Try.prog C_laws_eqRule := by
  refine tabOk_of ?_
  simp only [C_laws_eqRule, List.forall_mem_cons]
  exact ⟨k_laws_eqIntS, k_laws_eqIntSS, fun p h => by cases h⟩

theorem k_laws_eqRule : Entry Try.prog 136 c_laws_eqRule := by
  refine entry_by (C := C_laws_eqRule) mixed tys_ok t_laws_eqRule (fn := Try.f136) (c := bd Try.f136) (by kernel_rfl) (by kernel_rfl) (by kernel_rfl) (by kernel_rfl) ?_
  intro args st k he
  unfold c_laws_eqRule at he
  split at he
  rotate_left
  · exact he.elim
  rename_i a_0 a_1 a_2 a_3 a_4 b_0 b_1 b_2 b_3 b_4
  have he : Ok (laws_eqRule (a_0, (a_1, (a_2, (a_3, a_4)))) (b_0, (b_1, (b_2, (b_3, b_4))))) (fun r => k (.c (.bool r)) []) := he
  refine ⟨rfl, rfl, ?_⟩
  refine And.intro (fun hb => ?_) (fun hb => ?_)
  · have he := ok_t he hb
    have he := ok_some he
    exact ⟨rfl, _, _, (leads_ren [] (l := [(4, .c (.bool false))]) (st' := []) rfl rfl trivial ⟨.inr rfl, trivial⟩), he⟩
  · have he := ok_f he hb
    obtain ⟨r1_, hr, he⟩ := ok_bind he
    refine ⟨r1_, hr, ?_⟩
    refine And.intro (fun hb => ?_) (fun hb => ?_)
    · have he := ok_t he hb
      have he := ok_some he
      exact ⟨rfl, _, _, (leads_ren [] (l := [(4, .c (.bool false))]) (st' := []) rfl rfl trivial ⟨.inr rfl, trivial⟩), he⟩
    · have he := ok_f he hb
      obtain ⟨r2_, hr, he⟩ := ok_bind he
      refine ⟨r2_, hr, ?_⟩
      refine And.intro (fun hb => ?_) (fun hb => ?_)
      · have he := ok_t he hb
        have he := ok_some he
        exact ⟨rfl, _, _, (leads_ren [] (l := [(4, .c (.bool false))]) (st' := []) rfl rfl trivial ⟨.inr rfl, trivial⟩), he⟩
      · have he := ok_f he hb
        refine And.intro (fun hb => ?_) (fun hb => ?_)
        · have he := ok_t he hb
          have he := ok_some he
          exact ⟨rfl, _, _, (leads_ren [] (l := [(4, .c (.bool false))]) (st' := []) rfl rfl trivial ⟨.inr rfl, trivial⟩), he⟩
        · have he := ok_f he hb
          obtain ⟨r3_, hr, he⟩ := ok_bind he
          refine ⟨r3_, hr, ?_⟩
          refine And.intro (fun hb => ?_) (fun hb => ?_)
          · have he := ok_t he hb
            have he := ok_some he
            exact ⟨rfl, _, _, (leads_ren [] (l := [(4, .c (.bool false))]) (st' := []) rfl rfl trivial ⟨.inr rfl, trivial⟩), he⟩
          · have he := ok_f he hb
            have he := ok_some he
            exact ⟨rfl, _, _, (leads_ren [] (l := [(4, .c (.bool true))]) (st' := []) rfl rfl trivial ⟨.inr rfl, trivial⟩), he⟩

noncomputable def c_laws_eqRuleS : Con := fun args st => match args, st with
  | [.c (.imm (.pair (.int .i64) (.pair (.sl (.int .i64)) (.pair (.sl (.int .i64)) (.pair (.int .i64) (.sl (.sl (.int .i64))))))) a), .c (.imm (.pair (.int .i64) (.pair (.sl (.int .i64)) (.pair (.sl (.int .i64)) (.pair (.int .i64) (.sl (.sl (.int .i64))))))) b)], [] => .opt (Bool) (laws_eqRuleS a b) (fun r => .ret (.c (.bool r)) [])
  | _, _ => .fail

noncomputable def C_laws_eqRuleS : Cfg := { y := tys, n := 27, h := 0, tab := [(136, c_laws_eqRule)], cut := [], hand := [], good := [], deep := [], sched := [(6, (.first 0 (.first 1 (.first 2 (.first 3 (.first 4 (.first 5 (.first 6 (.first 7 (.alt 8 (.first 9 .done) .stop))))))))))] }

theorem t_laws_eqRuleS : TabOk Try.prog C_laws_eqRuleS := by
  refine tabOk_of ?_
  simp only [C_laws_eqRuleS, List.forall_mem_cons]
  exact ⟨k_laws_eqRule, fun p h => by cases h⟩

theorem k_laws_eqRuleS : Entry Try.prog 72 c_laws_eqRuleS := by
  refine entry_by (C := C_laws_eqRuleS) mixed tys_ok t_laws_eqRuleS (fn := Try.f72) (c := bd Try.f72) (by kernel_rfl) (by kernel_rfl) (by kernel_rfl) (by kernel_rfl) ?_
  intro args st k he
  unfold c_laws_eqRuleS at he
  split at he
  rotate_left
  · exact he.elim
  rename_i a b
  have he : Ok (laws_eqRuleS a b) (fun r => k (.c (.bool r)) []) := he
  refine ⟨rfl, rfl, ?_⟩
  refine And.intro (fun hb => ?_) (fun hb => ?_)
  · have he := ok_t he hb
    have he := ok_some he
    exact ⟨rfl, _, _, Leads.refl _ _, he⟩
  · have he := ok_f he hb
    refine loop_model mixed tys_ok t_laws_eqRuleS (S := Int) (I := (fun i => (envOf [(0, .c (.imm (.pair (.int .i64) (.pair (.sl (.int .i64)) (.pair (.sl (.int .i64)) (.pair (.int .i64) (.sl (.sl (.int .i64))))))) a)), (1, .c (.imm (.pair (.int .i64) (.pair (.sl (.int .i64)) (.pair (.sl (.int .i64)) (.pair (.int .i64) (.sl (.sl (.int .i64))))))) b)), (5, .c (.int .i64 i))], []))) (f := laws_eqRuleS_l1 a b) (K := (fun r => k (.c (.bool r)) [])) he (leads_ren [] (l := [(0, .c (.imm (.pair (.int .i64) (.pair (.sl (.int .i64)) (.pair (.sl (.int .i64)) (.pair (.int .i64) (.sl (.sl (.int .i64))))))) a)), (1, .c (.imm (.pair (.int .i64) (.pair (.sl (.int .i64)) (.pair (.sl (.int .i64)) (.pair (.int .i64) (.sl (.sl (.int .i64))))))) b)), (5, .c (.int .i64 (0:Int)))]) (st' := []) rfl rfl trivial ⟨.inl rfl, .inl rfl, rfl, trivial⟩) ?_
    rintro i J1 he
    refine And.intro (fun hb => ?_) (fun hb => ?_)
    · have he := ok_t he hb
      refine And.intro (by kernel_rfl) ?_
      have he := ok_rq he
      refine And.intro he.1 ?_
      have he := he.2
      have he := ok_rq he
      refine And.intro he.1 ?_
      have he := he.2
      refine And.intro ?_ trivial
      obtain ⟨r2_, hr, he⟩ := ok_bind he
      refine ⟨r2_, hr, ?_⟩
      refine And.intro (fun hb => ?_) (fun hb => ?_)
      · have he := ok_t he hb
        have he := ok_some he
        exact ⟨rfl, _, _, Leads.refl _ _, he⟩
      · have he := ok_f he hb
        have he := ok_rq he
        refine And.intro he.1 ?_
        have he := he.2
        have he := ok_some he
        exact ⟨(i + (1:Int)), he, (leads_ren [] (l := [(0, .c (.imm (.pair (.int .i64) (.pair (.sl (.int .i64)) (.pair (.sl (.int .i64)) (.pair (.int .i64) (.sl (.sl (.int .i64))))))) a)), (1, .c (.imm (.pair (.int .i64) (.pair (.sl (.int .i64)) (.pair (.sl (.int .i64)) (.pair (.int .i64) (.sl (.sl (.int .i64))))))) b)), (5, .c (.int .i64 (i + (1:Int))))]) (st' := []) rfl rfl trivial ⟨.inl rfl, .inl rfl, rfl, trivial⟩)⟩
    · have he := ok_f he hb
      have he := ok_some he
      exact ⟨rfl, _, _, Leads.refl _ _, he⟩

noncomputable def c_laws_eqModel : Con := fun args st => match args, st with
  | [.agg [.imm (.int .i64) a_0, .imm (.pair (.int .i64) (.pair (.sl (.int .i64)) (.pair (.sl (.int .i64)) (.pair (.int .i64) (.sl (.sl (.int .i64))))))) a_1], .agg [.imm (.int .i64) b_0, .imm (.pair (.int .i64) (.pair (.sl (.int .i64)) (.pair (.sl (.int .i64)) (.pair (.int .i64) (.sl (.sl (.int .i64))))))) b_1]], [] => .opt (Bool) (laws_eqModel (a_0, a_1) (b_0, b_1)) (fun r => .ret (.c (.bool r)) [])
  | _, _ => .fail

noncomputable def C_laws_eqModel : Cfg := { y := tys, n := 17, h := 0, tab := [(34, c_laws_eqIntS), (72, c_laws_eqRuleS)], cut := [], hand := [], good := [], deep := [], sched := [] }

theorem t_laws_eqModel : TabOk Try.prog C_laws_eqModel := by
  refine tabOk_of ?_
  simp only [C_laws_eqModel, List.forall_mem_cons]
  exact ⟨k_laws_eqIntS, k_laws_eqRuleS, fun p h => by cases h⟩

theorem k_laws_eqModel : Entry Try.prog 21 c_laws_eqModel := by
  refine entry_by (C := C_laws_eqModel) mixed tys_ok t_laws_eqModel (fn := Try.f21) (c := bd Try.f21) (by kernel_rfl) (by kernel_rfl) (by kernel_rfl) (by kernel_rfl) ?_
  intro args st k he
  unfold c_laws_eqModel at he
  split at he
  rotate_left
  · exact he.elim
  rename_i a_0 a_1 b_0 b_1
  have he : Ok (laws_eqModel (a_0, a_1) (b_0, b_1)) (fun r => k (.c (.bool r)) []) := he
  refine ⟨rfl, rfl, ?_⟩
  obtain ⟨r1_, hr, he⟩ := ok_bind he
  refine ⟨r1_, hr, ?_⟩
  refine And.intro (fun hb => ?_) (fun hb => ?_)
  · have he := ok_t he hb
    have he := ok_some he
    exact ⟨rfl, _, _, (leads_ren [] (l := [(4, .c (.bool false))]) (st' := []) rfl rfl trivial ⟨.inr rfl, trivial⟩), he⟩
  · have he := ok_f he hb
    obtain ⟨r2_, hr, he⟩ := ok_bind he
    refine ⟨r2_, hr, ?_⟩
    refine And.intro (fun hb => ?_) (fun hb => ?_)
    · have he := ok_t he hb
      have he := ok_some he
      exact ⟨rfl, _, _, (leads_ren [] (l := [(4, .c (.bool false))]) (st' := []) rfl rfl trivial ⟨.inr rfl, trivial⟩), he⟩
    · have he := ok_f he hb
      have he := ok_some he
      exact ⟨rfl, _, _, (leads_ren [] (l := [(4, .c (.bool true))]) (st' := []) rfl rfl trivial ⟨.inr rfl, trivial⟩), he⟩

noncomputable def c_laws_markIntS : Con := fun args st => match args, st with
  | [.c (.own 0 false), .c (.int .i64 k_)], [(0, .sl 3 (.int .i64) a .shallow)] => .opt (Int × (List Int)) (laws_markIntS k_ a) (fun r => .ret (.c (.int .i64 r.1)) [(0, .sl 3 (.int .i64) r.2 .shallow)])
  | _, _ => .fail

noncomputable def C_laws_markIntS : Cfg := { y := tys, n := 19, h := 1, tab := [], cut := [], hand := [], good := [], deep := [], sched := [] }

theorem t_laws_markIntS : TabOk Try.prog C_laws_markIntS := tabOk_of (fun p h => by cases h)

theorem k_laws_markIntS : Entry Try.prog 36 c_laws_markIntS := by
  refine entry_by (C := C_laws_markIntS) mixed tys_ok t_laws_markIntS (fn := Try.f36) (c := bd Try.f36) (by kernel_rfl) (by kernel_rfl) (by kernel_rfl) (by kernel_rfl) ?_
  intro args st k he
  unfold c_laws_markIntS at he
  split at he
  rotate_left
  · exact he.elim
  rename_i k_ a
  have he : Ok (laws_markIntS k_ a) (fun r => k (.c (.int .i64 r.1)) [(0, .sl 3 (.int .i64) r.2 .shallow)]) := he
  refine ⟨rfl, rfl, ?_⟩
  refine loop_model mixed tys_ok t_laws_markIntS (S := Int × Int × (List Int)) (I := (fun (k_1, i, a1) => (envOf [(0, .c (.own 0 false)), (1, .c (.int .i64 k_1)), (5, .c (.int .i64 i))], [(0, .sl 3 (.int .i64) a1 .shallow)]))) (f := laws_markIntS_l1) (K := (fun r => k (.c (.int .i64 r.1)) [(0, .sl 3 (.int .i64) r.2 .shallow)])) he (leads_ren [] (l := [(0, .c (.own 0 false)), (1, .c (.int .i64 k_)), (5, .c (.int .i64 (0:Int)))]) (st' := [(0, .sl 3 (.int .i64) a .shallow)]) rfl rfl ⟨⟨rfl, rfl⟩, trivial⟩ ⟨⟨⟨rfl, rfl⟩, trivial⟩, rfl, rfl, trivial⟩) ?_
  rintro ⟨k_1, i, a1⟩ J1 he
  refine And.intro (fun hb => ?_) (fun hb => ?_)
  · have he := ok_t he hb
    have he := ok_rq he
    refine And.intro he.1 ?_
    have he := he.2
    have he := ok_rq he
    refine And.intro he.1 ?_
    have he := he.2
    have he := ok_rq he
    refine And.intro he.1 ?_
    have he := he.2
    have he := ok_some he
    exact ⟨((k_1 + (1:Int)), (i + (1:Int)), (a1.set i.toNat k_1)), he, (leads_ren [] (l := [(0, .c (.own 0 false)), (1, .c (.int .i64 (k_1 + (1:Int)))), (5, .c (.int .i64 (i + (1:Int))))]) (st' := [(0, .sl 3 (.int .i64) (a1.set i.toNat k_1) .shallow)]) rfl rfl ⟨⟨rfl, rfl⟩, trivial⟩ ⟨⟨⟨rfl, rfl⟩, trivial⟩, rfl, rfl, trivial⟩)⟩
  · have he := ok_f he hb
    have he := ok_some he
    exact ⟨rfl, _, _, (leads_ren [] (l := [(4, .c (.int .i64 k_1))]) (st' := [(0, .sl 3 (.int .i64) a1 .shallow)]) rfl rfl ⟨⟨rfl, rfl⟩, trivial⟩ ⟨rfl, trivial⟩), he⟩

noncomputable def c_laws_markIntS__d : Con := fun args st => match args, st with
  | [.c (.own 0 false), .c (.int .i64 k_)], [(0, .sl 0 (.int .i64) a (.deep false .no))] => .opt (Int × (List Int)) (laws_markIntS__d k_ a) (fun r => .ret (.c (.int .i64 r.1)) [(0, .sl 0 (.int .i64) r.2 (.deep false .no))])
  | _, _ => .fail

noncomputable def C_laws_markIntS__d : Cfg := { y := tys, n := 19, h := 1, tab := [], cut := [], hand := [], good := [], deep := [], sched := [] }

theorem t_laws_markIntS__d : TabOk Try.prog C_laws_markIntS__d := tabOk_of (fun p h => by cases h)

theorem k_laws_markIntS__d : Entry Try.prog 36 c_laws_markIntS__d := by
  refine entry_by (C := C_laws_markIntS__d) mixed tys_ok t_laws_markIntS__d (fn := Try.f36) (c := bd Try.f36) (by kernel_rfl) (by kernel_rfl) (by kernel_rfl) (by kernel_rfl) ?_
  intro args st k he
  unfold c_laws_markIntS__d at he
  split at he
  rotate_left
  · exact he.elim
  rename_i k_ a
  have he : Ok (laws_markIntS__d k_ a) (fun r => k (.c (.int .i64 r.1)) [(0, .sl 0 (.int .i64) r.2 (.deep false .no))]) := he
  refine ⟨rfl, rfl, ?_⟩
  refine loop_model mixed tys_ok t_laws_markIntS__d (S := Int × Int × (List Int)) (I := (fun (k_1, i, a1) => (envOf [(0, .c (.own 0 false)), (1, .c (.int .i64 k_1)), (5, .c (.int .i64 i))], [(0, .sl 0 (.int .i64) a1 (.deep false .no))]))) (f := laws_markIntS__d_l1) (K := (fun r => k (.c (.int .i64 r.1)) [(0, .sl 0 (.int .i64) r.2 (.deep false .no))])) he (leads_ren [] (l := [(0, .c (.own 0 false)), (1, .c (.int .i64 k_)), (5, .c (.int .i64 (0:Int)))]) (st' := [(0, .sl 0 (.int .i64) a (.deep false .no))]) rfl rfl ⟨⟨rfl, rfl⟩, trivial⟩ ⟨⟨⟨rfl, rfl⟩, trivial⟩, rfl, rfl, trivial⟩) ?_
  rintro ⟨k_1, i, a1⟩ J1 he
  refine And.intro (fun hb => ?_) (fun hb => ?_)
  · have he := ok_t he hb
    have he := ok_rq he
    refine And.intro he.1 ?_
    have he := he.2
    have he := ok_rq he
    refine And.intro he.1 ?_
    have he := he.2
    have he := ok_rq he
    refine And.intro he.1 ?_
    have he := he.2
    have he := ok_some he
    exact ⟨((k_1 + (1:Int)), (i + (1:Int)), (a1.set i.toNat k_1)), he, (leads_ren [] (l := [(0, .c (.own 0 false)), (1, .c (.int .i64 (k_1 + (1:Int)))), (5, .c (.int .i64 (i + (1:Int))))]) (st' := [(0, .sl 0 (.int .i64) (a1.set i.toNat k_1) (.deep false .no))]) rfl rfl ⟨⟨rfl, rfl⟩, trivial⟩ ⟨⟨⟨rfl, rfl⟩, trivial⟩, rfl, rfl, trivial⟩)⟩
  · have he := ok_f he hb
    have he := ok_some he
    exact ⟨rfl, _, _, (leads_ren [] (l := [(4, .c (.int .i64 k_1))]) (st' := [(0, .sl 0 (.int .i64) a1 (.deep false .no))]) rfl rfl ⟨⟨rfl, rfl⟩, trivial⟩ ⟨rfl, trivial⟩), he⟩

noncomputable def c_laws_markIntSS : Con := fun args st => match args, st with
  | [.c (.own 0 false), .c (.int .i64 k_)], [(0, .sl 0 (.sl (.int .i64)) a (.deep false .no))] => .opt (Int × (List (List Int))) (laws_markIntSS k_ a) (fun r => .ret (.c (.int .i64 r.1)) [(0, .sl 0 (.sl (.int .i64)) r.2 (.deep false .no))])
  | _, _ => .fail

noncomputable def C_laws_markIntSS : Cfg := { y := tys, n := 19, h := 1, tab := [(36, c_laws_markIntS__d)], cut := [], hand := [(36, [0])], good := [], deep := [], sched := [] }

theorem t_laws_markIntSS : TabOk Try.prog C_laws_markIntSS := by
  refine tabOk_of ?_
  simp only [C_laws_markIntSS, List.forall_mem_cons]
  exact ⟨k_laws_markIntS__d, fun p h => by cases h⟩

theorem k_laws_markIntSS : Entry Try.prog 152 c_laws_markIntSS := by
  refine entry_by (C := C_laws_markIntSS) mixed tys_ok t_laws_markIntSS (fn := Try.f152) (c := bd Try.f152) (by kernel_rfl) (by kernel_rfl) (by kernel_rfl) (by kernel_rfl) ?_
  intro args st k he
  unfold c_laws_markIntSS at he
  split at he
  rotate_left
  · exact he.elim
  rename_i k_ a
  have he : Ok (laws_markIntSS k_ a) (fun r => k (.c (.int .i64 r.1)) [(0, .sl 0 (.sl (.int .i64)) r.2 (.deep false .no))]) := he
  refine ⟨rfl, rfl, ?_⟩
  refine loop_model mixed tys_ok t_laws_markIntSS (S := Int × Int × (List (List Int))) (I := (fun (k_1, i, a1) => (envOf [(0, .c (.own 0 false)), (1, .c (.int .i64 k_1)), (5, .c (.int .i64 i))], [(0, .sl 0 (.sl (.int .i64)) a1 (.deep false .no))]))) (f := laws_markIntSS_l1) (K := (fun r => k (.c (.int .i64 r.1)) [(0, .sl 0 (.sl (.int .i64)) r.2 (.deep false .no))])) he (leads_ren [] (l := [(0, .c (.own 0 false)), (1, .c (.int .i64 k_)), (5, .c (.int .i64 (0:Int)))]) (st' := [(0, .sl 0 (.sl (.int .i64)) a (.deep false .no))]) rfl rfl ⟨⟨rfl, rfl⟩, trivial⟩ ⟨⟨⟨rfl, rfl⟩, trivial⟩, rfl, rfl, trivial⟩) ?_
  rintro ⟨k_1, i, a1⟩ J1 he
  refine And.intro (fun hb => ?_) (fun hb => ?_)
  · have he := ok_t he hb
    have he := ok_rq he
    refine And.intro he.1 ?_
    have he := he.2
    obtain ⟨r2_, hr, he⟩ := ok_bind he
    refine ⟨r2_, hr, ?_⟩
    have he := ok_rq he
    refine And.intro he.1 ?_
    have he := he.2
    have he := ok_some he
    exact ⟨(r2_.1, (i + (1:Int)), (a1.set i.toNat r2_.2)), he, ((leads_close [0] rfl).trans (leads_ren [] (l := [(0, .c (.own 0 false)), (1, .c (.int .i64 r2_.1)), (5, .c (.int .i64 (i + (1:Int))))]) (st' := [(0, .sl 0 (.sl (.int .i64)) (a1.set i.toNat r2_.2) (.deep false .no))]) rfl rfl (by exact ⟨⟨rfl, rfl⟩, trivial⟩) (by exact ⟨⟨⟨rfl, rfl⟩, trivial⟩, rfl, rfl, trivial⟩)))⟩
  · have he := ok_f he hb
    have he := ok_some he
    exact ⟨rfl, _, _, (leads_ren [] (l := [(4, .c (.int .i64 k_1))]) (st' := [(0, .sl 0 (.sl (.int .i64)) a1 (.deep false .no))]) rfl rfl ⟨⟨rfl, rfl⟩, trivial⟩ ⟨rfl, trivial⟩), he⟩

noncomputable def c_laws_markRuleS : Con := fun args st => match args, st with
  | [.c (.own 0 false), .c (.int .i64 k_)], [(0, .sl 112 (.pair (.int .i64) (.pair (.sl (.int .i64)) (.pair (.sl (.int .i64)) (.pair (.int .i64) (.sl (.sl (.int .i64))))))) a (.deep true .no))] => .opt (Int × (List (Int × (List Int) × (List Int) × Int × (List (List Int))))) (laws_markRuleS k_ a) (fun r => .ret (.c (.int .i64 r.1)) [(0, .sl 112 (.pair (.int .i64) (.pair (.sl (.int .i64)) (.pair (.sl (.int .i64)) (.pair (.int .i64) (.sl (.sl (.int .i64))))))) r.2 (.deep true .no))])
  | _, _ => .fail

noncomputable def C_laws_markRuleS : Cfg := { y := tys, n := 48, h := 1, tab := [(36, c_laws_markIntS__d), (152, c_laws_markIntSS)], cut := [8, 9], hand := [(36, [0]), (152, [0])], good := [], deep := [], sched := [] }

theorem t_laws_markRuleS : TabOk Try.prog C_laws_markRuleS := by
  refine tabOk_of ?_
  simp only [C_laws_markRuleS, List.forall_mem_cons]
  exact ⟨k_laws_markIntS__d, k_laws_markIntSS, fun p h => by cases h⟩

theorem k_laws_markRuleS : Entry Try.prog 95 c_laws_markRuleS := by
  refine entry_by (C := C_laws_markRuleS) mixed tys_ok t_laws_markRuleS (fn := Try.f95) (c := bd Try.f95) (by kernel_rfl) (by kernel_rfl) (by kernel_rfl) (by kernel_rfl) ?_
  intro args st k he
  unfold c_laws_markRuleS at he
  split at he
  rotate_left
  · exact he.elim
  rename_i k_ a
  have he : Ok (laws_markRuleS k_ a) (fun r => k (.c (.int .i64 r.1)) [(0, .sl 112 (.pair (.int .i64) (.pair (.sl (.int .i64)) (.pair (.sl (.int .i64)) (.pair (.int .i64) (.sl (.sl (.int .i64))))))) r.2 (.deep true .no))]) := he
  refine ⟨rfl, rfl, ?_⟩
  refine loop_model mixed tys_ok t_laws_markRuleS (S := Int × Int × (List (Int × (List Int) × (List Int) × Int × (List (List Int))))) (I := (fun (k_1, i, a3) => (envOf [(0, .c (.own 0 false)), (1, .c (.int .i64 k_1)), (5, .c (.int .i64 i))], [(0, .sl 112 (.pair (.int .i64) (.pair (.sl (.int .i64)) (.pair (.sl (.int .i64)) (.pair (.int .i64) (.sl (.sl (.int .i64))))))) a3 (.deep true .no))]))) (f := laws_markRuleS_l1) (K := (fun r => k (.c (.int .i64 r.1)) [(0, .sl 112 (.pair (.int .i64) (.pair (.sl (.int .i64)) (.pair (.sl (.int .i64)) (.pair (.int .i64) (.sl (.sl (.int .i64))))))) r.2 (.deep true .no))])) he (leads_ren [] (l := [(0, .c (.own 0 false)), (1, .c (.int .i64 k_)), (5, .c (.int .i64 (0:Int)))]) (st' := [(0, .sl 112 (.pair (.int .i64) (.pair (.sl (.int .i64)) (.pair (.sl (.int .i64)) (.pair (.int .i64) (.sl (.sl (.int .i64))))))) a (.deep true .no))]) rfl rfl ⟨⟨rfl, rfl⟩, trivial⟩ ⟨⟨⟨rfl, rfl⟩, trivial⟩, rfl, rfl, trivial⟩) ?_
  rintro ⟨k_1, i, a3⟩ J1 he
  refine And.intro (fun hb => ?_) (fun hb => ?_)
  · have he := ok_t he hb
    have he := ok_rq he
    refine And.intro he.1 ?_
    have he := he.2
    have he := ok_rq he
    refine And.intro he.1 ?_
    have he := he.2
    have he := ok_rq he
    refine And.intro he.1 ?_
    have he := he.2
    obtain ⟨r4_, hr, he⟩ := ok_bind he
    refine ⟨r4_, hr, ?_⟩
    refine seq_model mixed tys_ok t_laws_markRuleS (S := Int × (List (Int × (List Int) × (List Int) × Int × (List (List Int))))) (I := (fun (k_3, a4) => (envOf [(0, .c (.own 0 false)), (1, .c (.int .i64 k_3)), (5, .c (.int .i64 i))], [(0, .sl 112 (.pair (.int .i64) (.pair (.sl (.int .i64)) (.pair (.sl (.int .i64)) (.pair (.int .i64) (.sl (.sl (.int .i64))))))) a4 (.deep true .no))]))) (B := fun s => Ok (laws_markRuleS_j1 i s) (LK J1 (fun r => k (.c (.int .i64 r.1)) [(0, .sl 112 (.pair (.int .i64) (.pair (.sl (.int .i64)) (.pair (.sl (.int .i64)) (.pair (.int .i64) (.sl (.sl (.int .i64))))))) r.2 (.deep true .no))]))) ?_ ?_
    · rintro ⟨k_3, a4⟩ he
      refine seq_model mixed tys_ok t_laws_markRuleS (S := (List (Int × (List Int) × (List Int) × Int × (List (List Int))))) (I := (fun a5 => (envOf [(0, .c (.own 0 false)), (1, .c (.int .i64 k_3)), (5, .c (.int .i64 i))], [(0, .sl 112 (.pair (.int .i64) (.pair (.sl (.int .i64)) (.pair (.sl (.int .i64)) (.pair (.int .i64) (.sl (.sl (.int .i64))))))) a5 (.deep true .no))]))) (B := fun s => Ok (laws_markRuleS_j2 i k_3 s) (LK J1 (fun r => k (.c (.int .i64 r.1)) [(0, .sl 112 (.pair (.int .i64) (.pair (.sl (.int .i64)) (.pair (.sl (.int .i64)) (.pair (.int .i64) (.sl (.sl (.int .i64))))))) r.2 (.deep true .no))]))) ?_ ?_
      · rintro a5 he
        have he := ok_rq he
        refine And.intro he.1 ?_
        have he := he.2
        have he := ok_rq he
        refine And.intro he.1 ?_
        have he := he.2
        obtain ⟨r6_, hr, he⟩ := ok_bind he
        refine ⟨r6_, hr, ?_⟩
        have he := ok_rq he
        refine And.intro he.1 ?_
        have he := he.2
        have he := ok_some he
        exact ⟨(r6_.1, (i + (1:Int)), (a5.set i.toNat ((a5.getD i.toNat (0, ([], ([], (0, []))))).1, ((a5.getD i.toNat (0, ([], ([], (0, []))))).2.1, ((a5.getD i.toNat (0, ([], ([], (0, []))))).2.2.1, ((a5.getD i.toNat (0, ([], ([], (0, []))))).2.2.2.1, r6_.2)))))), he, ((leads_close [0] rfl).trans (leads_ren [] (l := [(0, .c (.own 0 false)), (1, .c (.int .i64 r6_.1)), (5, .c (.int .i64 (i + (1:Int))))]) (st' := [(0, .sl 112 (.pair (.int .i64) (.pair (.sl (.int .i64)) (.pair (.sl (.int .i64)) (.pair (.int .i64) (.sl (.sl (.int .i64))))))) (a5.set i.toNat ((a5.getD i.toNat (0, ([], ([], (0, []))))).1, ((a5.getD i.toNat (0, ([], ([], (0, []))))).2.1, ((a5.getD i.toNat (0, ([], ([], (0, []))))).2.2.1, ((a5.getD i.toNat (0, ([], ([], (0, []))))).2.2.2.1, r6_.2))))) (.deep true .no))]) rfl rfl (by exact ⟨⟨rfl, rfl⟩, trivial⟩) (by exact ⟨⟨⟨rfl, rfl⟩, trivial⟩, rfl, rfl, trivial⟩)))⟩
      · skip
        have he := ok_rq he
        refine And.intro he.1 ?_
        have he := he.2
        exact ⟨(a4.set i.toNat ((a4.getD i.toNat (0, ([], ([], (0, []))))).1, ((a4.getD i.toNat (0, ([], ([], (0, []))))).2.1, ((a4.getD i.toNat (0, ([], ([], (0, []))))).2.2.1, (k_3, (a4.getD i.toNat (0, ([], ([], (0, []))))).2.2.2.2))))), he, (leads_ren [] (l := [(0, .c (.own 0 false)), (1, .c (.int .i64 k_3)), (5, .c (.int .i64 i))]) (st' := [(0, .sl 112 (.pair (.int .i64) (.pair (.sl (.int .i64)) (.pair (.sl (.int .i64)) (.pair (.int .i64) (.sl (.sl (.int .i64))))))) (a4.set i.toNat ((a4.getD i.toNat (0, ([], ([], (0, []))))).1, ((a4.getD i.toNat (0, ([], ([], (0, []))))).2.1, ((a4.getD i.toNat (0, ([], ([], (0, []))))).2.2.1, (k_3, (a4.getD i.toNat (0, ([], ([], (0, []))))).2.2.2.2))))) (.deep true .no))]) rfl rfl ⟨⟨rfl, rfl⟩, trivial⟩ ⟨⟨⟨rfl, rfl⟩, trivial⟩, rfl, rfl, trivial⟩)⟩
    · skip
      have he := ok_rq he
      refine And.intro he.1 ?_
      have he := he.2
      obtain ⟨r5_, hr, he⟩ := ok_bind he
      refine ⟨r5_, hr, ?_⟩
      exact ⟨(r5_.1, (((a3.set i.toNat (k_1, (a3.getD i.toNat (0, ([], ([], (0, []))))).2)).set i.toNat (((a3.set i.toNat (k_1, (a3.getD i.toNat (0, ([], ([], (0, []))))).2)).getD i.toNat (0, ([], ([], (0, []))))).1, (r4_.2, ((a3.set i.toNat (k_1, (a3.getD i.toNat (0, ([], ([], (0, []))))).2)).getD i.toNat (0, ([], ([], (0, []))))).2.2))).set i.toNat ((((a3.set i.toNat (k_1, (a3.getD i.toNat (0, ([], ([], (0, []))))).2)).set i.toNat (((a3.set i.toNat (k_1, (a3.getD i.toNat (0, ([], ([], (0, []))))).2)).getD i.toNat (0, ([], ([], (0, []))))).1, (r4_.2, ((a3.set i.toNat (k_1, (a3.getD i.toNat (0, ([], ([], (0, []))))).2)).getD i.toNat (0, ([], ([], (0, []))))).2.2))).getD i.toNat (0, ([], ([], (0, []))))).1, ((((a3.set i.toNat (k_1, (a3.getD i.toNat (0, ([], ([], (0, []))))).2)).set i.toNat (((a3.set i.toNat (k_1, (a3.getD i.toNat (0, ([], ([], (0, []))))).2)).getD i.toNat (0, ([], ([], (0, []))))).1, (r4_.2, ((a3.set i.toNat (k_1, (a3.getD i.toNat (0, ([], ([], (0, []))))).2)).getD i.toNat (0, ([], ([], (0, []))))).2.2))).getD i.toNat (0, ([], ([], (0, []))))).2.1, (r5_.2, (((a3.set i.toNat (k_1, (a3.getD i.toNat (0, ([], ([], (0, []))))).2)).set i.toNat (((a3.set i.toNat (k_1, (a3.getD i.toNat (0, ([], ([], (0, []))))).2)).getD i.toNat (0, ([], ([], (0, []))))).1, (r4_.2, ((a3.set i.toNat (k_1, (a3.getD i.toNat (0, ([], ([], (0, []))))).2)).getD i.toNat (0, ([], ([], (0, []))))).2.2))).getD i.toNat (0, ([], ([], (0, []))))).2.2.2))))), he, ((leads_close [0] rfl).trans (leads_ren [] (l := [(0, .c (.own 0 false)), (1, .c (.int .i64 r5_.1)), (5, .c (.int .i64 i))]) (st' := [(0, .sl 112 (.pair (.int .i64) (.pair (.sl (.int .i64)) (.pair (.sl (.int .i64)) (.pair (.int .i64) (.sl (.sl (.int .i64))))))) (((a3.set i.toNat (k_1, (a3.getD i.toNat (0, ([], ([], (0, []))))).2)).set i.toNat (((a3.set i.toNat (k_1, (a3.getD i.toNat (0, ([], ([], (0, []))))).2)).getD i.toNat (0, ([], ([], (0, []))))).1, (r4_.2, ((a3.set i.toNat (k_1, (a3.getD i.toNat (0, ([], ([], (0, []))))).2)).getD i.toNat (0, ([], ([], (0, []))))).2.2))).set i.toNat ((((a3.set i.toNat (k_1, (a3.getD i.toNat (0, ([], ([], (0, []))))).2)).set i.toNat (((a3.set i.toNat (k_1, (a3.getD i.toNat (0, ([], ([], (0, []))))).2)).getD i.toNat (0, ([], ([], (0, []))))).1, (r4_.2, ((a3.set i.toNat (k_1, (a3.getD i.toNat (0, ([], ([], (0, []))))).2)).getD i.toNat (0, ([], ([], (0, []))))).2.2))).getD i.toNat (0, ([], ([], (0, []))))).1, ((((a3.set i.toNat (k_1, (a3.getD i.toNat (0, ([], ([], (0, []))))).2)).set i.toNat (((a3.set i.toNat (k_1, (a3.getD i.toNat (0, ([], ([], (0, []))))).2)).getD i.toNat (0, ([], ([], (0, []))))).1, (r4_.2, ((a3.set i.toNat (k_1, (a3.getD i.toNat (0, ([], ([], (0, []))))).2)).getD i.toNat (0, ([], ([], (0, []))))).2.2))).getD i.toNat (0, ([], ([], (0, []))))).2.1, (r5_.2, (((a3.set i.toNat (k_1, (a3.getD i.toNat (0, ([], ([], (0, []))))).2)).set i.toNat (((a3.set i.toNat (k_1, (a3.getD i.toNat (0, ([], ([], (0, []))))).2)).getD i.toNat (0, ([], ([], (0, []))))).1, (r4_.2, ((a3.set i.toNat (k_1, (a3.getD i.toNat (0, ([], ([], (0, []))))).2)).getD i.toNat (0, ([], ([], (0, []))))).2.2))).getD i.toNat (0, ([], ([], (0, []))))).2.2.2)))) (.deep true .no))]) rfl rfl (by exact ⟨⟨rfl, rfl⟩, trivial⟩) (by exact ⟨⟨⟨rfl, rfl⟩, trivial⟩, rfl, rfl, trivial⟩)))⟩
  · have he := ok_f he hb
    have he := ok_some he
    exact ⟨rfl, _, _, (leads_ren [] (l := [(4, .c (.int .i64 k_1))]) (st' := [(0, .sl 112 (.pair (.int .i64) (.pair (.sl (.int .i64)) (.pair (.sl (.int .i64)) (.pair (.int .i64) (.sl (.sl (.int .i64))))))) a3 (.deep true .no))]) rfl rfl ⟨⟨rfl, rfl⟩, trivial⟩ ⟨rfl, trivial⟩), he⟩

noncomputable def c_laws_markModel : Con := fun args st => match args, st with
  | [.agg [.own 0 false, .own 1 false], .c (.int .i64 k_)], [(0, .sl 3 (.int .i64) o0 .shallow), (1, .sl 112 (.pair (.int .i64) (.pair (.sl (.int .i64)) (.pair (.sl (.int .i64)) (.pair (.int .i64) (.sl (.sl (.int .i64))))))) o1 (.deep true .no))] => .opt (Int × (List Int) × (List (Int × (List Int) × (List Int) × Int × (List (List Int))))) (laws_markModel k_ o0 o1) (fun r => .ret (.c (.int .i64 r.1)) [(0, .sl 3 (.int .i64) r.2.1 .shallow), (1, .sl 112 (.pair (.int .i64) (.pair (.sl (.int .i64)) (.pair (.sl (.int .i64)) (.pair (.int .i64) (.sl (.sl (.int .i64))))))) r.2.2 (.deep true .no))])
  | _, _ => .fail

noncomputable def C_laws_markModel : Cfg := { y := tys, n := 14, h := 2, tab := [(36, c_laws_markIntS), (95, c_laws_markRuleS)], cut := [], hand := [(36, [0]), (95, [0])], good := [], deep := [], sched := [] }

theorem t_laws_markModel : TabOk Try.prog C_laws_markModel := by
  refine tabOk_of ?_
  simp only [C_laws_markModel, List.forall_mem_cons]
  exact ⟨k_laws_markIntS, k_laws_markRuleS, fun p h => by cases h⟩

theorem k_laws_markModel : Entry Try.prog 35 c_laws_markModel := by
  refine entry_by (C := C_laws_markModel) mixed tys_ok t_laws_markModel (fn := Try.f35) (c := bd Try.f35) (by kernel_rfl) (by kernel_rfl) (by kernel_rfl) (by kernel_rfl) ?_
  intro args st k he
  unfold c_laws_markModel at he
  split at he
  rotate_left
  · exact he.elim
  rename_i k_ o0 o1
  have he : Ok (laws_markModel k_ o0 o1) (fun r => k (.c (.int .i64 r.1)) [(0, .sl 3 (.int .i64) r.2.1 .shallow), (1, .sl 112 (.pair (.int .i64) (.pair (.sl (.int .i64)) (.pair (.sl (.int .i64)) (.pair (.int .i64) (.sl (.sl (.int .i64))))))) r.2.2 (.deep true .no))]) := he
  refine ⟨rfl, rfl, ?_⟩
  obtain ⟨r1_, hr, he⟩ := ok_bind he
  refine ⟨r1_, hr, ?_⟩
  obtain ⟨r2_, hr, he⟩ := ok_bind he
  refine ⟨r2_, hr, ?_⟩
  have he := ok_some he
  exact ⟨rfl, _, _, (leads_ren [] (l := [(4, .c (.int .i64 r2_.1))]) (st' := [(0, .sl 3 (.int .i64) r1_.2 .shallow), (1, .sl 112 (.pair (.int .i64) (.pair (.sl (.int .i64)) (.pair (.sl (.int .i64)) (.pair (.int .i64) (.sl (.sl (.int .i64))))))) r2_.2 (.deep true .no))]) rfl rfl ⟨⟨rfl, rfl⟩, ⟨rfl, rfl⟩, trivial⟩ ⟨rfl, trivial⟩), he⟩

noncomputable def c_laws_heldIntS : Con := fun args st => match args, st with
  | [.c (.imm (.int .i64) a), .c (.int .i64 k_)], [] => .opt (Int) (laws_heldIntS a k_) (fun r => .ret (.c (.int .i64 r)) [])
  | _, _ => .fail

noncomputable def C_laws_heldIntS : Cfg := { y := tys, n := 21, h := 0, tab := [], cut := [], hand := [], good := [], deep := [], sched := [] }

theorem t_laws_heldIntS : TabOk Try.prog C_laws_heldIntS := tabOk_of (fun p h => by cases h)

theorem k_laws_heldIntS : Entry Try.prog 37 c_laws_heldIntS := by
  refine entry_by (C := C_laws_heldIntS) mixed tys_ok t_laws_heldIntS (fn := Try.f37) (c := bd Try.f37) (by kernel_rfl) (by kernel_rfl) (by kernel_rfl) (by kernel_rfl) ?_
  intro args st k he
  unfold c_laws_heldIntS at he
  split at he
  rotate_left
  · exact he.elim
  rename_i a k_
  have he : Ok (laws_heldIntS a k_) (fun r => k (.c (.int .i64 r)) []) := he
  refine ⟨rfl, rfl, ?_⟩
  refine loop_model mixed tys_ok t_laws_heldIntS (S := Int × Int) (I := (fun (k_1, i) => (envOf [(0, .c (.imm (.int .i64) a)), (1, .c (.int .i64 k_1)), (5, .c (.int .i64 i))], []))) (f := laws_heldIntS_l1 a) (K := (fun r => k (.c (.int .i64 r)) [])) he (leads_ren [] (l := [(0, .c (.imm (.int .i64) a)), (1, .c (.int .i64 k_)), (5, .c (.int .i64 (0:Int)))]) (st' := []) rfl rfl trivial ⟨.inl rfl, rfl, rfl, trivial⟩) ?_
  rintro ⟨k_1, i⟩ J1 he
  refine And.intro (fun hb => ?_) (fun hb => ?_)
  · have he := ok_t he hb
    have he := ok_rq he
    refine And.intro he.1 ?_
    have he := he.2
    refine And.intro (fun hb => ?_) (fun hb => ?_)
    · have he := ok_t he hb
      have he := ok_some he
      exact ⟨rfl, _, _, Leads.refl _ _, he⟩
    · have he := ok_f he hb
      have he := ok_rq he
      refine And.intro he.1 ?_
      have he := he.2
      have he := ok_rq he
      refine And.intro he.1 ?_
      have he := he.2
      have he := ok_some he
      exact ⟨((k_1 + (1:Int)), (i + (1:Int))), he, (leads_ren [] (l := [(0, .c (.imm (.int .i64) a)), (1, .c (.int .i64 (k_1 + (1:Int)))), (5, .c (.int .i64 (i + (1:Int))))]) (st' := []) rfl rfl trivial ⟨.inl rfl, rfl, rfl, trivial⟩)⟩
  · have he := ok_f he hb
    have he := ok_some he
    exact ⟨rfl, _, _, Leads.refl _ _, he⟩

noncomputable def c_laws_heldIntSS : Con := fun args st => match args, st with
  | [.c (.imm (.sl (.int .i64)) a), .c (.int .i64 k_)], [] => .opt (Int) (laws_heldIntSS a k_) (fun r => .ret (.c (.int .i64 r)) [])
  | _, _ => .fail

noncomputable def C_laws_heldIntSS : Cfg := { y := tys, n := 21, h := 0, tab := [(37, c_laws_heldIntS)], cut := [], hand := [], good := [], deep := [], sched := [] }

theorem t_laws_heldIntSS : TabOk Try.prog C_laws_heldIntSS := by
  refine tabOk_of ?_
  simp only [C_laws_heldIntSS, List.forall_mem_cons]
  exact ⟨k_laws_heldIntS, fun p h => by cases h⟩

theorem k_laws_heldIntSS : Entry Try.prog 163 c_laws_heldIntSS := by
  refine entry_by (C := C_laws_heldIntSS) mixed tys_ok t_laws_heldIntSS (fn := Try.f163) (c := bd Try.f163) (by kernel_rfl) (by kernel_rfl) (by kernel_rfl) (by kernel_rfl) ?_
  intro args st k he
  unfold c_laws_heldIntSS at he
  split at he
  rotate_left
  · exact he.elim
  rename_i a k_
  have he : Ok (laws_heldIntSS a k_) (fun r => k (.c (.int .i64 r)) []) := he
  refine ⟨rfl, rfl, ?_⟩
  refine loop_model mixed tys_ok t_laws_heldIntSS (S := Int × Int) (I := (fun (k_1, i) => (envOf [(0, .c (.imm (.sl (.int .i64)) a)), (1, .c (.int .i64 k_1)), (5, .c (.int .i64 i))], []))) (f := laws_heldIntSS_l1 a) (K := (fun r => k (.c (.int .i64 r)) [])) he (leads_ren [] (l := [(0, .c (.imm (.sl (.int .i64)) a)), (1, .c (.int .i64 k_)), (5, .c (.int .i64 (0:Int)))]) (st' := []) rfl rfl trivial ⟨.inl rfl, rfl, rfl, trivial⟩) ?_
  rintro ⟨k_1, i⟩ J1 he
  refine And.intro (fun hb => ?_) (fun hb => ?_)
  · have he := ok_t he hb
    have he := ok_rq he
    refine And.intro he.1 ?_
    have he := he.2
    obtain ⟨r1_, hr, he⟩ := ok_bind he
    refine ⟨r1_, hr, ?_⟩
    refine And.intro (fun hb => ?_) (fun hb => ?_)
    · have he := ok_t he hb
      have he := ok_some he
      exact ⟨rfl, _, _, Leads.refl _ _, he⟩
    · have he := ok_f he hb
      have he := ok_rq he
      refine And.intro he.1 ?_
      have he := he.2
      have he := ok_some he
      exact ⟨(r1_, (i + (1:Int))), he, (leads_ren [] (l := [(0, .c (.imm (.sl (.int .i64)) a)), (1, .c (.int .i64 r1_)), (5, .c (.int .i64 (i + (1:Int))))]) (st' := []) rfl rfl trivial ⟨.inl rfl, rfl, rfl, trivial⟩)⟩
  · have he := ok_f he hb
    have he := ok_some he
    exact ⟨rfl, _, _, Leads.refl _ _, he⟩

noncomputable def c_laws_heldRuleS : Con := fun args st => match args, st with
  | [.c (.imm (.pair (.int .i64) (.pair (.sl (.int .i64)) (.pair (.sl (.int .i64)) (.pair (.int .i64) (.sl (.sl (.int .i64))))))) a), .c (.int .i64 k_)], [] => .opt (Int) (laws_heldRuleS a k_) (fun r => .ret (.c (.int .i64 r)) [])
  | _, _ => .fail

noncomputable def C_laws_heldRuleS : Cfg := { y := tys, n := 58, h := 0, tab := [(37, c_laws_heldIntS), (163, c_laws_heldIntSS)], cut := [], hand := [], good := [], deep := [], sched := [] }

theorem t_laws_heldRuleS : TabOk Try.prog C_laws_heldRuleS := by
  refine tabOk_of ?_
  simp only [C_laws_heldRuleS, List.forall_mem_cons]
  exact ⟨k_laws_heldIntS, k_laws_heldIntSS, fun p h => by cases h⟩

theorem k_laws_heldRuleS : Entry Try.prog 112 c_laws_heldRuleS := by
  refine entry_by (C := C_laws_heldRuleS) mixed tys_ok t_laws_heldRuleS (fn := Try.f112) (c := bd Try.f112) (by kernel_rfl) (by kernel_rfl) (by kernel_rfl) (by kernel_rfl) ?_
  intro args st k he
  unfold c_laws_heldRuleS at he
  split at he
  rotate_left
  · exact he.elim
  rename_i a k_
  have he : Ok (laws_heldRuleS a k_) (fun r => k (.c (.int .i64 r)) []) := he
  refine ⟨rfl, rfl, ?_⟩
  refine loop_model mixed tys_ok t_laws_heldRuleS (S := Int × Int) (I := (fun (k_1, i) => (envOf [(0, .c (.imm (.pair (.int .i64) (.pair (.sl (.int .i64)) (.pair (.sl (.int .i64)) (.pair (.int .i64) (.sl (.sl (.int .i64))))))) a)), (1, .c (.int .i64 k_1)), (5, .c (.int .i64 i))], []))) (f := laws_heldRuleS_l1 a) (K := (fun r => k (.c (.int .i64 r)) [])) he (leads_ren [] (l := [(0, .c (.imm (.pair (.int .i64) (.pair (.sl (.int .i64)) (.pair (.sl (.int .i64)) (.pair (.int .i64) (.sl (.sl (.int .i64))))))) a)), (1, .c (.int .i64 k_)), (5, .c (.int .i64 (0:Int)))]) (st' := []) rfl rfl trivial ⟨.inl rfl, rfl, rfl, trivial⟩) ?_
  rintro ⟨k_1, i⟩ J1 he
  refine And.intro (fun hb => ?_) (fun hb => ?_)
  · have he := ok_t he hb
    have he := ok_rq he
    refine And.intro he.1 ?_
    have he := he.2
    refine And.intro (fun hb => ?_) (fun hb => ?_)
    · have he := ok_t he hb
      have he := ok_some he
      exact ⟨rfl, _, _, Leads.refl _ _, he⟩
    · have he := ok_f he hb
      have he := ok_rq he
      refine And.intro he.1 ?_
      have he := he.2
      have he := ok_rq he
      refine And.intro he.1 ?_
      have he := he.2
      obtain ⟨r1_, hr, he⟩ := ok_bind he
      refine ⟨r1_, hr, ?_⟩
      refine And.intro (fun hb => ?_) (fun hb => ?_)
      · have he := ok_t he hb
        have he := ok_some he
        exact ⟨rfl, _, _, Leads.refl _ _, he⟩
      · have he := ok_f he hb
        have he := ok_rq he
        refine And.intro he.1 ?_
        have he := he.2
        obtain ⟨r2_, hr, he⟩ := ok_bind he
        refine ⟨r2_, hr, ?_⟩
        refine And.intro (fun hb => ?_) (fun hb => ?_)
        · have he := ok_t he hb
          have he := ok_some he
          exact ⟨rfl, _, _, Leads.refl _ _, he⟩
        · have he := ok_f he hb
          have he := ok_rq he
          refine And.intro he.1 ?_
          have he := he.2
          refine And.intro (fun hb => ?_) (fun hb => ?_)
          · have he := ok_t he hb
            have he := ok_some he
            exact ⟨rfl, _, _, Leads.refl _ _, he⟩
          · have he := ok_f he hb
            have he := ok_rq he
            refine And.intro he.1 ?_
            have he := he.2
            have he := ok_rq he
            refine And.intro he.1 ?_
            have he := he.2
            obtain ⟨r3_, hr, he⟩ := ok_bind he
            refine ⟨r3_, hr, ?_⟩
            refine And.intro (fun hb => ?_) (fun hb => ?_)
            · have he := ok_t he hb
              have he := ok_some he
              exact ⟨rfl, _, _, Leads.refl _ _, he⟩
            · have he := ok_f he hb
              have he := ok_rq he
              refine And.intro he.1 ?_
              have he := he.2
              have he := ok_some he
              exact ⟨(r3_, (i + (1:Int))), he, (leads_ren [] (l := [(0, .c (.imm (.pair (.int .i64) (.pair (.sl (.int .i64)) (.pair (.sl (.int .i64)) (.pair (.int .i64) (.sl (.sl (.int .i64))))))) a)), (1, .c (.int .i64 r3_)), (5, .c (.int .i64 (i + (1:Int))))]) (st' := []) rfl rfl trivial ⟨.inl rfl, rfl, rfl, trivial⟩)⟩
  · have he := ok_f he hb
    have he := ok_some he
    exact ⟨rfl, _, _, Leads.refl _ _, he⟩

noncomputable def c_laws_heldModel : Con := fun args st => match args, st with
  | [.agg [.imm (.int .i64) a_0, .imm (.pair (.int .i64) (.pair (.sl (.int .i64)) (.pair (.sl (.int .i64)) (.pair (.int .i64) (.sl (.sl (.int .i64))))))) a_1], .c (.int .i64 k_)], [] => .opt (Int) (laws_heldModel (a_0, a_1) k_) (fun r => .ret (.c (.int .i64 r)) [])
  | _, _ => .fail

noncomputable def C_laws_heldModel : Cfg := { y := tys, n := 18, h := 0, tab := [(37, c_laws_heldIntS), (112, c_laws_heldRuleS)], cut := [], hand := [], good := [], deep := [], sched := [] }

theorem t_laws_heldModel : TabOk Try.prog C_laws_heldModel := by
  refine tabOk_of ?_
  simp only [C_laws_heldModel, List.forall_mem_cons]
  exact ⟨k_laws_heldIntS, k_laws_heldRuleS, fun p h => by cases h⟩

theorem k_laws_heldModel : Entry Try.prog 48 c_laws_heldModel := by
  refine entry_by (C := C_laws_heldModel) mixed tys_ok t_laws_heldModel (fn := Try.f48) (c := bd Try.f48) (by kernel_rfl) (by kernel_rfl) (by kernel_rfl) (by kernel_rfl) ?_
  intro args st k he
  unfold c_laws_heldModel at he
  split at he
  rotate_left
  · exact he.elim
  rename_i a_0 a_1 k_
  have he : Ok (laws_heldModel (a_0, a_1) k_) (fun r => k (.c (.int .i64 r)) []) := he
  refine ⟨rfl, rfl, ?_⟩
  obtain ⟨r1_, hr, he⟩ := ok_bind he
  refine ⟨r1_, hr, ?_⟩
  refine And.intro (fun hb => ?_) (fun hb => ?_)
  · have he := ok_t he hb
    have he := ok_some he
    exact ⟨rfl, _, _, (leads_ren [] (l := [(4, .c (.int .i64 (-1:Int)))]) (st' := []) rfl rfl trivial ⟨rfl, trivial⟩), he⟩
  · have he := ok_f he hb
    obtain ⟨r2_, hr, he⟩ := ok_bind he
    refine ⟨r2_, hr, ?_⟩
    refine And.intro (fun hb => ?_) (fun hb => ?_)
    · have he := ok_t he hb
      have he := ok_some he
      exact ⟨rfl, _, _, (leads_ren [] (l := [(4, .c (.int .i64 (-1:Int)))]) (st' := []) rfl rfl trivial ⟨rfl, trivial⟩), he⟩
    · have he := ok_f he hb
      have he := ok_some he
      exact ⟨rfl, _, _, (leads_ren [] (l := [(4, .c (.int .i64 r2_))]) (st' := []) rfl rfl trivial ⟨rfl, trivial⟩), he⟩

noncomputable def c_laws_FnExactPermuteModel : Con := fun args st => match args, st with
  | [.agg [.imm (.int .i64) a0_0, .imm (.pair (.int .i64) (.pair (.sl (.int .i64)) (.pair (.sl (.int .i64)) (.pair (.int .i64) (.sl (.sl (.int .i64))))))) a0_1], .c (.imm (.int .i64) a1)], [] => .opt (Bool) (laws_FnExactPermuteModel (a0_0, a0_1) a1) (fun r => .ret (.c (.bool r)) [])
  | _, _ => .fail

noncomputable def C_laws_FnExactPermuteModel : Cfg := { y := tys, n := 117, h := 0, tab := [(15, c_laws_szModel), (18, c_laws_toModel), (21, c_laws_eqModel), (32, c_laws_toIntS), (34, c_laws_eqIntS), (35, c_laws_markModel), (36, c_laws_markIntS), (46, c_spec_PermuteModel), (47, c_impl_PermuteModel), (48, c_laws_heldModel)], cut := [15], hand := [(35, [0]), (36, [0])], good := [], deep := [], sched := [(13, (.alt 0 (.alt 1 (.alt 2 (.alt 3 (.first 4 .done) .stop) .stop) .stop) (.alt 1 (.alt 0 (.alt 2 (.alt 3 (.first 4 .done) .stop) .stop) (.alt 2 (.alt 0 (.alt 3 (.first 4 .done) .stop) .stop) .stop)) .stop)))] }

theorem t_laws_FnExactPermuteModel : TabOk Try.prog C_laws_FnExactPermuteModel := by
  refine tabOk_of ?_
  simp only [C_laws_FnExactPermuteModel, List.forall_mem_cons]
  exact ⟨k_laws_szModel, k_laws_toModel, k_laws_eqModel, k_laws_toIntS, k_laws_eqIntS, k_laws_markModel, k_laws_markIntS, k_spec_PermuteModel, k_impl_PermuteModel, k_laws_heldModel, fun p h => by cases h⟩

theorem k_laws_FnExactPermuteModel : Entry Try.prog 9 c_laws_FnExactPermuteModel := by
  refine entry_by (C := C_laws_FnExactPermuteModel) mixed tys_ok t_laws_FnExactPermuteModel (fn := Try.f9) (c := bd Try.f9) (by kernel_rfl) (by kernel_rfl) (by kernel_rfl) (by kernel_rfl) ?_
  intro args st k he
  unfold c_laws_FnExactPermuteModel at he
  split at he
  rotate_left
  · exact he.elim
  rename_i a0_0 a0_1 a1
  have he : Ok (laws_FnExactPermuteModel (a0_0, a0_1) a1) (fun r => k (.c (.bool r)) []) := he
  refine ⟨rfl, rfl, ?_⟩
  refine And.intro (fun hb => ?_) (fun hb => ?_)
  · have he := ok_t he hb
    have he := ok_some he
    exact ⟨rfl, _, _, (leads_ren [] (l := [(4, .c (.bool true))]) (st' := []) rfl rfl trivial ⟨.inr rfl, trivial⟩), he⟩
  · have he := ok_f he hb
    obtain ⟨r1_, hr, he⟩ := ok_bind he
    refine ⟨r1_, hr, ?_⟩
    refine And.intro (fun hb => ?_) (fun hb => ?_)
    · have he := ok_t he hb
      have he := ok_some he
      exact ⟨rfl, _, _, (leads_ren [] (l := [(4, .c (.bool true))]) (st' := []) rfl rfl trivial ⟨.inr rfl, trivial⟩), he⟩
    · have he := ok_f he hb
      obtain ⟨r2_, hr, he⟩ := ok_bind he
      refine ⟨r2_, hr, ?_⟩
      obtain ⟨r3_, hr, he⟩ := ok_bind he
      refine ⟨r3_, hr, ?_⟩
      obtain ⟨r4_, hr, he⟩ := ok_bind he
      refine ⟨r4_, hr, ?_⟩
      obtain ⟨r5_, hr, he⟩ := ok_bind he
      refine ⟨r5_, hr, ?_⟩
      obtain ⟨r6_, hr, he⟩ := ok_bind he
      refine ⟨r6_, hr, ?_⟩
      obtain ⟨r7_, hr, he⟩ := ok_bind he
      refine ⟨r7_, hr, ?_⟩
      obtain ⟨r8_, hr, he⟩ := ok_bind he
      refine ⟨r8_, hr, ?_⟩
      refine And.intro (fun hb => ?_) (fun hb => ?_)
      · have he := ok_f he hb
        refine And.intro (fun hb => ?_) (fun hb => ?_)
        · have he := ok_t he hb
          have he := ok_some he
          exact ⟨rfl, _, _, (leads_ren [] (l := [(4, .c (.bool false))]) (st' := []) rfl rfl trivial ⟨.inr rfl, trivial⟩), he⟩
        · have he := ok_f he hb
          refine seq_model mixed tys_ok t_laws_FnExactPermuteModel (S := Unit) (I := (fun _ => (envOf [(1, .c (.imm (.int .i64) a1)), (2, .c (.ptr 10000000 0)), (6, .c (.ptr 10000001 0)), (7, .c (.bool r4_.1)), (8, .c (.ptr 10000002 0)), (9, .c (.own 10000003 false)), (10, .c (.ptr 10000004 0)), (11, .c (.bool r7_.1))], [(10000000, .rc [.imm (.int .i64) (a0_0, a0_1).1, .imm (.pair (.int .i64) (.pair (.sl (.int .i64)) (.pair (.sl (.int .i64)) (.pair (.int .i64) (.sl (.sl (.int .i64))))))) (a0_0, a0_1).2]), (10000001, .rc [.own 10000005 false, .own 10000006 false]), (10000002, .rc [.own 10000007 false, .own 10000008 false]), (10000003, .sl 3 (.int .i64) r6_ .shallow), (10000004, .rc [.own 10000009 false, .own 10000010 false]), (10000005, .sl 3 (.int .i64) r4_.2.1 .shallow), (10000006, .sl 112 (.pair (.int .i64) (.pair (.sl (.int .i64)) (.pair (.sl (.int .i64)) (.pair (.int .i64) (.sl (.sl (.int .i64))))))) r4_.2.2 (.deep true .no)), (10000007, .sl 3 (.int .i64) r5_.1 .shallow), (10000008, .sl 112 (.pair (.int .i64) (.pair (.sl (.int .i64)) (.pair (.sl (.int .i64)) (.pair (.int .i64) (.sl (.sl (.int .i64))))))) r5_.2 (.deep true .no)), (10000009, .sl 3 (.int .i64) r7_.2.1 .shallow), (10000010, .sl 112 (.pair (.int .i64) (.pair (.sl (.int .i64)) (.pair (.sl (.int .i64)) (.pair (.int .i64) (.sl (.sl (.int .i64))))))) r7_.2.2 (.deep true .no))]))) (B := fun s => Ok (laws_FnExactPermuteModel_j1 (a0_0, a0_1) a1 r4_ r5_ r6_ r7_ s) (fun r => k (.c (.bool r)) [])) ?_ ?_
          · rintro ⟨⟩ he
            obtain ⟨r13_, hr, he⟩ := ok_bind he
            refine ⟨r13_, hr, ?_⟩
            obtain ⟨r14_, hr, he⟩ := ok_bind he
            refine ⟨r14_, hr, ?_⟩
            refine And.intro (fun hb => ?_) (fun hb => ?_)
            · have he := ok_t he hb
              have he := ok_some he
              exact ⟨rfl, _, _, (leads_ren [] (l := [(4, .c (.bool false))]) (st' := []) rfl rfl trivial ⟨.inr rfl, trivial⟩), he⟩
            · have he := ok_f he hb
              obtain ⟨r15_, hr, he⟩ := ok_bind he
              refine ⟨r15_, hr, ?_⟩
              obtain ⟨r16_, hr, he⟩ := ok_bind he
              refine ⟨r16_, hr, ?_⟩
              refine And.intro (fun hb => ?_) (fun hb => ?_)
              · have he := ok_f he hb
                obtain ⟨r17_, hr, he⟩ := ok_bind he
                refine ⟨r17_, hr, ?_⟩
                refine And.intro (fun hb => ?_) (fun hb => ?_)
                · have he := ok_f he hb
                  refine And.intro (fun hb => ?_) (fun hb => ?_)
                  · have he := ok_t he hb
                    have he := ok_some he
                    exact ⟨rfl, _, _, (leads_ren [] (l := [(4, .c (.bool false))]) (st' := []) rfl rfl trivial ⟨.inr rfl, trivial⟩), he⟩
                  · have he := ok_f he hb
                    obtain ⟨r18_, hr, he⟩ := ok_bind he
                    refine ⟨r18_, hr, ?_⟩
                    obtain ⟨r19_, hr, he⟩ := ok_bind he
                    refine ⟨r19_, hr, ?_⟩
                    refine And.intro (fun hb => ?_) (fun hb => ?_)
                    · have he := ok_t he hb
                      have he := ok_some he
                      exact ⟨rfl, _, _, (leads_ren [] (l := [(4, .c (.bool false))]) (st' := []) rfl rfl trivial ⟨.inr rfl, trivial⟩), he⟩
                    · have he := ok_f he hb
                      refine And.intro (fun hb => ?_) (fun hb => ?_)
                      · have he := ok_t he hb
                        have he := ok_some he
                        exact ⟨rfl, _, _, (leads_ren [] (l := [(4, .c (.bool false))]) (st' := []) rfl rfl trivial ⟨.inr rfl, trivial⟩), he⟩
                      · have he := ok_f he hb
                        obtain ⟨r20_, hr, he⟩ := ok_bind he
                        refine ⟨r20_, hr, ?_⟩
                        obtain ⟨r21_, hr, he⟩ := ok_bind he
                        refine ⟨r21_, hr, ?_⟩
                        obtain ⟨r22_, hr, he⟩ := ok_bind he
                        refine ⟨r22_, hr, ?_⟩
                        obtain ⟨r23_, hr, he⟩ := ok_bind he
                        refine ⟨r23_, hr, ?_⟩
                        refine And.intro (fun hb => ?_) (fun hb => ?_)
                        · have he := ok_f he hb
                          refine And.intro (fun hb => ?_) (fun hb => ?_)
                          · have he := ok_t he hb
                            have he := ok_some he
                            exact ⟨rfl, _, _, (leads_ren [] (l := [(4, .c (.bool false))]) (st' := []) rfl rfl trivial ⟨.inr rfl, trivial⟩), he⟩
                          · have he := ok_f he hb
                            obtain ⟨r24_, hr, he⟩ := ok_bind he
                            refine ⟨r24_, hr, ?_⟩
                            refine And.intro (fun hb => ?_) (fun hb => ?_)
                            · have he := ok_t he hb
                              have he := ok_some he
                              exact ⟨rfl, _, _, (leads_ren [] (l := [(4, .c (.bool false))]) (st' := []) rfl rfl trivial ⟨.inr rfl, trivial⟩), he⟩
                            · have he := ok_f he hb
                              refine And.intro (fun hb => ?_) (fun hb => ?_)
                              · have he := ok_t he hb
                                have he := ok_some he
                                exact ⟨rfl, _, _, (leads_ren [] (l := [(4, .c (.bool false))]) (st' := []) rfl rfl trivial ⟨.inr rfl, trivial⟩), he⟩
                              · have he := ok_f he hb
                                have he := ok_some he
                                exact ⟨rfl, _, _, (leads_ren [] (l := [(4, .c (.bool true))]) (st' := []) rfl rfl trivial ⟨.inr rfl, trivial⟩), he⟩
                        · have he := ok_t he hb
                          have he := ok_some he
                          exact ⟨rfl, _, _, (leads_ren [] (l := [(4, .c (.bool false))]) (st' := []) rfl rfl trivial ⟨.inr rfl, trivial⟩), he⟩
                · have he := ok_t he hb
                  have he := ok_some he
                  exact ⟨rfl, _, _, (leads_ren [] (l := [(4, .c (.bool false))]) (st' := []) rfl rfl trivial ⟨.inr rfl, trivial⟩), he⟩
              · have he := ok_t he hb
                have he := ok_some he
                exact ⟨rfl, _, _, (leads_ren [] (l := [(4, .c (.bool false))]) (st' := []) rfl rfl trivial ⟨.inr rfl, trivial⟩), he⟩
          · skip
            refine And.intro (by kernel_rfl) ?_
            obtain ⟨r11_, hq1, he⟩ := ok_bind he
            obtain ⟨r12_, hq2, he⟩ := ok_bind he
            refine And.intro ?_ (And.intro ?_ (trivial))
            · skip
              refine And.intro ?_ trivial
              refine And.intro ?_ trivial
              refine ⟨r11_, hq1, ?_⟩
              refine And.intro ?_ trivial
              refine ⟨r12_, hq2, ?_⟩
              refine And.intro (fun hb => ?_) (fun hb => ?_)
              · have he := ok_t he hb
                have he := ok_some he
                exact ⟨rfl, _, _, (leads_ren [] (l := [(4, .c (.bool false))]) (st' := []) rfl rfl trivial ⟨.inr rfl, trivial⟩), he⟩
              · have he := ok_f he hb
                exact ⟨(), he, (leads_ren [(10000000, 2), (10000001, 6), (10000002, 8), (10000003, 37900), (10000004, 10), (10000005, 31901), (10000006, 31902), (10000007, 35901), (10000008, 35902), (10000009, 41901), (10000010, 41902)] (l := [(1, .c (.imm (.int .i64) a1)), (2, .c (.ptr 10000000 0)), (6, .c (.ptr 10000001 0)), (7, .c (.bool r4_.1)), (8, .c (.ptr 10000002 0)), (9, .c (.own 10000003 false)), (10, .c (.ptr 10000004 0)), (11, .c (.bool r7_.1))]) (st' := [(10000000, .rc [.imm (.int .i64) (a0_0, a0_1).1, .imm (.pair (.int .i64) (.pair (.sl (.int .i64)) (.pair (.sl (.int .i64)) (.pair (.int .i64) (.sl (.sl (.int .i64))))))) (a0_0, a0_1).2]), (10000001, .rc [.own 10000005 false, .own 10000006 false]), (10000002, .rc [.own 10000007 false, .own 10000008 false]), (10000003, .sl 3 (.int .i64) r6_ .shallow), (10000004, .rc [.own 10000009 false, .own 10000010 false]), (10000005, .sl 3 (.int .i64) r4_.2.1 .shallow), (10000006, .sl 112 (.pair (.int .i64) (.pair (.sl (.int .i64)) (.pair (.sl (.int .i64)) (.pair (.int .i64) (.sl (.sl (.int .i64))))))) r4_.2.2 (.deep true .no)), (10000007, .sl 3 (.int .i64) r5_.1 .shallow), (10000008, .sl 112 (.pair (.int .i64) (.pair (.sl (.int .i64)) (.pair (.sl (.int .i64)) (.pair (.int .i64) (.sl (.sl (.int .i64))))))) r5_.2 (.deep true .no)), (10000009, .sl 3 (.int .i64) r7_.2.1 .shallow), (10000010, .sl 112 (.pair (.int .i64) (.pair (.sl (.int .i64)) (.pair (.sl (.int .i64)) (.pair (.int .i64) (.sl (.sl (.int .i64))))))) r7_.2.2 (.deep true .no))]) rfl rfl ⟨⟨.inl rfl, .inl rfl, trivial⟩, ⟨⟨⟨rfl, rfl⟩, trivial⟩, ⟨⟨rfl, rfl⟩, trivial⟩, trivial⟩, ⟨⟨⟨rfl, rfl⟩, trivial⟩, ⟨⟨rfl, rfl⟩, trivial⟩, trivial⟩, ⟨rfl, rfl⟩, ⟨⟨⟨rfl, rfl⟩, trivial⟩, ⟨⟨rfl, rfl⟩, trivial⟩, trivial⟩, ⟨rfl, rfl⟩, ⟨rfl, rfl⟩, ⟨rfl, rfl⟩, ⟨rfl, rfl⟩, ⟨rfl, rfl⟩, ⟨rfl, rfl⟩, trivial⟩ ⟨.inl rfl, ⟨⟨rfl, rfl⟩, rfl⟩, ⟨⟨rfl, rfl⟩, rfl⟩, .inl rfl, ⟨⟨rfl, rfl⟩, rfl⟩, ⟨⟨rfl, rfl⟩, trivial⟩, ⟨⟨rfl, rfl⟩, rfl⟩, .inl rfl, trivial⟩)⟩
            · skip
              refine And.intro ?_ (And.intro ?_ (trivial))
              · skip
                refine And.intro ?_ trivial
                refine ⟨r11_, hq1, ?_⟩
                refine And.intro ?_ trivial
                refine ⟨r12_, hq2, ?_⟩
                refine And.intro (fun hb => ?_) (fun hb => ?_)
                · have he := ok_t he hb
                  have he := ok_some he
                  exact ⟨rfl, _, _, (leads_ren [] (l := [(4, .c (.bool false))]) (st' := []) rfl rfl trivial ⟨.inr rfl, trivial⟩), he⟩
                · have he := ok_f he hb
                  exact ⟨(), he, (leads_ren [(10000000, 2), (10000001, 6), (10000002, 8), (10000003, 37900), (10000004, 10), (10000005, 31901), (10000006, 31902), (10000007, 35901), (10000008, 35902), (10000009, 41901), (10000010, 41902)] (l := [(1, .c (.imm (.int .i64) a1)), (2, .c (.ptr 10000000 0)), (6, .c (.ptr 10000001 0)), (7, .c (.bool r4_.1)), (8, .c (.ptr 10000002 0)), (9, .c (.own 10000003 false)), (10, .c (.ptr 10000004 0)), (11, .c (.bool r7_.1))]) (st' := [(10000000, .rc [.imm (.int .i64) (a0_0, a0_1).1, .imm (.pair (.int .i64) (.pair (.sl (.int .i64)) (.pair (.sl (.int .i64)) (.pair (.int .i64) (.sl (.sl (.int .i64))))))) (a0_0, a0_1).2]), (10000001, .rc [.own 10000005 false, .own 10000006 false]), (10000002, .rc [.own 10000007 false, .own 10000008 false]), (10000003, .sl 3 (.int .i64) r6_ .shallow), (10000004, .rc [.own 10000009 false, .own 10000010 false]), (10000005, .sl 3 (.int .i64) r4_.2.1 .shallow), (10000006, .sl 112 (.pair (.int .i64) (.pair (.sl (.int .i64)) (.pair (.sl (.int .i64)) (.pair (.int .i64) (.sl (.sl (.int .i64))))))) r4_.2.2 (.deep true .no)), (10000007, .sl 3 (.int .i64) r5_.1 .shallow), (10000008, .sl 112 (.pair (.int .i64) (.pair (.sl (.int .i64)) (.pair (.sl (.int .i64)) (.pair (.int .i64) (.sl (.sl (.int .i64))))))) r5_.2 (.deep true .no)), (10000009, .sl 3 (.int .i64) r7_.2.1 .shallow), (10000010, .sl 112 (.pair (.int .i64) (.pair (.sl (.int .i64)) (.pair (.sl (.int .i64)) (.pair (.int .i64) (.sl (.sl (.int .i64))))))) r7_.2.2 (.deep true .no))]) rfl rfl ⟨⟨.inl rfl, .inl rfl, trivial⟩, ⟨⟨⟨rfl, rfl⟩, trivial⟩, ⟨⟨rfl, rfl⟩, trivial⟩, trivial⟩, ⟨⟨⟨rfl, rfl⟩, trivial⟩, ⟨⟨rfl, rfl⟩, trivial⟩, trivial⟩, ⟨rfl, rfl⟩, ⟨⟨⟨rfl, rfl⟩, trivial⟩, ⟨⟨rfl, rfl⟩, trivial⟩, trivial⟩, ⟨rfl, rfl⟩, ⟨rfl, rfl⟩, ⟨rfl, rfl⟩, ⟨rfl, rfl⟩, ⟨rfl, rfl⟩, ⟨rfl, rfl⟩, trivial⟩ ⟨.inl rfl, ⟨⟨rfl, rfl⟩, rfl⟩, ⟨⟨rfl, rfl⟩, rfl⟩, .inl rfl, ⟨⟨rfl, rfl⟩, rfl⟩, ⟨⟨rfl, rfl⟩, trivial⟩, ⟨⟨rfl, rfl⟩, rfl⟩, .inl rfl, trivial⟩)⟩
              · skip
                refine ⟨r11_, hq1, ?_⟩
                refine And.intro ?_ trivial
                refine And.intro ?_ trivial
                refine ⟨r12_, hq2, ?_⟩
                refine And.intro (fun hb => ?_) (fun hb => ?_)
                · have he := ok_t he hb
                  have he := ok_some he
                  exact ⟨rfl, _, _, (leads_ren [] (l := [(4, .c (.bool false))]) (st' := []) rfl rfl trivial ⟨.inr rfl, trivial⟩), he⟩
                · have he := ok_f he hb
                  exact ⟨(), he, (leads_ren [(10000000, 2), (10000001, 6), (10000002, 8), (10000003, 37900), (10000004, 10), (10000005, 31901), (10000006, 31902), (10000007, 35901), (10000008, 35902), (10000009, 41901), (10000010, 41902)] (l := [(1, .c (.imm (.int .i64) a1)), (2, .c (.ptr 10000000 0)), (6, .c (.ptr 10000001 0)), (7, .c (.bool r4_.1)), (8, .c (.ptr 10000002 0)), (9, .c (.own 10000003 false)), (10, .c (.ptr 10000004 0)), (11, .c (.bool r7_.1))]) (st' := [(10000000, .rc [.imm (.int .i64) (a0_0, a0_1).1, .imm (.pair (.int .i64) (.pair (.sl (.int .i64)) (.pair (.sl (.int .i64)) (.pair (.int .i64) (.sl (.sl (.int .i64))))))) (a0_0, a0_1).2]), (10000001, .rc [.own 10000005 false, .own 10000006 false]), (10000002, .rc [.own 10000007 false, .own 10000008 false]), (10000003, .sl 3 (.int .i64) r6_ .shallow), (10000004, .rc [.own 10000009 false, .own 10000010 false]), (10000005, .sl 3 (.int .i64) r4_.2.1 .shallow), (10000006, .sl 112 (.pair (.int .i64) (.pair (.sl (.int .i64)) (.pair (.sl (.int .i64)) (.pair (.int .i64) (.sl (.sl (.int .i64))))))) r4_.2.2 (.deep true .no)), (10000007, .sl 3 (.int .i64) r5_.1 .shallow), (10000008, .sl 112 (.pair (.int .i64) (.pair (.sl (.int .i64)) (.pair (.sl (.int .i64)) (.pair (.int .i64) (.sl (.sl (.int .i64))))))) r5_.2 (.deep true .no)), (10000009, .sl 3 (.int .i64) r7_.2.1 .shallow), (10000010, .sl 112 (.pair (.int .i64) (.pair (.sl (.int .i64)) (.pair (.sl (.int .i64)) (.pair (.int .i64) (.sl (.sl (.int .i64))))))) r7_.2.2 (.deep true .no))]) rfl rfl ⟨⟨.inl rfl, .inl rfl, trivial⟩, ⟨⟨⟨rfl, rfl⟩, trivial⟩, ⟨⟨rfl, rfl⟩, trivial⟩, trivial⟩, ⟨⟨⟨rfl, rfl⟩, trivial⟩, ⟨⟨rfl, rfl⟩, trivial⟩, trivial⟩, ⟨rfl, rfl⟩, ⟨⟨⟨rfl, rfl⟩, trivial⟩, ⟨⟨rfl, rfl⟩, trivial⟩, trivial⟩, ⟨rfl, rfl⟩, ⟨rfl, rfl⟩, ⟨rfl, rfl⟩, ⟨rfl, rfl⟩, ⟨rfl, rfl⟩, ⟨rfl, rfl⟩, trivial⟩ ⟨.inl rfl, ⟨⟨rfl, rfl⟩, rfl⟩, ⟨⟨rfl, rfl⟩, rfl⟩, .inl rfl, ⟨⟨rfl, rfl⟩, rfl⟩, ⟨⟨rfl, rfl⟩, trivial⟩, ⟨⟨rfl, rfl⟩, rfl⟩, .inl rfl, trivial⟩)⟩
      · have he := ok_t he hb
        have he := ok_some he
        exact ⟨rfl, _, _, (leads_ren [] (l := [(4, .c (.bool false))]) (st' := []) rfl rfl trivial ⟨.inr rfl, trivial⟩), he⟩

end Go.AE.Y
