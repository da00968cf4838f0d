/-
  Walks: each function keeps the contract that its model gives. No conditions.
-/
import Derived.Test.YtpjbfmifmikloaaR3Tab
import Derived.Test.YtpjbfmifmikloaaR3W2
namespace Go.AE.Y
open Go Go.AE Go.Proofs
set_option linter.unusedVariables false
set_option maxHeartbeats 2000000
set_option maxRecDepth 100000

noncomputable def c_impl_DomainsValid : Con := fun args st => match args, st with
  | [.agg [.imm (.int .i64) m_0, .imm (.pair (.int .i64) (.pair (.sl (.int .i64)) (.pair (.sl (.int .i64)) (.pair (.int .i64) (.sl (.sl (.int .i64))))))) m_1], .c (.imm (.sl .bool) d)], [] => .opt (Bool) (impl_DomainsValid (m_0, m_1) d) (fun r => .ret (.c (.bool r)) [])
  | _, _ => .fail

noncomputable def C_impl_DomainsValid : Cfg := { y := tys, n := 35, h := 0, tab := [(100, c_impl_ModelValid)], cut := [], hand := [], good := [], deep := [], sched := [] }

theorem t_impl_DomainsValid : TabOk Try.prog C_impl_DomainsValid := by
  refine tabOk_of ?_
  simp only [C_impl_DomainsValid, List.forall_mem_cons]
  exact ⟨k_impl_ModelValid, fun p h => by cases h⟩

theorem k_impl_DomainsValid : Entry Try.prog 68 c_impl_DomainsValid := by
  refine entry_by (C := C_impl_DomainsValid) mixed tys_ok t_impl_DomainsValid (fn := Try.f68) (c := bd Try.f68) (by kernel_rfl) (by kernel_rfl) (by kernel_rfl) (by kernel_rfl) ?_
  intro args st k he
  unfold c_impl_DomainsValid at he
  split at he
  rotate_left
  · exact he.elim
  rename_i m_0 m_1 d
  have he : Ok (impl_DomainsValid (m_0, m_1) d) (fun r => k (.c (.bool r)) []) := he
  refine ⟨rfl, rfl, ?_⟩
  obtain ⟨r1_, hr, he⟩ := ok_bind he
  refine ⟨r1_, hr, ?_⟩
  refine And.intro (fun hb => ?_) (fun hb => ?_)
  · have he := ok_f he hb
    refine And.intro (fun hb => ?_) (fun hb => ?_)
    · have he := ok_t he hb
      have he := ok_some he
      exact ⟨rfl, _, _, (leads_ren [] (l := [(4, .c (.bool false))]) (st' := []) rfl rfl trivial ⟨.inr rfl, trivial⟩), he⟩
    · have he := ok_f he hb
      refine loop_model mixed tys_ok t_impl_DomainsValid (S := Int) (I := (fun i => (envOf [(1, .c (.imm (.sl .bool) d)), (19, .c (.imm (.int .i64) (m_0, m_1).1)), (20, .c (.int .i64 ((m_0, m_1).1.length:Int))), (21, .c (.int .i64 i))], []))) (f := impl_DomainsValid_l1 (m_0, m_1) d) (K := (fun r => k (.c (.bool r)) [])) he (leads_ren [] (l := [(1, .c (.imm (.sl .bool) d)), (19, .c (.imm (.int .i64) (m_0, m_1).1)), (20, .c (.int .i64 ((m_0, m_1).1.length:Int))), (21, .c (.int .i64 (0:Int)))]) (st' := []) rfl rfl trivial ⟨.inl rfl, .inl rfl, rfl, rfl, trivial⟩) ?_
      rintro i J1 he
      refine And.intro (fun hb => ?_) (fun hb => ?_)
      · have he := ok_t he hb
        have he := ok_rq he
        refine And.intro he.1 ?_
        have he := he.2
        have he := ok_rq he
        refine And.intro he.1 ?_
        have he := he.2
        have he := ok_rq he
        refine And.intro he.1 ?_
        have he := he.2
        refine And.intro (fun hb => ?_) (fun hb => ?_)
        · have he := ok_t he hb
          have he := ok_some he
          exact ⟨rfl, _, _, Leads.refl _ _, he⟩
        · have he := ok_f he hb
          have he := ok_rq he
          refine And.intro he.1 ?_
          have he := he.2
          have he := ok_some he
          exact ⟨(i + (1:Int)), he, (leads_ren [] (l := [(1, .c (.imm (.sl .bool) d)), (19, .c (.imm (.int .i64) (m_0, m_1).1)), (20, .c (.int .i64 ((m_0, m_1).1.length:Int))), (21, .c (.int .i64 (i + (1:Int))))]) (st' := []) rfl rfl trivial ⟨.inl rfl, .inl rfl, rfl, rfl, trivial⟩)⟩
      · have he := ok_f he hb
        have he := ok_some he
        exact ⟨rfl, _, _, Leads.refl _ _, he⟩
  · have he := ok_t he hb
    have he := ok_some he
    exact ⟨rfl, _, _, (leads_ren [] (l := [(4, .c (.bool false))]) (st' := []) rfl rfl trivial ⟨.inr rfl, trivial⟩), he⟩

noncomputable def c_impl_isRule : Con := fun args st => match args, st with
  | [.agg [.imm (.int .i64) m_0, .imm (.pair (.int .i64) (.pair (.sl (.int .i64)) (.pair (.sl (.int .i64)) (.pair (.int .i64) (.sl (.sl (.int .i64))))))) m_1], .c (.int .i64 rule)], [] => .opt (Bool) (impl_isRule (m_0, m_1) rule) (fun r => .ret (.c (.bool r)) [])
  | _, _ => .fail

noncomputable def C_impl_isRule : Cfg := { y := tys, n := 11, h := 0, tab := [(101, c_impl_within)], cut := [], hand := [], good := [], deep := [], sched := [] }

theorem t_impl_isRule : TabOk Try.prog C_impl_isRule := by
  refine tabOk_of ?_
  simp only [C_impl_isRule, List.forall_mem_cons]
  exact ⟨k_impl_within, fun p h => by cases h⟩

theorem k_impl_isRule : Entry Try.prog 124 c_impl_isRule := by
  refine entry_by (C := C_impl_isRule) mixed tys_ok t_impl_isRule (fn := Try.f124) (c := bd Try.f124) (by kernel_rfl) (by kernel_rfl) (by kernel_rfl) (by kernel_rfl) ?_
  intro args st k he
  unfold c_impl_isRule at he
  split at he
  rotate_left
  · exact he.elim
  rename_i m_0 m_1 rule
  have he : Ok (impl_isRule (m_0, m_1) rule) (fun r => k (.c (.bool r)) []) := he
  refine ⟨rfl, rfl, ?_⟩
  have he := ok_rq he
  refine And.intro he.1 ?_
  have he := he.2
  obtain ⟨r1_, hr, he⟩ := ok_bind he
  refine ⟨r1_, hr, ?_⟩
  have he := ok_some he
  exact ⟨rfl, _, _, (leads_ren [] (l := [(4, .c (.bool r1_))]) (st' := []) rfl rfl trivial ⟨.inl rfl, trivial⟩), he⟩

noncomputable def c_impl_MatchRule_1__RrrRs (n_ : Nat) : Con := fun args st => match args, st with
  | [.c (.ptr 0 0), .c (.ptr 1 0), .c (.ptr 2 0), .c (.ptr 3 0)], [(0, .rc [.own 4 false]), (1, .rc [.imm (.int .i64) o1]), (2, .rc [.imm (.sl .bool) o2]), (3, .rc [.fn 125 [0, 1, 2, 3]]), (4, .sl 3 (.int .i64) o4 .shallow)] => .opt (Bool × (List Int)) (impl_MatchRule_1__RrrRs n_ o1 o2 o4) (fun r => .ret (.c (.bool r.1)) [(0, .rc [.own 900 false]), (1, .rc [.imm (.int .i64) o1]), (2, .rc [.imm (.sl .bool) o2]), (3, .rc [.fn 125 [0, 1, 2, 3]]), (4, .dead), (900, .sl 3 (.int .i64) r.2 .shallow)])
  | _, _ => .fail

noncomputable def C_impl_MatchRule_1__RrrRs (n_ : Nat) : Cfg := { y := tys, n := 45, h := 5, tab := [(102, c_slices_Contains_int), (125, c_impl_MatchRule_1__RrrRs n_)], cut := [], hand := [], good := [], deep := [], sched := [] }

theorem t_impl_MatchRule_1__RrrRs (n_ : Nat) (ih : Entry Try.prog 125 (c_impl_MatchRule_1__RrrRs n_)) : TabOk Try.prog (C_impl_MatchRule_1__RrrRs n_) := by
  refine tabOk_of ?_
  simp only [C_impl_MatchRule_1__RrrRs, List.forall_mem_cons]
  exact ⟨k_slices_Contains_int, ih, fun p h => by cases h⟩

theorem k_impl_MatchRule_1__RrrRs_step (n_ : Nat) (ih : Entry Try.prog 125 (c_impl_MatchRule_1__RrrRs n_)) : Entry Try.prog 125 (c_impl_MatchRule_1__RrrRs (n_ + 1)) := by
  refine entry_by (C := (C_impl_MatchRule_1__RrrRs n_)) mixed tys_ok (t_impl_MatchRule_1__RrrRs n_ ih) (fn := Try.f125) (c := bd Try.f125) (by kernel_rfl) (by kernel_rfl) (by kernel_rfl) (by kernel_rfl) ?_
  intro args st k he
  unfold c_impl_MatchRule_1__RrrRs at he
  split at he
  rotate_left
  · exact he.elim
  rename_i o1 o2 o4
  have he : Ok (impl_MatchRule_1__RrrRs_rec (impl_MatchRule_1__RrrRs n_) o1 o2 o4) (fun r => k (.c (.bool r.1)) [(0, .rc [.own 900 false]), (1, .rc [.imm (.int .i64) o1]), (2, .rc [.imm (.sl .bool) o2]), (3, .rc [.fn 125 [0, 1, 2, 3]]), (4, .dead), (900, .sl 3 (.int .i64) r.2 .shallow)]) := he
  refine ⟨rfl, rfl, ?_⟩
  refine And.intro (fun hb => ?_) (fun hb => ?_)
  · have he := ok_t he hb
    have he := ok_some he
    exact ⟨rfl, _, _, (leads_ren [(900, 4)] (l := [(4, .c (.bool true))]) (st' := [(0, .rc [.own 900 false]), (1, .rc [.imm (.int .i64) o1]), (2, .rc [.imm (.sl .bool) o2]), (3, .rc [.fn 125 [0, 1, 2, 3]]), (4, .dead), (900, .sl 3 (.int .i64) o4 .shallow)]) rfl rfl ⟨⟨⟨⟨rfl, rfl⟩, trivial⟩, trivial⟩, ⟨.inl rfl, trivial⟩, ⟨.inl rfl, trivial⟩, ⟨⟨rfl, ⟨⟨rfl, rfl⟩, ⟨⟨rfl, rfl⟩, ⟨⟨rfl, rfl⟩, ⟨⟨rfl, rfl⟩, trivial⟩⟩⟩⟩⟩, trivial⟩, trivial, ⟨rfl, rfl⟩, trivial⟩ ⟨.inr rfl, trivial⟩), he⟩
  · have he := ok_f he hb
    refine And.intro (by kernel_rfl) ?_
    have he := ok_rq he
    refine And.intro he.1 ?_
    have he := he.2
    have he := ok_rq he
    refine And.intro he.1 ?_
    have he := he.2
    refine loop_model mixed tys_ok (t_impl_MatchRule_1__RrrRs n_ ih) (S := Int × (List Int)) (I := (fun (i, i1) => (envOf [(0, .c (.ptr 0 0)), (3, .c (.ptr 3 0)), (19, .c (.imm .bool (o2.getD (o1.getD (o4.length:Int).toNat 0).toNat []))), (20, .c (.int .i64 ((o2.getD (o1.getD (o4.length:Int).toNat 0).toNat []).length:Int))), (21, .c (.int .i64 i))], [(0, .rc [.own 10000000 false]), (1, .rc [.imm (.int .i64) o1]), (2, .rc [.imm (.sl .bool) o2]), (3, .rc [.fn 125 [0, 1, 2, 3]]), (4, .dead), (10000000, .sl 3 (.int .i64) i1 .shallow)]))) (f := impl_MatchRule_1__RrrRs_l1 o1 o2 o4 (impl_MatchRule_1__RrrRs n_)) (K := (fun r => k (.c (.bool r.1)) [(0, .rc [.own 900 false]), (1, .rc [.imm (.int .i64) o1]), (2, .rc [.imm (.sl .bool) o2]), (3, .rc [.fn 125 [0, 1, 2, 3]]), (4, .dead), (900, .sl 3 (.int .i64) r.2 .shallow)])) he (leads_ren [(10000000, 4)] (l := [(0, .c (.ptr 0 0)), (3, .c (.ptr 3 0)), (19, .c (.imm .bool (o2.getD (o1.getD (o4.length:Int).toNat 0).toNat []))), (20, .c (.int .i64 ((o2.getD (o1.getD (o4.length:Int).toNat 0).toNat []).length:Int))), (21, .c (.int .i64 (0:Int)))]) (st' := [(0, .rc [.own 10000000 false]), (1, .rc [.imm (.int .i64) o1]), (2, .rc [.imm (.sl .bool) o2]), (3, .rc [.fn 125 [0, 1, 2, 3]]), (4, .dead), (10000000, .sl 3 (.int .i64) o4 .shallow)]) rfl rfl ⟨⟨⟨⟨rfl, rfl⟩, trivial⟩, trivial⟩, ⟨.inl rfl, trivial⟩, ⟨.inl rfl, trivial⟩, ⟨⟨rfl, ⟨⟨rfl, rfl⟩, ⟨⟨rfl, rfl⟩, ⟨⟨rfl, rfl⟩, ⟨⟨rfl, rfl⟩, trivial⟩⟩⟩⟩⟩, trivial⟩, trivial, ⟨rfl, rfl⟩, trivial⟩ ⟨⟨⟨rfl, rfl⟩, rfl⟩, ⟨⟨rfl, rfl⟩, rfl⟩, .inl rfl, rfl, rfl, trivial⟩) ?_
    rintro ⟨i, i1⟩ J1 he
    refine And.intro (fun hb => ?_) (fun hb => ?_)
    · have he := ok_t he hb
      have he := ok_rq he
      refine And.intro he.1 ?_
      have he := he.2
      refine And.intro (fun hb => ?_) (fun hb => ?_)
      · have he := ok_f he hb
        obtain ⟨r3_, hr, he⟩ := ok_bind he
        refine ⟨r3_, hr, ?_⟩
        refine And.intro (fun hb => ?_) (fun hb => ?_)
        · have he := ok_t he hb
          have he := ok_rq he
          refine And.intro he.1 ?_
          have he := he.2
          have he := ok_some he
          exact ⟨((i + (1:Int)), i1), he, (leads_ren [] (l := [(0, .c (.ptr 0 0)), (3, .c (.ptr 3 0)), (19, .c (.imm .bool (o2.getD (o1.getD (o4.length:Int).toNat 0).toNat []))), (20, .c (.int .i64 ((o2.getD (o1.getD (o4.length:Int).toNat 0).toNat []).length:Int))), (21, .c (.int .i64 (i + (1:Int))))]) (st' := [(0, .rc [.own 10000000 false]), (1, .rc [.imm (.int .i64) o1]), (2, .rc [.imm (.sl .bool) o2]), (3, .rc [.fn 125 [0, 1, 2, 3]]), (4, .dead), (10000000, .sl 3 (.int .i64) i1 .shallow)]) rfl rfl ⟨⟨⟨⟨rfl, rfl⟩, trivial⟩, trivial⟩, ⟨.inl rfl, trivial⟩, ⟨.inl rfl, trivial⟩, ⟨⟨rfl, ⟨⟨rfl, rfl⟩, ⟨⟨rfl, rfl⟩, ⟨⟨rfl, rfl⟩, ⟨⟨rfl, rfl⟩, trivial⟩⟩⟩⟩⟩, trivial⟩, trivial, ⟨rfl, rfl⟩, trivial⟩ ⟨⟨⟨rfl, rfl⟩, rfl⟩, ⟨⟨rfl, rfl⟩, rfl⟩, .inl rfl, rfl, rfl, trivial⟩)⟩
        · have he := ok_f he hb
          have he := ok_rq he
          refine And.intro he.1 ?_
          have he := he.2
          obtain ⟨r4_, hr, he⟩ := ok_bind he
          refine ⟨r4_, hr, ?_⟩
          refine And.intro (fun hb => ?_) (fun hb => ?_)
          · have he := ok_t he hb
            have he := ok_some he
            exact ⟨rfl, _, _, (leads_ren [(900, 39900)] (l := [(4, .c (.bool true))]) (st' := [(0, .rc [.own 900 false]), (1, .rc [.imm (.int .i64) o1]), (2, .rc [.imm (.sl .bool) o2]), (3, .rc [.fn 125 [0, 1, 2, 3]]), (4, .dead), (900, .sl 3 (.int .i64) r4_.2 .shallow)]) rfl rfl ⟨⟨⟨⟨rfl, rfl⟩, trivial⟩, trivial⟩, ⟨.inl rfl, trivial⟩, ⟨.inl rfl, trivial⟩, ⟨⟨rfl, ⟨⟨rfl, rfl⟩, ⟨⟨rfl, rfl⟩, ⟨⟨rfl, rfl⟩, ⟨⟨rfl, rfl⟩, trivial⟩⟩⟩⟩⟩, trivial⟩, trivial, ⟨rfl, rfl⟩, trivial⟩ ⟨.inr rfl, trivial⟩), he⟩
          · have he := ok_f he hb
            have he := ok_rq he
            refine And.intro he.1 ?_
            have he := he.2
            have he := ok_rq he
            refine And.intro he.1 ?_
            have he := he.2
            have he := ok_rq he
            refine And.intro he.1 ?_
            have he := he.2
            have he := ok_some he
            exact ⟨((i + (1:Int)), (r4_.2.take ((r4_.2.length:Int) - (1:Int)).toNat)), he, (leads_ren [(10000000, 43)] (l := [(0, .c (.ptr 0 0)), (3, .c (.ptr 3 0)), (19, .c (.imm .bool (o2.getD (o1.getD (o4.length:Int).toNat 0).toNat []))), (20, .c (.int .i64 ((o2.getD (o1.getD (o4.length:Int).toNat 0).toNat []).length:Int))), (21, .c (.int .i64 (i + (1:Int))))]) (st' := [(0, .rc [.own 10000000 false]), (1, .rc [.imm (.int .i64) o1]), (2, .rc [.imm (.sl .bool) o2]), (3, .rc [.fn 125 [0, 1, 2, 3]]), (4, .dead), (10000000, .sl 3 (.int .i64) (r4_.2.take ((r4_.2.length:Int) - (1:Int)).toNat) .shallow)]) rfl rfl ⟨⟨⟨⟨rfl, rfl⟩, trivial⟩, trivial⟩, ⟨.inl rfl, trivial⟩, ⟨.inl rfl, trivial⟩, ⟨⟨rfl, ⟨⟨rfl, rfl⟩, ⟨⟨rfl, rfl⟩, ⟨⟨rfl, rfl⟩, ⟨⟨rfl, rfl⟩, trivial⟩⟩⟩⟩⟩, trivial⟩, trivial, ⟨rfl, rfl⟩, trivial⟩ ⟨⟨⟨rfl, rfl⟩, rfl⟩, ⟨⟨rfl, rfl⟩, rfl⟩, .inl rfl, rfl, rfl, trivial⟩)⟩
      · have he := ok_t he hb
        have he := ok_rq he
        refine And.intro he.1 ?_
        have he := he.2
        have he := ok_some he
        exact ⟨((i + (1:Int)), i1), he, (leads_ren [] (l := [(0, .c (.ptr 0 0)), (3, .c (.ptr 3 0)), (19, .c (.imm .bool (o2.getD (o1.getD (o4.length:Int).toNat 0).toNat []))), (20, .c (.int .i64 ((o2.getD (o1.getD (o4.length:Int).toNat 0).toNat []).length:Int))), (21, .c (.int .i64 (i + (1:Int))))]) (st' := [(0, .rc [.own 10000000 false]), (1, .rc [.imm (.int .i64) o1]), (2, .rc [.imm (.sl .bool) o2]), (3, .rc [.fn 125 [0, 1, 2, 3]]), (4, .dead), (10000000, .sl 3 (.int .i64) i1 .shallow)]) rfl rfl ⟨⟨⟨⟨rfl, rfl⟩, trivial⟩, trivial⟩, ⟨.inl rfl, trivial⟩, ⟨.inl rfl, trivial⟩, ⟨⟨rfl, ⟨⟨rfl, rfl⟩, ⟨⟨rfl, rfl⟩, ⟨⟨rfl, rfl⟩, ⟨⟨rfl, rfl⟩, trivial⟩⟩⟩⟩⟩, trivial⟩, trivial, ⟨rfl, rfl⟩, trivial⟩ ⟨⟨⟨rfl, rfl⟩, rfl⟩, ⟨⟨rfl, rfl⟩, rfl⟩, .inl rfl, rfl, rfl, trivial⟩)⟩
    · have he := ok_f he hb
      have he := ok_some he
      exact ⟨rfl, _, _, (leads_ren [(900, 10000000)] (l := [(4, .c (.bool false))]) (st' := [(0, .rc [.own 900 false]), (1, .rc [.imm (.int .i64) o1]), (2, .rc [.imm (.sl .bool) o2]), (3, .rc [.fn 125 [0, 1, 2, 3]]), (4, .dead), (900, .sl 3 (.int .i64) i1 .shallow)]) rfl rfl ⟨⟨⟨⟨rfl, rfl⟩, trivial⟩, trivial⟩, ⟨.inl rfl, trivial⟩, ⟨.inl rfl, trivial⟩, ⟨⟨rfl, ⟨⟨rfl, rfl⟩, ⟨⟨rfl, rfl⟩, ⟨⟨rfl, rfl⟩, ⟨⟨rfl, rfl⟩, trivial⟩⟩⟩⟩⟩, trivial⟩, trivial, ⟨rfl, rfl⟩, trivial⟩ ⟨.inr rfl, trivial⟩), he⟩

theorem k_impl_MatchRule_1__RrrRs : ∀ n_, Entry Try.prog 125 (c_impl_MatchRule_1__RrrRs n_)
  | 0 => by
    refine entry_by (C := { y := tys, n := 45, h := 5, tab := [], cut := [], hand := [], good := [], deep := [], sched := [] }) mixed tys_ok (tabOk_of (fun p h => by cases h)) (fn := Try.f125) (c := bd Try.f125) (by kernel_rfl) (by kernel_rfl) (by kernel_rfl) (by kernel_rfl) ?_
    intro args st k he
    unfold c_impl_MatchRule_1__RrrRs at he
    split at he
    · obtain ⟨x, hx, _⟩ := he
      cases hx
    · exact he.elim
  | n_ + 1 => k_impl_MatchRule_1__RrrRs_step n_ (k_impl_MatchRule_1__RrrRs n_)

noncomputable def c_impl_MatchRule_1__R0rrR : Con := fun args st => match args, st with
  | [.c (.ptr 0 0), .c (.ptr 1 0), .c (.ptr 2 0), .c (.ptr 3 0)], [(0, .rc [.nil]), (1, .rc [.imm (.int .i64) o1]), (2, .rc [.imm (.sl .bool) o2]), (3, .rc [.fn 125 [0, 1, 2, 3]])] => .opt (Bool × (List Int)) (impl_MatchRule_1__R0rrR o1 o2) (fun r => .ret (.c (.bool r.1)) [(0, .rc [.own 900 false]), (1, .rc [.imm (.int .i64) o1]), (2, .rc [.imm (.sl .bool) o2]), (3, .rc [.fn 125 [0, 1, 2, 3]]), (900, .sl 3 (.int .i64) r.2 .shallow)])
  | _, _ => .fail

noncomputable def C_impl_MatchRule_1__R0rrR : Cfg := { y := tys, n := 45, h := 4, tab := [(102, c_slices_Contains_int), (125, (c_impl_MatchRule_1__RrrRs 64))], cut := [], hand := [], good := [], deep := [], sched := [] }

theorem t_impl_MatchRule_1__R0rrR : TabOk Try.prog C_impl_MatchRule_1__R0rrR := by
  refine tabOk_of ?_
  simp only [C_impl_MatchRule_1__R0rrR, List.forall_mem_cons]
  exact ⟨k_slices_Contains_int, (k_impl_MatchRule_1__RrrRs 64), fun p h => by cases h⟩

theorem k_impl_MatchRule_1__R0rrR : Entry Try.prog 125 c_impl_MatchRule_1__R0rrR := by
  refine entry_by (C := C_impl_MatchRule_1__R0rrR) mixed tys_ok t_impl_MatchRule_1__R0rrR (fn := Try.f125) (c := bd Try.f125) (by kernel_rfl) (by kernel_rfl) (by kernel_rfl) (by kernel_rfl) ?_
  intro args st k he
  unfold c_impl_MatchRule_1__R0rrR at he
  split at he
  rotate_left
  · exact he.elim
  rename_i o1 o2
  have he : Ok (impl_MatchRule_1__R0rrR o1 o2) (fun r => k (.c (.bool r.1)) [(0, .rc [.own 900 false]), (1, .rc [.imm (.int .i64) o1]), (2, .rc [.imm (.sl .bool) o2]), (3, .rc [.fn 125 [0, 1, 2, 3]]), (900, .sl 3 (.int .i64) r.2 .shallow)]) := he
  refine ⟨rfl, rfl, ?_⟩
  refine And.intro (fun hb => ?_) (fun hb => ?_)
  · have he := ok_t he hb
    have he := ok_some he
    exact ⟨rfl, _, _, (leads_ren [] (l := [(4, .c (.bool true))]) (st' := [(0, .rc [.own 900 false]), (1, .rc [.imm (.int .i64) o1]), (2, .rc [.imm (.sl .bool) o2]), (3, .rc [.fn 125 [0, 1, 2, 3]]), (900, .sl 3 (.int .i64) ([] : List Int) .shallow)]) rfl rfl ⟨⟨⟨rfl, trivial⟩, trivial⟩, ⟨.inl rfl, trivial⟩, ⟨.inl rfl, trivial⟩, ⟨⟨rfl, ⟨⟨rfl, rfl⟩, ⟨⟨rfl, rfl⟩, ⟨⟨rfl, rfl⟩, ⟨⟨rfl, rfl⟩, trivial⟩⟩⟩⟩⟩, trivial⟩, trivial, trivial⟩ ⟨.inr rfl, trivial⟩), he⟩
  · have he := ok_f he hb
    refine And.intro (by kernel_rfl) ?_
    have he := ok_rq he
    refine And.intro he.1 ?_
    have he := he.2
    have he := ok_rq he
    refine And.intro he.1 ?_
    have he := he.2
    refine loop_model mixed tys_ok t_impl_MatchRule_1__R0rrR (S := Int × (List Int)) (I := (fun (i, i1) => (envOf [(0, .c (.ptr 0 0)), (3, .c (.ptr 3 0)), (19, .c (.imm .bool (o2.getD (o1.getD (0:Int).toNat 0).toNat []))), (20, .c (.int .i64 ((o2.getD (o1.getD (0:Int).toNat 0).toNat []).length:Int))), (21, .c (.int .i64 i))], [(0, .rc [.own 10000000 false]), (1, .rc [.imm (.int .i64) o1]), (2, .rc [.imm (.sl .bool) o2]), (3, .rc [.fn 125 [0, 1, 2, 3]]), (10000000, .sl 3 (.int .i64) i1 .shallow)]))) (f := impl_MatchRule_1__R0rrR_l1 o1 o2) (K := (fun r => k (.c (.bool r.1)) [(0, .rc [.own 900 false]), (1, .rc [.imm (.int .i64) o1]), (2, .rc [.imm (.sl .bool) o2]), (3, .rc [.fn 125 [0, 1, 2, 3]]), (900, .sl 3 (.int .i64) r.2 .shallow)])) he (leads_ren [] (l := [(0, .c (.ptr 0 0)), (3, .c (.ptr 3 0)), (19, .c (.imm .bool (o2.getD (o1.getD (0:Int).toNat 0).toNat []))), (20, .c (.int .i64 ((o2.getD (o1.getD (0:Int).toNat 0).toNat []).length:Int))), (21, .c (.int .i64 (0:Int)))]) (st' := [(0, .rc [.own 10000000 false]), (1, .rc [.imm (.int .i64) o1]), (2, .rc [.imm (.sl .bool) o2]), (3, .rc [.fn 125 [0, 1, 2, 3]]), (10000000, .sl 3 (.int .i64) ([] : List Int) .shallow)]) rfl rfl ⟨⟨⟨rfl, trivial⟩, trivial⟩, ⟨.inl rfl, trivial⟩, ⟨.inl rfl, trivial⟩, ⟨⟨rfl, ⟨⟨rfl, rfl⟩, ⟨⟨rfl, rfl⟩, ⟨⟨rfl, rfl⟩, ⟨⟨rfl, rfl⟩, trivial⟩⟩⟩⟩⟩, trivial⟩, trivial, trivial⟩ ⟨⟨⟨rfl, rfl⟩, rfl⟩, ⟨⟨rfl, rfl⟩, rfl⟩, .inl rfl, rfl, rfl, trivial⟩) ?_
    rintro ⟨i, i1⟩ J1 he
    refine And.intro (fun hb => ?_) (fun hb => ?_)
    · have he := ok_t he hb
      have he := ok_rq he
      refine And.intro he.1 ?_
      have he := he.2
      refine And.intro (fun hb => ?_) (fun hb => ?_)
      · have he := ok_f he hb
        obtain ⟨r3_, hr, he⟩ := ok_bind he
        refine ⟨r3_, hr, ?_⟩
        refine And.intro (fun hb => ?_) (fun hb => ?_)
        · have he := ok_t he hb
          have he := ok_rq he
          refine And.intro he.1 ?_
          have he := he.2
          have he := ok_some he
          exact ⟨((i + (1:Int)), i1), he, (leads_ren [] (l := [(0, .c (.ptr 0 0)), (3, .c (.ptr 3 0)), (19, .c (.imm .bool (o2.getD (o1.getD (0:Int).toNat 0).toNat []))), (20, .c (.int .i64 ((o2.getD (o1.getD (0:Int).toNat 0).toNat []).length:Int))), (21, .c (.int .i64 (i + (1:Int))))]) (st' := [(0, .rc [.own 10000000 false]), (1, .rc [.imm (.int .i64) o1]), (2, .rc [.imm (.sl .bool) o2]), (3, .rc [.fn 125 [0, 1, 2, 3]]), (10000000, .sl 3 (.int .i64) i1 .shallow)]) rfl rfl ⟨⟨⟨⟨rfl, rfl⟩, trivial⟩, trivial⟩, ⟨.inl rfl, trivial⟩, ⟨.inl rfl, trivial⟩, ⟨⟨rfl, ⟨⟨rfl, rfl⟩, ⟨⟨rfl, rfl⟩, ⟨⟨rfl, rfl⟩, ⟨⟨rfl, rfl⟩, trivial⟩⟩⟩⟩⟩, trivial⟩, ⟨rfl, rfl⟩, trivial⟩ ⟨⟨⟨rfl, rfl⟩, rfl⟩, ⟨⟨rfl, rfl⟩, rfl⟩, .inl rfl, rfl, rfl, trivial⟩)⟩
        · have he := ok_f he hb
          have he := ok_rq he
          refine And.intro he.1 ?_
          have he := he.2
          obtain ⟨r4_, hr, he⟩ := ok_bind he
          refine ⟨r4_, hr, ?_⟩
          refine And.intro (fun hb => ?_) (fun hb => ?_)
          · have he := ok_t he hb
            have he := ok_some he
            exact ⟨rfl, _, _, (leads_ren [(900, 39900)] (l := [(4, .c (.bool true))]) (st' := [(0, .rc [.own 900 false]), (1, .rc [.imm (.int .i64) o1]), (2, .rc [.imm (.sl .bool) o2]), (3, .rc [.fn 125 [0, 1, 2, 3]]), (900, .sl 3 (.int .i64) r4_.2 .shallow)]) rfl rfl ⟨⟨⟨⟨rfl, rfl⟩, trivial⟩, trivial⟩, ⟨.inl rfl, trivial⟩, ⟨.inl rfl, trivial⟩, ⟨⟨rfl, ⟨⟨rfl, rfl⟩, ⟨⟨rfl, rfl⟩, ⟨⟨rfl, rfl⟩, ⟨⟨rfl, rfl⟩, trivial⟩⟩⟩⟩⟩, trivial⟩, ⟨rfl, rfl⟩, trivial⟩ ⟨.inr rfl, trivial⟩), he⟩
          · have he := ok_f he hb
            have he := ok_rq he
            refine And.intro he.1 ?_
            have he := he.2
            have he := ok_rq he
            refine And.intro he.1 ?_
            have he := he.2
            have he := ok_rq he
            refine And.intro he.1 ?_
            have he := he.2
            have he := ok_some he
            exact ⟨((i + (1:Int)), (r4_.2.take ((r4_.2.length:Int) - (1:Int)).toNat)), he, (leads_ren [(10000000, 43)] (l := [(0, .c (.ptr 0 0)), (3, .c (.ptr 3 0)), (19, .c (.imm .bool (o2.getD (o1.getD (0:Int).toNat 0).toNat []))), (20, .c (.int .i64 ((o2.getD (o1.getD (0:Int).toNat 0).toNat []).length:Int))), (21, .c (.int .i64 (i + (1:Int))))]) (st' := [(0, .rc [.own 10000000 false]), (1, .rc [.imm (.int .i64) o1]), (2, .rc [.imm (.sl .bool) o2]), (3, .rc [.fn 125 [0, 1, 2, 3]]), (10000000, .sl 3 (.int .i64) (r4_.2.take ((r4_.2.length:Int) - (1:Int)).toNat) .shallow)]) rfl rfl ⟨⟨⟨⟨rfl, rfl⟩, trivial⟩, trivial⟩, ⟨.inl rfl, trivial⟩, ⟨.inl rfl, trivial⟩, ⟨⟨rfl, ⟨⟨rfl, rfl⟩, ⟨⟨rfl, rfl⟩, ⟨⟨rfl, rfl⟩, ⟨⟨rfl, rfl⟩, trivial⟩⟩⟩⟩⟩, trivial⟩, ⟨rfl, rfl⟩, trivial⟩ ⟨⟨⟨rfl, rfl⟩, rfl⟩, ⟨⟨rfl, rfl⟩, rfl⟩, .inl rfl, rfl, rfl, trivial⟩)⟩
      · have he := ok_t he hb
        have he := ok_rq he
        refine And.intro he.1 ?_
        have he := he.2
        have he := ok_some he
        exact ⟨((i + (1:Int)), i1), he, (leads_ren [] (l := [(0, .c (.ptr 0 0)), (3, .c (.ptr 3 0)), (19, .c (.imm .bool (o2.getD (o1.getD (0:Int).toNat 0).toNat []))), (20, .c (.int .i64 ((o2.getD (o1.getD (0:Int).toNat 0).toNat []).length:Int))), (21, .c (.int .i64 (i + (1:Int))))]) (st' := [(0, .rc [.own 10000000 false]), (1, .rc [.imm (.int .i64) o1]), (2, .rc [.imm (.sl .bool) o2]), (3, .rc [.fn 125 [0, 1, 2, 3]]), (10000000, .sl 3 (.int .i64) i1 .shallow)]) rfl rfl ⟨⟨⟨⟨rfl, rfl⟩, trivial⟩, trivial⟩, ⟨.inl rfl, trivial⟩, ⟨.inl rfl, trivial⟩, ⟨⟨rfl, ⟨⟨rfl, rfl⟩, ⟨⟨rfl, rfl⟩, ⟨⟨rfl, rfl⟩, ⟨⟨rfl, rfl⟩, trivial⟩⟩⟩⟩⟩, trivial⟩, ⟨rfl, rfl⟩, trivial⟩ ⟨⟨⟨rfl, rfl⟩, rfl⟩, ⟨⟨rfl, rfl⟩, rfl⟩, .inl rfl, rfl, rfl, trivial⟩)⟩
    · have he := ok_f he hb
      have he := ok_some he
      exact ⟨rfl, _, _, (leads_ren [(900, 10000000)] (l := [(4, .c (.bool false))]) (st' := [(0, .rc [.own 900 false]), (1, .rc [.imm (.int .i64) o1]), (2, .rc [.imm (.sl .bool) o2]), (3, .rc [.fn 125 [0, 1, 2, 3]]), (900, .sl 3 (.int .i64) i1 .shallow)]) rfl rfl ⟨⟨⟨⟨rfl, rfl⟩, trivial⟩, trivial⟩, ⟨.inl rfl, trivial⟩, ⟨.inl rfl, trivial⟩, ⟨⟨rfl, ⟨⟨rfl, rfl⟩, ⟨⟨rfl, rfl⟩, ⟨⟨rfl, rfl⟩, ⟨⟨rfl, rfl⟩, trivial⟩⟩⟩⟩⟩, trivial⟩, ⟨rfl, rfl⟩, trivial⟩ ⟨.inr rfl, trivial⟩), he⟩

noncomputable def c_impl_MatchRule : Con := fun args st => match args, st with
  | [.agg [.imm (.int .i64) m_0, .imm (.pair (.int .i64) (.pair (.sl (.int .i64)) (.pair (.sl (.int .i64)) (.pair (.int .i64) (.sl (.sl (.int .i64))))))) m_1], .c (.int .i64 rule), .c (.imm (.sl .bool) d)], [] => .opt (Bool × (List Int)) (impl_MatchRule (m_0, m_1) rule d) (fun r => .ret (.tup [.c (.own 900 false), .c (.bool r.1)]) [(900, .sl 3 (.int .i64) r.2 .shallow)])
  | _, _ => .fail

noncomputable def C_impl_MatchRule : Cfg := { y := tys, n := 32, h := 0, tab := [(68, c_impl_DomainsValid), (124, c_impl_isRule), (125, c_impl_MatchRule_1__R0rrR)], cut := [], hand := [], good := [], deep := [], sched := [] }

theorem t_impl_MatchRule : TabOk Try.prog C_impl_MatchRule := by
  refine tabOk_of ?_
  simp only [C_impl_MatchRule, List.forall_mem_cons]
  exact ⟨k_impl_DomainsValid, k_impl_isRule, k_impl_MatchRule_1__R0rrR, fun p h => by cases h⟩

theorem k_impl_MatchRule : Entry Try.prog 53 c_impl_MatchRule := by
  refine entry_by (C := C_impl_MatchRule) mixed tys_ok t_impl_MatchRule (fn := Try.f53) (c := bd Try.f53) (by kernel_rfl) (by kernel_rfl) (by kernel_rfl) (by kernel_rfl) ?_
  intro args st k he
  unfold c_impl_MatchRule at he
  split at he
  rotate_left
  · exact he.elim
  rename_i m_0 m_1 rule d
  have he : Ok (impl_MatchRule (m_0, m_1) rule d) (fun r => k (.tup [.c (.own 900 false), .c (.bool r.1)]) [(900, .sl 3 (.int .i64) r.2 .shallow)]) := he
  refine ⟨rfl, rfl, ?_⟩
  obtain ⟨r1_, hr, he⟩ := ok_bind he
  refine ⟨r1_, hr, ?_⟩
  refine And.intro (fun hb => ?_) (fun hb => ?_)
  · have he := ok_f he hb
    obtain ⟨r2_, hr, he⟩ := ok_bind he
    refine ⟨r2_, hr, ?_⟩
    refine And.intro (fun hb => ?_) (fun hb => ?_)
    · have he := ok_t he hb
      have he := ok_some he
      exact ⟨rfl, _, _, (leads_ren [] (l := [(6, .c (.own 900 false)), (7, .c (.bool false))]) (st' := [(900, .sl 3 (.int .i64) ([] : List Int) .shallow)]) rfl rfl ⟨trivial, trivial⟩ ⟨⟨rfl, trivial⟩, .inr rfl, trivial⟩), he⟩
    · have he := ok_f he hb
      have he := ok_rq he
      refine And.intro he.1 ?_
      have he := he.2
      obtain ⟨r3_, hr, he⟩ := ok_bind he
      refine ⟨r3_, hr, ?_⟩
      refine And.intro (fun hb => ?_) (fun hb => ?_)
      · have he := ok_t he hb
        have he := ok_some he
        exact ⟨rfl, _, _, (leads_ren [] (l := [(6, .c (.own 900 false)), (7, .c (.bool false))]) (st' := [(900, .sl 3 (.int .i64) ([] : List Int) .shallow)]) rfl rfl ⟨trivial, trivial⟩ ⟨⟨rfl, trivial⟩, .inr rfl, trivial⟩), he⟩
      · have he := ok_f he hb
        have he := ok_some he
        exact ⟨rfl, _, _, (leads_ren [(900, 30900)] (l := [(6, .c (.own 900 false)), (7, .c (.bool true))]) (st' := [(900, .sl 3 (.int .i64) r3_.2 .shallow)]) rfl rfl ⟨⟨rfl, rfl⟩, trivial⟩ ⟨⟨⟨rfl, rfl⟩, trivial⟩, .inr rfl, trivial⟩), he⟩
  · have he := ok_t he hb
    have he := ok_some he
    exact ⟨rfl, _, _, (leads_ren [] (l := [(6, .c (.own 900 false)), (7, .c (.bool false))]) (st' := [(900, .sl 3 (.int .i64) ([] : List Int) .shallow)]) rfl rfl ⟨trivial, trivial⟩ ⟨⟨rfl, trivial⟩, .inr rfl, trivial⟩), he⟩

noncomputable def c_laws_eqIntS : Con := fun args st => match args, st with
  | [.c (.imm (.int .i64) a), .c (.imm (.int .i64) b)], [] => .opt (Bool) (laws_eqIntS a b) (fun r => .ret (.c (.bool r)) [])
  | _, _ => .fail

noncomputable def C_laws_eqIntS : Cfg := { y := tys, n := 26, h := 0, tab := [], cut := [], hand := [], good := [], deep := [], sched := [] }

theorem t_laws_eqIntS : TabOk Try.prog C_laws_eqIntS := tabOk_of (fun p h => by cases h)

theorem k_laws_eqIntS : Entry Try.prog 34 c_laws_eqIntS := by
  refine entry_by (C := C_laws_eqIntS) mixed tys_ok t_laws_eqIntS (fn := Try.f34) (c := bd Try.f34) (by kernel_rfl) (by kernel_rfl) (by kernel_rfl) (by kernel_rfl) ?_
  intro args st k he
  unfold c_laws_eqIntS at he
  split at he
  rotate_left
  · exact he.elim
  rename_i a b
  have he : Ok (laws_eqIntS a b) (fun r => k (.c (.bool r)) []) := he
  refine ⟨rfl, rfl, ?_⟩
  refine And.intro (fun hb => ?_) (fun hb => ?_)
  · have he := ok_t he hb
    have he := ok_some he
    exact ⟨rfl, _, _, Leads.refl _ _, he⟩
  · have he := ok_f he hb
    refine loop_model mixed tys_ok t_laws_eqIntS (S := Int) (I := (fun i => (envOf [(0, .c (.imm (.int .i64) a)), (1, .c (.imm (.int .i64) b)), (5, .c (.int .i64 i))], []))) (f := laws_eqIntS_l1 a b) (K := (fun r => k (.c (.bool r)) [])) he (leads_ren [] (l := [(0, .c (.imm (.int .i64) a)), (1, .c (.imm (.int .i64) b)), (5, .c (.int .i64 (0:Int)))]) (st' := []) rfl rfl trivial ⟨.inl rfl, .inl rfl, rfl, trivial⟩) ?_
    rintro i J1 he
    refine And.intro (fun hb => ?_) (fun hb => ?_)
    · have he := ok_t he hb
      refine And.intro (by kernel_rfl) ?_
      have he := ok_rq he
      refine And.intro he.1 ?_
      have he := he.2
      have he := ok_rq he
      refine And.intro he.1 ?_
      have he := he.2
      refine And.intro (fun hb => ?_) (fun hb => ?_)
      · have he := ok_t he hb
        have he := ok_some he
        exact ⟨rfl, _, _, Leads.refl _ _, he⟩
      · have he := ok_f he hb
        have he := ok_rq he
        refine And.intro he.1 ?_
        have he := he.2
        have he := ok_some he
        exact ⟨(i + (1:Int)), he, (leads_ren [] (l := [(0, .c (.imm (.int .i64) a)), (1, .c (.imm (.int .i64) b)), (5, .c (.int .i64 (i + (1:Int))))]) (st' := []) rfl rfl trivial ⟨.inl rfl, .inl rfl, rfl, trivial⟩)⟩
    · have he := ok_f he hb
      have he := ok_some he
      exact ⟨rfl, _, _, Leads.refl _ _, he⟩

noncomputable def c_laws_eqIntSS : Con := fun args st => match args, st with
  | [.c (.imm (.sl (.int .i64)) a), .c (.imm (.sl (.int .i64)) b)], [] => .opt (Bool) (laws_eqIntSS a b) (fun r => .ret (.c (.bool r)) [])
  | _, _ => .fail

noncomputable def C_laws_eqIntSS : Cfg := { y := tys, n := 27, h := 0, tab := [(34, c_laws_eqIntS)], cut := [], hand := [], good := [], deep := [], sched := [(6, (.first 0 (.first 1 (.first 2 (.first 3 (.first 4 (.first 5 (.first 6 (.first 7 (.alt 8 (.first 9 .done) .stop))))))))))] }

theorem t_laws_eqIntSS : TabOk Try.prog C_laws_eqIntSS := by
  refine tabOk_of ?_
  simp only [C_laws_eqIntSS, List.forall_mem_cons]
  exact ⟨k_laws_eqIntS, fun p h => by cases h⟩

theorem k_laws_eqIntSS : Entry Try.prog 170 c_laws_eqIntSS := by
  refine entry_by (C := C_laws_eqIntSS) mixed tys_ok t_laws_eqIntSS (fn := Try.f170) (c := bd Try.f170) (by kernel_rfl) (by kernel_rfl) (by kernel_rfl) (by kernel_rfl) ?_
  intro args st k he
  unfold c_laws_eqIntSS at he
  split at he
  rotate_left
  · exact he.elim
  rename_i a b
  have he : Ok (laws_eqIntSS a b) (fun r => k (.c (.bool r)) []) := he
  refine ⟨rfl, rfl, ?_⟩
  refine And.intro (fun hb => ?_) (fun hb => ?_)
  · have he := ok_t he hb
    have he := ok_some he
    exact ⟨rfl, _, _, Leads.refl _ _, he⟩
  · have he := ok_f he hb
    refine loop_model mixed tys_ok t_laws_eqIntSS (S := Int) (I := (fun i => (envOf [(0, .c (.imm (.sl (.int .i64)) a)), (1, .c (.imm (.sl (.int .i64)) b)), (5, .c (.int .i64 i))], []))) (f := laws_eqIntSS_l1 a b) (K := (fun r => k (.c (.bool r)) [])) he (leads_ren [] (l := [(0, .c (.imm (.sl (.int .i64)) a)), (1, .c (.imm (.sl (.int .i64)) b)), (5, .c (.int .i64 (0:Int)))]) (st' := []) rfl rfl trivial ⟨.inl rfl, .inl rfl, rfl, trivial⟩) ?_
    rintro i J1 he
    refine And.intro (fun hb => ?_) (fun hb => ?_)
    · have he := ok_t he hb
      refine And.intro (by kernel_rfl) ?_
      have he := ok_rq he
      refine And.intro he.1 ?_
      have he := he.2
      have he := ok_rq he
      refine And.intro he.1 ?_
      have he := he.2
      refine And.intro ?_ trivial
      obtain ⟨r2_, hr, he⟩ := ok_bind he
      refine ⟨r2_, hr, ?_⟩
      refine And.intro (fun hb => ?_) (fun hb => ?_)
      · have he := ok_t he hb
        have he := ok_some he
        exact ⟨rfl, _, _, Leads.refl _ _, he⟩
      · have he := ok_f he hb
        have he := ok_rq he
        refine And.intro he.1 ?_
        have he := he.2
        have he := ok_some he
        exact ⟨(i + (1:Int)), he, (leads_ren [] (l := [(0, .c (.imm (.sl (.int .i64)) a)), (1, .c (.imm (.sl (.int .i64)) b)), (5, .c (.int .i64 (i + (1:Int))))]) (st' := []) rfl rfl trivial ⟨.inl rfl, .inl rfl, rfl, trivial⟩)⟩
    · have he := ok_f he hb
      have he := ok_some he
      exact ⟨rfl, _, _, Leads.refl _ _, he⟩

noncomputable def c_laws_eqRule : Con := fun args st => match args, st with
  | [.agg [.int .i64 a_0, .imm (.int .i64) a_1, .imm (.int .i64) a_2, .int .i64 a_3, .imm (.sl (.int .i64)) a_4], .agg [.int .i64 b_0, .imm (.int .i64) b_1, .imm (.int .i64) b_2, .int .i64 b_3, .imm (.sl (.int .i64)) b_4]], [] => .opt (Bool) (laws_eqRule (a_0, (a_1, (a_2, (a_3, a_4)))) (b_0, (b_1, (b_2, (b_3, b_4))))) (fun r => .ret (.c (.bool r)) [])
  | _, _ => .fail

noncomputable def C_laws_eqRule : Cfg := { y := tys, n := 33, h := 0, tab := [(34, c_laws_eqIntS), (170, c_laws_eqIntSS)], cut := [], hand := [], good := [], deep := [], sched := [] }

theorem t_laws_eqRule : TabOk Try.prog C_laws_eqRule := by
  refine tabOk_of ?_
  simp only [C_laws_eqRule, List.forall_mem_cons]
  exact ⟨k_laws_eqIntS, k_laws_eqIntSS, fun p h => by cases h⟩

theorem k_laws_eqRule : Entry Try.prog 136 c_laws_eqRule := by
  refine entry_by (C := C_laws_eqRule) mixed tys_ok t_laws_eqRule (fn := Try.f136) (c := bd Try.f136) (by kernel_rfl) (by kernel_rfl) (by kernel_rfl) (by kernel_rfl) ?_
  intro args st k he
  unfold c_laws_eqRule at he
  split at he
  rotate_left
  · exact he.elim
  rename_i a_0 a_1 a_2 a_3 a_4 b_0 b_1 b_2 b_3 b_4
  have he : Ok (laws_eqRule (a_0, (a_1, (a_2, (a_3, a_4)))) (b_0, (b_1, (b_2, (b_3, b_4))))) (fun r => k (.c (.bool r)) []) := he
  refine ⟨rfl, rfl, ?_⟩
  refine And.intro (fun hb => ?_) (fun hb => ?_)
  · have he := ok_t he hb
    have he := ok_some he
    exact ⟨rfl, _, _, (leads_ren [] (l := [(4, .c (.bool false))]) (st' := []) rfl rfl trivial ⟨.inr rfl, trivial⟩), he⟩
  · have he := ok_f he hb
    obtain ⟨r1_, hr, he⟩ := ok_bind he
    refine ⟨r1_, hr, ?_⟩
    refine And.intro (fun hb => ?_) (fun hb => ?_)
    · have he := ok_t he hb
      have he := ok_some he
      exact ⟨rfl, _, _, (leads_ren [] (l := [(4, .c (.bool false))]) (st' := []) rfl rfl trivial ⟨.inr rfl, trivial⟩), he⟩
    · have he := ok_f he hb
      obtain ⟨r2_, hr, he⟩ := ok_bind he
      refine ⟨r2_, hr, ?_⟩
      refine And.intro (fun hb => ?_) (fun hb => ?_)
      · have he := ok_t he hb
        have he := ok_some he
        exact ⟨rfl, _, _, (leads_ren [] (l := [(4, .c (.bool false))]) (st' := []) rfl rfl trivial ⟨.inr rfl, trivial⟩), he⟩
      · have he := ok_f he hb
        refine And.intro (fun hb => ?_) (fun hb => ?_)
        · have he := ok_t he hb
          have he := ok_some he
          exact ⟨rfl, _, _, (leads_ren [] (l := [(4, .c (.bool false))]) (st' := []) rfl rfl trivial ⟨.inr rfl, trivial⟩), he⟩
        · have he := ok_f he hb
          obtain ⟨r3_, hr, he⟩ := ok_bind he
          refine ⟨r3_, hr, ?_⟩
          refine And.intro (fun hb => ?_) (fun hb => ?_)
          · have he := ok_t he hb
            have he := ok_some he
            exact ⟨rfl, _, _, (leads_ren [] (l := [(4, .c (.bool false))]) (st' := []) rfl rfl trivial ⟨.inr rfl, trivial⟩), he⟩
          · have he := ok_f he hb
            have he := ok_some he
            exact ⟨rfl, _, _, (leads_ren [] (l := [(4, .c (.bool true))]) (st' := []) rfl rfl trivial ⟨.inr rfl, trivial⟩), he⟩

noncomputable def c_laws_eqRuleS : Con := fun args st => match args, st with
  | [.c (.imm (.pair (.int .i64) (.pair (.sl (.int .i64)) (.pair (.sl (.int .i64)) (.pair (.int .i64) (.sl (.sl (.int .i64))))))) a), .c (.imm (.pair (.int .i64) (.pair (.sl (.int .i64)) (.pair (.sl (.int .i64)) (.pair (.int .i64) (.sl (.sl (.int .i64))))))) b)], [] => .opt (Bool) (laws_eqRuleS a b) (fun r => .ret (.c (.bool r)) [])
  | _, _ => .fail

noncomputable def C_laws_eqRuleS : Cfg := { y := tys, n := 27, h := 0, tab := [(136, c_laws_eqRule)], cut := [], hand := [], good := [], deep := [], sched := [(6, (.first 0 (.first 1 (.first 2 (.first 3 (.first 4 (.first 5 (.first 6 (.first 7 (.alt 8 (.first 9 .done) .stop))))))))))] }

theorem t_laws_eqRuleS : TabOk Try.prog C_laws_eqRuleS := by
  refine tabOk_of ?_
  simp only [C_laws_eqRuleS, List.forall_mem_cons]
  exact ⟨k_laws_eqRule, fun p h => by cases h⟩

theorem k_laws_eqRuleS : Entry Try.prog 72 c_laws_eqRuleS := by
  refine entry_by (C := C_laws_eqRuleS) mixed tys_ok t_laws_eqRuleS (fn := Try.f72) (c := bd Try.f72) (by kernel_rfl) (by kernel_rfl) (by kernel_rfl) (by kernel_rfl) ?_
  intro args st k he
  unfold c_laws_eqRuleS at he
  split at he
  rotate_left
  · exact he.elim
  rename_i a b
  have he : Ok (laws_eqRuleS a b) (fun r => k (.c (.bool r)) []) := he
  refine ⟨rfl, rfl, ?_⟩
  refine And.intro (fun hb => ?_) (fun hb => ?_)
  · have he := ok_t he hb
    have he := ok_some he
    exact ⟨rfl, _, _, Leads.refl _ _, he⟩
  · have he := ok_f he hb
    refine loop_model mixed tys_ok t_laws_eqRuleS (S := Int) (I := (fun i => (envOf [(0, .c (.imm (.pair (.int .i64) (.pair (.sl (.int .i64)) (.pair (.sl (.int .i64)) (.pair (.int .i64) (.sl (.sl (.int .i64))))))) a)), (1, .c (.imm (.pair (.int .i64) (.pair (.sl (.int .i64)) (.pair (.sl (.int .i64)) (.pair (.int .i64) (.sl (.sl (.int .i64))))))) b)), (5, .c (.int .i64 i))], []))) (f := laws_eqRuleS_l1 a b) (K := (fun r => k (.c (.bool r)) [])) he (leads_ren [] (l := [(0, .c (.imm (.pair (.int .i64) (.pair (.sl (.int .i64)) (.pair (.sl (.int .i64)) (.pair (.int .i64) (.sl (.sl (.int .i64))))))) a)), (1, .c (.imm (.pair (.int .i64) (.pair (.sl (.int .i64)) (.pair (.sl (.int .i64)) (.pair (.int .i64) (.sl (.sl (.int .i64))))))) b)), (5, .c (.int .i64 (0:Int)))]) (st' := []) rfl rfl trivial ⟨.inl rfl, .inl rfl, rfl, trivial⟩) ?_
    rintro i J1 he
    refine And.intro (fun hb => ?_) (fun hb => ?_)
    · have he := ok_t he hb
      refine And.intro (by kernel_rfl) ?_
      have he := ok_rq he
      refine And.intro he.1 ?_
      have he := he.2
      have he := ok_rq he
      refine And.intro he.1 ?_
      have he := he.2
      refine And.intro ?_ trivial
      obtain ⟨r2_, hr, he⟩ := ok_bind he
      refine ⟨r2_, hr, ?_⟩
      refine And.intro (fun hb => ?_) (fun hb => ?_)
      · have he := ok_t he hb
        have he := ok_some he
        exact ⟨rfl, _, _, Leads.refl _ _, he⟩
      · have he := ok_f he hb
        have he := ok_rq he
        refine And.intro he.1 ?_
        have he := he.2
        have he := ok_some he
        exact ⟨(i + (1:Int)), he, (leads_ren [] (l := [(0, .c (.imm (.pair (.int .i64) (.pair (.sl (.int .i64)) (.pair (.sl (.int .i64)) (.pair (.int .i64) (.sl (.sl (.int .i64))))))) a)), (1, .c (.imm (.pair (.int .i64) (.pair (.sl (.int .i64)) (.pair (.sl (.int .i64)) (.pair (.int .i64) (.sl (.sl (.int .i64))))))) b)), (5, .c (.int .i64 (i + (1:Int))))]) (st' := []) rfl rfl trivial ⟨.inl rfl, .inl rfl, rfl, trivial⟩)⟩
    · have he := ok_f he hb
      have he := ok_some he
      exact ⟨rfl, _, _, Leads.refl _ _, he⟩

noncomputable def c_laws_eqModel : Con := fun args st => match args, st with
  | [.agg [.imm (.int .i64) a_0, .imm (.pair (.int .i64) (.pair (.sl (.int .i64)) (.pair (.sl (.int .i64)) (.pair (.int .i64) (.sl (.sl (.int .i64))))))) a_1], .agg [.imm (.int .i64) b_0, .imm (.pair (.int .i64) (.pair (.sl (.int .i64)) (.pair (.sl (.int .i64)) (.pair (.int .i64) (.sl (.sl (.int .i64))))))) b_1]], [] => .opt (Bool) (laws_eqModel (a_0, a_1) (b_0, b_1)) (fun r => .ret (.c (.bool r)) [])
  | _, _ => .fail

noncomputable def C_laws_eqModel : Cfg := { y := tys, n := 17, h := 0, tab := [(34, c_laws_eqIntS), (72, c_laws_eqRuleS)], cut := [], hand := [], good := [], deep := [], sched := [] }

theorem t_laws_eqModel : TabOk Try.prog C_laws_eqModel := by
  refine tabOk_of ?_
  simp only [C_laws_eqModel, List.forall_mem_cons]
  exact ⟨k_laws_eqIntS, k_laws_eqRuleS, fun p h => by cases h⟩

theorem k_laws_eqModel : Entry Try.prog 21 c_laws_eqModel := by
  refine entry_by (C := C_laws_eqModel) mixed tys_ok t_laws_eqModel (fn := Try.f21) (c := bd Try.f21) (by kernel_rfl) (by kernel_rfl) (by kernel_rfl) (by kernel_rfl) ?_
  intro args st k he
  unfold c_laws_eqModel at he
  split at he
  rotate_left
  · exact he.elim
  rename_i a_0 a_1 b_0 b_1
  have he : Ok (laws_eqModel (a_0, a_1) (b_0, b_1)) (fun r => k (.c (.bool r)) []) := he
  refine ⟨rfl, rfl, ?_⟩
  obtain ⟨r1_, hr, he⟩ := ok_bind he
  refine ⟨r1_, hr, ?_⟩
  refine And.intro (fun hb => ?_) (fun hb => ?_)
  · have he := ok_t he hb
    have he := ok_some he
    exact ⟨rfl, _, _, (leads_ren [] (l := [(4, .c (.bool false))]) (st' := []) rfl rfl trivial ⟨.inr rfl, trivial⟩), he⟩
  · have he := ok_f he hb
    obtain ⟨r2_, hr, he⟩ := ok_bind he
    refine ⟨r2_, hr, ?_⟩
    refine And.intro (fun hb => ?_) (fun hb => ?_)
    · have he := ok_t he hb
      have he := ok_some he
      exact ⟨rfl, _, _, (leads_ren [] (l := [(4, .c (.bool false))]) (st' := []) rfl rfl trivial ⟨.inr rfl, trivial⟩), he⟩
    · have he := ok_f he hb
      have he := ok_some he
      exact ⟨rfl, _, _, (leads_ren [] (l := [(4, .c (.bool true))]) (st' := []) rfl rfl trivial ⟨.inr rfl, trivial⟩), he⟩

noncomputable def c_laws_eqBoolS : Con := fun args st => match args, st with
  | [.c (.imm .bool a), .c (.imm .bool b)], [] => .opt (Bool) (laws_eqBoolS a b) (fun r => .ret (.c (.bool r)) [])
  | _, _ => .fail

noncomputable def C_laws_eqBoolS : Cfg := { y := tys, n := 26, h := 0, tab := [], cut := [], hand := [], good := [], deep := [], sched := [] }

theorem t_laws_eqBoolS : TabOk Try.prog C_laws_eqBoolS := tabOk_of (fun p h => by cases h)

theorem k_laws_eqBoolS : Entry Try.prog 73 c_laws_eqBoolS := by
  refine entry_by (C := C_laws_eqBoolS) mixed tys_ok t_laws_eqBoolS (fn := Try.f73) (c := bd Try.f73) (by kernel_rfl) (by kernel_rfl) (by kernel_rfl) (by kernel_rfl) ?_
  intro args st k he
  unfold c_laws_eqBoolS at he
  split at he
  rotate_left
  · exact he.elim
  rename_i a b
  have he : Ok (laws_eqBoolS a b) (fun r => k (.c (.bool r)) []) := he
  refine ⟨rfl, rfl, ?_⟩
  refine And.intro (fun hb => ?_) (fun hb => ?_)
  · have he := ok_t he hb
    have he := ok_some he
    exact ⟨rfl, _, _, Leads.refl _ _, he⟩
  · have he := ok_f he hb
    refine loop_model mixed tys_ok t_laws_eqBoolS (S := Int) (I := (fun i => (envOf [(0, .c (.imm .bool a)), (1, .c (.imm .bool b)), (5, .c (.int .i64 i))], []))) (f := laws_eqBoolS_l1 a b) (K := (fun r => k (.c (.bool r)) [])) he (leads_ren [] (l := [(0, .c (.imm .bool a)), (1, .c (.imm .bool b)), (5, .c (.int .i64 (0:Int)))]) (st' := []) rfl rfl trivial ⟨.inl rfl, .inl rfl, rfl, trivial⟩) ?_
    rintro i J1 he
    refine And.intro (fun hb => ?_) (fun hb => ?_)
    · have he := ok_t he hb
      refine And.intro (by kernel_rfl) ?_
      have he := ok_rq he
      refine And.intro he.1 ?_
      have he := he.2
      have he := ok_rq he
      refine And.intro he.1 ?_
      have he := he.2
      refine And.intro (fun hb => ?_) (fun hb => ?_)
      · have he := ok_t he hb
        have he := ok_some he
        exact ⟨rfl, _, _, Leads.refl _ _, he⟩
      · have he := ok_f he hb
        have he := ok_rq he
        refine And.intro he.1 ?_
        have he := he.2
        have he := ok_some he
        exact ⟨(i + (1:Int)), he, (leads_ren [] (l := [(0, .c (.imm .bool a)), (1, .c (.imm .bool b)), (5, .c (.int .i64 (i + (1:Int))))]) (st' := []) rfl rfl trivial ⟨.inl rfl, .inl rfl, rfl, trivial⟩)⟩
    · have he := ok_f he hb
      have he := ok_some he
      exact ⟨rfl, _, _, Leads.refl _ _, he⟩

noncomputable def c_laws_eqBoolSS : Con := fun args st => match args, st with
  | [.c (.imm (.sl .bool) a), .c (.imm (.sl .bool) b)], [] => .opt (Bool) (laws_eqBoolSS a b) (fun r => .ret (.c (.bool r)) [])
  | _, _ => .fail

noncomputable def C_laws_eqBoolSS : Cfg := { y := tys, n := 27, h := 0, tab := [(73, c_laws_eqBoolS)], cut := [], hand := [], good := [], deep := [], sched := [(6, (.first 0 (.first 1 (.first 2 (.first 3 (.first 4 (.first 5 (.first 6 (.first 7 (.alt 8 (.first 9 .done) .stop))))))))))] }

theorem t_laws_eqBoolSS : TabOk Try.prog C_laws_eqBoolSS := by
  refine tabOk_of ?_
  simp only [C_laws_eqBoolSS, List.forall_mem_cons]
  exact ⟨k_laws_eqBoolS, fun p h => by cases h⟩

theorem k_laws_eqBoolSS : Entry Try.prog 22 c_laws_eqBoolSS := by
  refine entry_by (C := C_laws_eqBoolSS) mixed tys_ok t_laws_eqBoolSS (fn := Try.f22) (c := bd Try.f22) (by kernel_rfl) (by kernel_rfl) (by kernel_rfl) (by kernel_rfl) ?_
  intro args st k he
  unfold c_laws_eqBoolSS at he
  split at he
  rotate_left
  · exact he.elim
  rename_i a b
  have he : Ok (laws_eqBoolSS a b) (fun r => k (.c (.bool r)) []) := he
  refine ⟨rfl, rfl, ?_⟩
  refine And.intro (fun hb => ?_) (fun hb => ?_)
  · have he := ok_t he hb
    have he := ok_some he
    exact ⟨rfl, _, _, Leads.refl _ _, he⟩
  · have he := ok_f he hb
    refine loop_model mixed tys_ok t_laws_eqBoolSS (S := Int) (I := (fun i => (envOf [(0, .c (.imm (.sl .bool) a)), (1, .c (.imm (.sl .bool) b)), (5, .c (.int .i64 i))], []))) (f := laws_eqBoolSS_l1 a b) (K := (fun r => k (.c (.bool r)) [])) he (leads_ren [] (l := [(0, .c (.imm (.sl .bool) a)), (1, .c (.imm (.sl .bool) b)), (5, .c (.int .i64 (0:Int)))]) (st' := []) rfl rfl trivial ⟨.inl rfl, .inl rfl, rfl, trivial⟩) ?_
    rintro i J1 he
    refine And.intro (fun hb => ?_) (fun hb => ?_)
    · have he := ok_t he hb
      refine And.intro (by kernel_rfl) ?_
      have he := ok_rq he
      refine And.intro he.1 ?_
      have he := he.2
      have he := ok_rq he
      refine And.intro he.1 ?_
      have he := he.2
      refine And.intro ?_ trivial
      obtain ⟨r2_, hr, he⟩ := ok_bind he
      refine ⟨r2_, hr, ?_⟩
      refine And.intro (fun hb => ?_) (fun hb => ?_)
      · have he := ok_t he hb
        have he := ok_some he
        exact ⟨rfl, _, _, Leads.refl _ _, he⟩
      · have he := ok_f he hb
        have he := ok_rq he
        refine And.intro he.1 ?_
        have he := he.2
        have he := ok_some he
        exact ⟨(i + (1:Int)), he, (leads_ren [] (l := [(0, .c (.imm (.sl .bool) a)), (1, .c (.imm (.sl .bool) b)), (5, .c (.int .i64 (i + (1:Int))))]) (st' := []) rfl rfl trivial ⟨.inl rfl, .inl rfl, rfl, trivial⟩)⟩
    · have he := ok_f he hb
      have he := ok_some he
      exact ⟨rfl, _, _, Leads.refl _ _, he⟩

noncomputable def c_laws_markIntS : Con := fun args st => match args, st with
  | [.c (.own 0 false), .c (.int .i64 k_)], [(0, .sl 3 (.int .i64) a .shallow)] => .opt (Int × (List Int)) (laws_markIntS k_ a) (fun r => .ret (.c (.int .i64 r.1)) [(0, .sl 3 (.int .i64) r.2 .shallow)])
  | _, _ => .fail

noncomputable def C_laws_markIntS : Cfg := { y := tys, n := 19, h := 1, tab := [], cut := [], hand := [], good := [], deep := [], sched := [] }

theorem t_laws_markIntS : TabOk Try.prog C_laws_markIntS := tabOk_of (fun p h => by cases h)

theorem k_laws_markIntS : Entry Try.prog 36 c_laws_markIntS := by
  refine entry_by (C := C_laws_markIntS) mixed tys_ok t_laws_markIntS (fn := Try.f36) (c := bd Try.f36) (by kernel_rfl) (by kernel_rfl) (by kernel_rfl) (by kernel_rfl) ?_
  intro args st k he
  unfold c_laws_markIntS at he
  split at he
  rotate_left
  · exact he.elim
  rename_i k_ a
  have he : Ok (laws_markIntS k_ a) (fun r => k (.c (.int .i64 r.1)) [(0, .sl 3 (.int .i64) r.2 .shallow)]) := he
  refine ⟨rfl, rfl, ?_⟩
  refine loop_model mixed tys_ok t_laws_markIntS (S := Int × Int × (List Int)) (I := (fun (k_1, i, a1) => (envOf [(0, .c (.own 0 false)), (1, .c (.int .i64 k_1)), (5, .c (.int .i64 i))], [(0, .sl 3 (.int .i64) a1 .shallow)]))) (f := laws_markIntS_l1) (K := (fun r => k (.c (.int .i64 r.1)) [(0, .sl 3 (.int .i64) r.2 .shallow)])) he (leads_ren [] (l := [(0, .c (.own 0 false)), (1, .c (.int .i64 k_)), (5, .c (.int .i64 (0:Int)))]) (st' := [(0, .sl 3 (.int .i64) a .shallow)]) rfl rfl ⟨⟨rfl, rfl⟩, trivial⟩ ⟨⟨⟨rfl, rfl⟩, trivial⟩, rfl, rfl, trivial⟩) ?_
  rintro ⟨k_1, i, a1⟩ J1 he
  refine And.intro (fun hb => ?_) (fun hb => ?_)
  · have he := ok_t he hb
    have he := ok_rq he
    refine And.intro he.1 ?_
    have he := he.2
    have he := ok_rq he
    refine And.intro he.1 ?_
    have he := he.2
    have he := ok_rq he
    refine And.intro he.1 ?_
    have he := he.2
    have he := ok_some he
    exact ⟨((k_1 + (1:Int)), (i + (1:Int)), (a1.set i.toNat k_1)), he, (leads_ren [] (l := [(0, .c (.own 0 false)), (1, .c (.int .i64 (k_1 + (1:Int)))), (5, .c (.int .i64 (i + (1:Int))))]) (st' := [(0, .sl 3 (.int .i64) (a1.set i.toNat k_1) .shallow)]) rfl rfl ⟨⟨rfl, rfl⟩, trivial⟩ ⟨⟨⟨rfl, rfl⟩, trivial⟩, rfl, rfl, trivial⟩)⟩
  · have he := ok_f he hb
    have he := ok_some he
    exact ⟨rfl, _, _, (leads_ren [] (l := [(4, .c (.int .i64 k_1))]) (st' := [(0, .sl 3 (.int .i64) a1 .shallow)]) rfl rfl ⟨⟨rfl, rfl⟩, trivial⟩ ⟨rfl, trivial⟩), he⟩

noncomputable def c_laws_markIntS__d : Con := fun args st => match args, st with
  | [.c (.own 0 false), .c (.int .i64 k_)], [(0, .sl 0 (.int .i64) a (.deep false .no))] => .opt (Int × (List Int)) (laws_markIntS__d k_ a) (fun r => .ret (.c (.int .i64 r.1)) [(0, .sl 0 (.int .i64) r.2 (.deep false .no))])
  | _, _ => .fail

noncomputable def C_laws_markIntS__d : Cfg := { y := tys, n := 19, h := 1, tab := [], cut := [], hand := [], good := [], deep := [], sched := [] }

theorem t_laws_markIntS__d : TabOk Try.prog C_laws_markIntS__d := tabOk_of (fun p h => by cases h)

theorem k_laws_markIntS__d : Entry Try.prog 36 c_laws_markIntS__d := by
  refine entry_by (C := C_laws_markIntS__d) mixed tys_ok t_laws_markIntS__d (fn := Try.f36) (c := bd Try.f36) (by kernel_rfl) (by kernel_rfl) (by kernel_rfl) (by kernel_rfl) ?_
  intro args st k he
  unfold c_laws_markIntS__d at he
  split at he
  rotate_left
  · exact he.elim
  rename_i k_ a
  have he : Ok (laws_markIntS__d k_ a) (fun r => k (.c (.int .i64 r.1)) [(0, .sl 0 (.int .i64) r.2 (.deep false .no))]) := he
  refine ⟨rfl, rfl, ?_⟩
  refine loop_model mixed tys_ok t_laws_markIntS__d (S := Int × Int × (List Int)) (I := (fun (k_1, i, a1) => (envOf [(0, .c (.own 0 false)), (1, .c (.int .i64 k_1)), (5, .c (.int .i64 i))], [(0, .sl 0 (.int .i64) a1 (.deep false .no))]))) (f := laws_markIntS__d_l1) (K := (fun r => k (.c (.int .i64 r.1)) [(0, .sl 0 (.int .i64) r.2 (.deep false .no))])) he (leads_ren [] (l := [(0, .c (.own 0 false)), (1, .c (.int .i64 k_)), (5, .c (.int .i64 (0:Int)))]) (st' := [(0, .sl 0 (.int .i64) a (.deep false .no))]) rfl rfl ⟨⟨rfl, rfl⟩, trivial⟩ ⟨⟨⟨rfl, rfl⟩, trivial⟩, rfl, rfl, trivial⟩) ?_
  rintro ⟨k_1, i, a1⟩ J1 he
  refine And.intro (fun hb => ?_) (fun hb => ?_)
  · have he := ok_t he hb
    have he := ok_rq he
    refine And.intro he.1 ?_
    have he := he.2
    have he := ok_rq he
    refine And.intro he.1 ?_
    have he := he.2
    have he := ok_rq he
    refine And.intro he.1 ?_
    have he := he.2
    have he := ok_some he
    exact ⟨((k_1 + (1:Int)), (i + (1:Int)), (a1.set i.toNat k_1)), he, (leads_ren [] (l := [(0, .c (.own 0 false)), (1, .c (.int .i64 (k_1 + (1:Int)))), (5, .c (.int .i64 (i + (1:Int))))]) (st' := [(0, .sl 0 (.int .i64) (a1.set i.toNat k_1) (.deep false .no))]) rfl rfl ⟨⟨rfl, rfl⟩, trivial⟩ ⟨⟨⟨rfl, rfl⟩, trivial⟩, rfl, rfl, trivial⟩)⟩
  · have he := ok_f he hb
    have he := ok_some he
    exact ⟨rfl, _, _, (leads_ren [] (l := [(4, .c (.int .i64 k_1))]) (st' := [(0, .sl 0 (.int .i64) a1 (.deep false .no))]) rfl rfl ⟨⟨rfl, rfl⟩, trivial⟩ ⟨rfl, trivial⟩), he⟩

noncomputable def c_laws_markIntSS : Con := fun args st => match args, st with
  | [.c (.own 0 false), .c (.int .i64 k_)], [(0, .sl 0 (.sl (.int .i64)) a (.deep false .no))] => .opt (Int × (List (List Int))) (laws_markIntSS k_ a) (fun r => .ret (.c (.int .i64 r.1)) [(0, .sl 0 (.sl (.int .i64)) r.2 (.deep false .no))])
  | _, _ => .fail

noncomputable def C_laws_markIntSS : Cfg := { y := tys, n := 19, h := 1, tab := [(36, c_laws_markIntS__d)], cut := [], hand := [(36, [0])], good := [], deep := [], sched := [] }

theorem t_laws_markIntSS : TabOk Try.prog C_laws_markIntSS := by
  refine tabOk_of ?_
  simp only [C_laws_markIntSS, List.forall_mem_cons]
  exact ⟨k_laws_markIntS__d, fun p h => by cases h⟩

theorem k_laws_markIntSS : Entry Try.prog 152 c_laws_markIntSS := by
  refine entry_by (C := C_laws_markIntSS) mixed tys_ok t_laws_markIntSS (fn := Try.f152) (c := bd Try.f152) (by kernel_rfl) (by kernel_rfl) (by kernel_rfl) (by kernel_rfl) ?_
  intro args st k he
  unfold c_laws_markIntSS at he
  split at he
  rotate_left
  · exact he.elim
  rename_i k_ a
  have he : Ok (laws_markIntSS k_ a) (fun r => k (.c (.int .i64 r.1)) [(0, .sl 0 (.sl (.int .i64)) r.2 (.deep false .no))]) := he
  refine ⟨rfl, rfl, ?_⟩
  refine loop_model mixed tys_ok t_laws_markIntSS (S := Int × Int × (List (List Int))) (I := (fun (k_1, i, a1) => (envOf [(0, .c (.own 0 false)), (1, .c (.int .i64 k_1)), (5, .c (.int .i64 i))], [(0, .sl 0 (.sl (.int .i64)) a1 (.deep false .no))]))) (f := laws_markIntSS_l1) (K := (fun r => k (.c (.int .i64 r.1)) [(0, .sl 0 (.sl (.int .i64)) r.2 (.deep false .no))])) he (leads_ren [] (l := [(0, .c (.own 0 false)), (1, .c (.int .i64 k_)), (5, .c (.int .i64 (0:Int)))]) (st' := [(0, .sl 0 (.sl (.int .i64)) a (.deep false .no))]) rfl rfl ⟨⟨rfl, rfl⟩, trivial⟩ ⟨⟨⟨rfl, rfl⟩, trivial⟩, rfl, rfl, trivial⟩) ?_
  rintro ⟨k_1, i, a1⟩ J1 he
  refine And.intro (fun hb => ?_) (fun hb => ?_)
  · have he := ok_t he hb
    have he := ok_rq he
    refine And.intro he.1 ?_
    have he := he.2
    obtain ⟨r2_, hr, he⟩ := ok_bind he
    refine ⟨r2_, hr, ?_⟩
    have he := ok_rq he
    refine And.intro he.1 ?_
    have he := he.2
    have he := ok_some he
    exact ⟨(r2_.1, (i + (1:Int)), (a1.set i.toNat r2_.2)), he, ((leads_close [0] rfl).trans (leads_ren [] (l := [(0, .c (.own 0 false)), (1, .c (.int .i64 r2_.1)), (5, .c (.int .i64 (i + (1:Int))))]) (st' := [(0, .sl 0 (.sl (.int .i64)) (a1.set i.toNat r2_.2) (.deep false .no))]) rfl rfl (by exact ⟨⟨rfl, rfl⟩, trivial⟩) (by exact ⟨⟨⟨rfl, rfl⟩, trivial⟩, rfl, rfl, trivial⟩)))⟩
  · have he := ok_f he hb
    have he := ok_some he
    exact ⟨rfl, _, _, (leads_ren [] (l := [(4, .c (.int .i64 k_1))]) (st' := [(0, .sl 0 (.sl (.int .i64)) a1 (.deep false .no))]) rfl rfl ⟨⟨rfl, rfl⟩, trivial⟩ ⟨rfl, trivial⟩), he⟩

noncomputable def c_laws_markRuleS : Con := fun args st => match args, st with
  | [.c (.own 0 false), .c (.int .i64 k_)], [(0, .sl 112 (.pair (.int .i64) (.pair (.sl (.int .i64)) (.pair (.sl (.int .i64)) (.pair (.int .i64) (.sl (.sl (.int .i64))))))) a (.deep true .no))] => .opt (Int × (List (Int × (List Int) × (List Int) × Int × (List (List Int))))) (laws_markRuleS k_ a) (fun r => .ret (.c (.int .i64 r.1)) [(0, .sl 112 (.pair (.int .i64) (.pair (.sl (.int .i64)) (.pair (.sl (.int .i64)) (.pair (.int .i64) (.sl (.sl (.int .i64))))))) r.2 (.deep true .no))])
  | _, _ => .fail

noncomputable def C_laws_markRuleS : Cfg := { y := tys, n := 48, h := 1, tab := [(36, c_laws_markIntS__d), (152, c_laws_markIntSS)], cut := [8, 9], hand := [(36, [0]), (152, [0])], good := [], deep := [], sched := [] }

theorem t_laws_markRuleS : TabOk Try.prog C_laws_markRuleS := by
  refine tabOk_of ?_
  simp only [C_laws_markRuleS, List.forall_mem_cons]
  exact ⟨k_laws_markIntS__d, k_laws_markIntSS, fun p h => by cases h⟩

theorem k_laws_markRuleS : Entry Try.prog 95 c_laws_markRuleS := by
  refine entry_by (C := C_laws_markRuleS) mixed tys_ok t_laws_markRuleS (fn := Try.f95) (c := bd Try.f95) (by kernel_rfl) (by kernel_rfl) (by kernel_rfl) (by kernel_rfl) ?_
  intro args st k he
  unfold c_laws_markRuleS at he
  split at he
  rotate_left
  · exact he.elim
  rename_i k_ a
  have he : Ok (laws_markRuleS k_ a) (fun r => k (.c (.int .i64 r.1)) [(0, .sl 112 (.pair (.int .i64) (.pair (.sl (.int .i64)) (.pair (.sl (.int .i64)) (.pair (.int .i64) (.sl (.sl (.int .i64))))))) r.2 (.deep true .no))]) := he
  refine ⟨rfl, rfl, ?_⟩
  refine loop_model mixed tys_ok t_laws_markRuleS (S := Int × Int × (List (Int × (List Int) × (List Int) × Int × (List (List Int))))) (I := (fun (k_1, i, a3) => (envOf [(0, .c (.own 0 false)), (1, .c (.int .i64 k_1)), (5, .c (.int .i64 i))], [(0, .sl 112 (.pair (.int .i64) (.pair (.sl (.int .i64)) (.pair (.sl (.int .i64)) (.pair (.int .i64) (.sl (.sl (.int .i64))))))) a3 (.deep true .no))]))) (f := laws_markRuleS_l1) (K := (fun r => k (.c (.int .i64 r.1)) [(0, .sl 112 (.pair (.int .i64) (.pair (.sl (.int .i64)) (.pair (.sl (.int .i64)) (.pair (.int .i64) (.sl (.sl (.int .i64))))))) r.2 (.deep true .no))])) he (leads_ren [] (l := [(0, .c (.own 0 false)), (1, .c (.int .i64 k_)), (5, .c (.int .i64 (0:Int)))]) (st' := [(0, .sl 112 (.pair (.int .i64) (.pair (.sl (.int .i64)) (.pair (.sl (.int .i64)) (.pair (.int .i64) (.sl (.sl (.int .i64))))))) a (.deep true .no))]) rfl rfl ⟨⟨rfl, rfl⟩, trivial⟩ ⟨⟨⟨rfl, rfl⟩, trivial⟩, rfl, rfl, trivial⟩) ?_
  rintro ⟨k_1, i, a3⟩ J1 he
  refine And.intro (fun hb => ?_) (fun hb => ?_)
  · have he := ok_t he hb
    have he := ok_rq he
    refine And.intro he.1 ?_
    have he := he.2
    have he := ok_rq he
    refine And.intro he.1 ?_
    have he := he.2
    have he := ok_rq he
    refine And.intro he.1 ?_
    have he := he.2
    obtain ⟨r4_, hr, he⟩ := ok_bind he
    refine ⟨r4_, hr, ?_⟩
    refine seq_model mixed tys_ok t_laws_markRuleS (S := Int × (List (Int × (List Int) × (List Int) × Int × (List (List Int))))) (I := (fun (k_3, a4) => (envOf [(0, .c (.own 0 false)), (1, .c (.int .i64 k_3)), (5, .c (.int .i64 i))], [(0, .sl 112 (.pair (.int .i64) (.pair (.sl (.int .i64)) (.pair (.sl (.int .i64)) (.pair (.int .i64) (.sl (.sl (.int .i64))))))) a4 (.deep true .no))]))) (B := fun s => Ok (laws_markRuleS_j1 i s) (LK J1 (fun r => k (.c (.int .i64 r.1)) [(0, .sl 112 (.pair (.int .i64) (.pair (.sl (.int .i64)) (.pair (.sl (.int .i64)) (.pair (.int .i64) (.sl (.sl (.int .i64))))))) r.2 (.deep true .no))]))) ?_ ?_
    · rintro ⟨k_3, a4⟩ he
      refine seq_model mixed tys_ok t_laws_markRuleS (S := (List (Int × (List Int) × (List Int) × Int × (List (List Int))))) (I := (fun a5 => (envOf [(0, .c (.own 0 false)), (1, .c (.int .i64 k_3)), (5, .c (.int .i64 i))], [(0, .sl 112 (.pair (.int .i64) (.pair (.sl (.int .i64)) (.pair (.sl (.int .i64)) (.pair (.int .i64) (.sl (.sl (.int .i64))))))) a5 (.deep true .no))]))) (B := fun s => Ok (laws_markRuleS_j2 i k_3 s) (LK J1 (fun r => k (.c (.int .i64 r.1)) [(0, .sl 112 (.pair (.int .i64) (.pair (.sl (.int .i64)) (.pair (.sl (.int .i64)) (.pair (.int .i64) (.sl (.sl (.int .i64))))))) r.2 (.deep true .no))]))) ?_ ?_
      · rintro a5 he
        have he := ok_rq he
        refine And.intro he.1 ?_
        have he := he.2
        have he := ok_rq he
        refine And.intro he.1 ?_
        have he := he.2
        obtain ⟨r6_, hr, he⟩ := ok_bind he
        refine ⟨r6_, hr, ?_⟩
        have he := ok_rq he
        refine And.intro he.1 ?_
        have he := he.2
        have he := ok_some he
        exact ⟨(r6_.1, (i + (1:Int)), (a5.set i.toNat ((a5.getD i.toNat (0, ([], ([], (0, []))))).1, ((a5.getD i.toNat (0, ([], ([], (0, []))))).2.1, ((a5.getD i.toNat (0, ([], ([], (0, []))))).2.2.1, ((a5.getD i.toNat (0, ([], ([], (0, []))))).2.2.2.1, r6_.2)))))), he, ((leads_close [0] rfl).trans (leads_ren [] (l := [(0, .c (.own 0 false)), (1, .c (.int .i64 r6_.1)), (5, .c (.int .i64 (i + (1:Int))))]) (st' := [(0, .sl 112 (.pair (.int .i64) (.pair (.sl (.int .i64)) (.pair (.sl (.int .i64)) (.pair (.int .i64) (.sl (.sl (.int .i64))))))) (a5.set i.toNat ((a5.getD i.toNat (0, ([], ([], (0, []))))).1, ((a5.getD i.toNat (0, ([], ([], (0, []))))).2.1, ((a5.getD i.toNat (0, ([], ([], (0, []))))).2.2.1, ((a5.getD i.toNat (0, ([], ([], (0, []))))).2.2.2.1, r6_.2))))) (.deep true .no))]) rfl rfl (by exact ⟨⟨rfl, rfl⟩, trivial⟩) (by exact ⟨⟨⟨rfl, rfl⟩, trivial⟩, rfl, rfl, trivial⟩)))⟩
      · skip
        have he := ok_rq he
        refine And.intro he.1 ?_
        have he := he.2
        exact ⟨(a4.set i.toNat ((a4.getD i.toNat (0, ([], ([], (0, []))))).1, ((a4.getD i.toNat (0, ([], ([], (0, []))))).2.1, ((a4.getD i.toNat (0, ([], ([], (0, []))))).2.2.1, (k_3, (a4.getD i.toNat (0, ([], ([], (0, []))))).2.2.2.2))))), he, (leads_ren [] (l := [(0, .c (.own 0 false)), (1, .c (.int .i64 k_3)), (5, .c (.int .i64 i))]) (st' := [(0, .sl 112 (.pair (.int .i64) (.pair (.sl (.int .i64)) (.pair (.sl (.int .i64)) (.pair (.int .i64) (.sl (.sl (.int .i64))))))) (a4.set i.toNat ((a4.getD i.toNat (0, ([], ([], (0, []))))).1, ((a4.getD i.toNat (0, ([], ([], (0, []))))).2.1, ((a4.getD i.toNat (0, ([], ([], (0, []))))).2.2.1, (k_3, (a4.getD i.toNat (0, ([], ([], (0, []))))).2.2.2.2))))) (.deep true .no))]) rfl rfl ⟨⟨rfl, rfl⟩, trivial⟩ ⟨⟨⟨rfl, rfl⟩, trivial⟩, rfl, rfl, trivial⟩)⟩
    · skip
      have he := ok_rq he
      refine And.intro he.1 ?_
      have he := he.2
      obtain ⟨r5_, hr, he⟩ := ok_bind he
      refine ⟨r5_, hr, ?_⟩
      exact ⟨(r5_.1, (((a3.set i.toNat (k_1, (a3.getD i.toNat (0, ([], ([], (0, []))))).2)).set i.toNat (((a3.set i.toNat (k_1, (a3.getD i.toNat (0, ([], ([], (0, []))))).2)).getD i.toNat (0, ([], ([], (0, []))))).1, (r4_.2, ((a3.set i.toNat (k_1, (a3.getD i.toNat (0, ([], ([], (0, []))))).2)).getD i.toNat (0, ([], ([], (0, []))))).2.2))).set i.toNat ((((a3.set i.toNat (k_1, (a3.getD i.toNat (0, ([], ([], (0, []))))).2)).set i.toNat (((a3.set i.toNat (k_1, (a3.getD i.toNat (0, ([], ([], (0, []))))).2)).getD i.toNat (0, ([], ([], (0, []))))).1, (r4_.2, ((a3.set i.toNat (k_1, (a3.getD i.toNat (0, ([], ([], (0, []))))).2)).getD i.toNat (0, ([], ([], (0, []))))).2.2))).getD i.toNat (0, ([], ([], (0, []))))).1, ((((a3.set i.toNat (k_1, (a3.getD i.toNat (0, ([], ([], (0, []))))).2)).set i.toNat (((a3.set i.toNat (k_1, (a3.getD i.toNat (0, ([], ([], (0, []))))).2)).getD i.toNat (0, ([], ([], (0, []))))).1, (r4_.2, ((a3.set i.toNat (k_1, (a3.getD i.toNat (0, ([], ([], (0, []))))).2)).getD i.toNat (0, ([], ([], (0, []))))).2.2))).getD i.toNat (0, ([], ([], (0, []))))).2.1, (r5_.2, (((a3.set i.toNat (k_1, (a3.getD i.toNat (0, ([], ([], (0, []))))).2)).set i.toNat (((a3.set i.toNat (k_1, (a3.getD i.toNat (0, ([], ([], (0, []))))).2)).getD i.toNat (0, ([], ([], (0, []))))).1, (r4_.2, ((a3.set i.toNat (k_1, (a3.getD i.toNat (0, ([], ([], (0, []))))).2)).getD i.toNat (0, ([], ([], (0, []))))).2.2))).getD i.toNat (0, ([], ([], (0, []))))).2.2.2))))), he, ((leads_close [0] rfl).trans (leads_ren [] (l := [(0, .c (.own 0 false)), (1, .c (.int .i64 r5_.1)), (5, .c (.int .i64 i))]) (st' := [(0, .sl 112 (.pair (.int .i64) (.pair (.sl (.int .i64)) (.pair (.sl (.int .i64)) (.pair (.int .i64) (.sl (.sl (.int .i64))))))) (((a3.set i.toNat (k_1, (a3.getD i.toNat (0, ([], ([], (0, []))))).2)).set i.toNat (((a3.set i.toNat (k_1, (a3.getD i.toNat (0, ([], ([], (0, []))))).2)).getD i.toNat (0, ([], ([], (0, []))))).1, (r4_.2, ((a3.set i.toNat (k_1, (a3.getD i.toNat (0, ([], ([], (0, []))))).2)).getD i.toNat (0, ([], ([], (0, []))))).2.2))).set i.toNat ((((a3.set i.toNat (k_1, (a3.getD i.toNat (0, ([], ([], (0, []))))).2)).set i.toNat (((a3.set i.toNat (k_1, (a3.getD i.toNat (0, ([], ([], (0, []))))).2)).getD i.toNat (0, ([], ([], (0, []))))).1, (r4_.2, ((a3.set i.toNat (k_1, (a3.getD i.toNat (0, ([], ([], (0, []))))).2)).getD i.toNat (0, ([], ([], (0, []))))).2.2))).getD i.toNat (0, ([], ([], (0, []))))).1, ((((a3.set i.toNat (k_1, (a3.getD i.toNat (0, ([], ([], (0, []))))).2)).set i.toNat (((a3.set i.toNat (k_1, (a3.getD i.toNat (0, ([], ([], (0, []))))).2)).getD i.toNat (0, ([], ([], (0, []))))).1, (r4_.2, ((a3.set i.toNat (k_1, (a3.getD i.toNat (0, ([], ([], (0, []))))).2)).getD i.toNat (0, ([], ([], (0, []))))).2.2))).getD i.toNat (0, ([], ([], (0, []))))).2.1, (r5_.2, (((a3.set i.toNat (k_1, (a3.getD i.toNat (0, ([], ([], (0, []))))).2)).set i.toNat (((a3.set i.toNat (k_1, (a3.getD i.toNat (0, ([], ([], (0, []))))).2)).getD i.toNat (0, ([], ([], (0, []))))).1, (r4_.2, ((a3.set i.toNat (k_1, (a3.getD i.toNat (0, ([], ([], (0, []))))).2)).getD i.toNat (0, ([], ([], (0, []))))).2.2))).getD i.toNat (0, ([], ([], (0, []))))).2.2.2)))) (.deep true .no))]) rfl rfl (by exact ⟨⟨rfl, rfl⟩, trivial⟩) (by exact ⟨⟨⟨rfl, rfl⟩, trivial⟩, rfl, rfl, trivial⟩)))⟩
  · have he := ok_f he hb
    have he := ok_some he
    exact ⟨rfl, _, _, (leads_ren [] (l := [(4, .c (.int .i64 k_1))]) (st' := [(0, .sl 112 (.pair (.int .i64) (.pair (.sl (.int .i64)) (.pair (.sl (.int .i64)) (.pair (.int .i64) (.sl (.sl (.int .i64))))))) a3 (.deep true .no))]) rfl rfl ⟨⟨rfl, rfl⟩, trivial⟩ ⟨rfl, trivial⟩), he⟩

noncomputable def c_laws_markModel : Con := fun args st => match args, st with
  | [.agg [.own 0 false, .own 1 false], .c (.int .i64 k_)], [(0, .sl 3 (.int .i64) o0 .shallow), (1, .sl 112 (.pair (.int .i64) (.pair (.sl (.int .i64)) (.pair (.sl (.int .i64)) (.pair (.int .i64) (.sl (.sl (.int .i64))))))) o1 (.deep true .no))] => .opt (Int × (List Int) × (List (Int × (List Int) × (List Int) × Int × (List (List Int))))) (laws_markModel k_ o0 o1) (fun r => .ret (.c (.int .i64 r.1)) [(0, .sl 3 (.int .i64) r.2.1 .shallow), (1, .sl 112 (.pair (.int .i64) (.pair (.sl (.int .i64)) (.pair (.sl (.int .i64)) (.pair (.int .i64) (.sl (.sl (.int .i64))))))) r.2.2 (.deep true .no))])
  | _, _ => .fail

noncomputable def C_laws_markModel : Cfg := { y := tys, n := 14, h := 2, tab := [(36, c_laws_markIntS), (95, c_laws_markRuleS)], cut := [], hand := [(36, [0]), (95, [0])], good := [], deep := [], sched := [] }

theorem t_laws_markModel : TabOk Try.prog C_laws_markModel := by
  refine tabOk_of ?_
  simp only [C_laws_markModel, List.forall_mem_cons]
  exact ⟨k_laws_markIntS, k_laws_markRuleS, fun p h => by cases h⟩

theorem k_laws_markModel : Entry Try.prog 35 c_laws_markModel := by
  refine entry_by (C := C_laws_markModel) mixed tys_ok t_laws_markModel (fn := Try.f35) (c := bd Try.f35) (by kernel_rfl) (by kernel_rfl) (by kernel_rfl) (by kernel_rfl) ?_
  intro args st k he
  unfold c_laws_markModel at he
  split at he
  rotate_left
  · exact he.elim
  rename_i k_ o0 o1
  have he : Ok (laws_markModel k_ o0 o1) (fun r => k (.c (.int .i64 r.1)) [(0, .sl 3 (.int .i64) r.2.1 .shallow), (1, .sl 112 (.pair (.int .i64) (.pair (.sl (.int .i64)) (.pair (.sl (.int .i64)) (.pair (.int .i64) (.sl (.sl (.int .i64))))))) r.2.2 (.deep true .no))]) := he
  refine ⟨rfl, rfl, ?_⟩
  obtain ⟨r1_, hr, he⟩ := ok_bind he
  refine ⟨r1_, hr, ?_⟩
  obtain ⟨r2_, hr, he⟩ := ok_bind he
  refine ⟨r2_, hr, ?_⟩
  have he := ok_some he
  exact ⟨rfl, _, _, (leads_ren [] (l := [(4, .c (.int .i64 r2_.1))]) (st' := [(0, .sl 3 (.int .i64) r1_.2 .shallow), (1, .sl 112 (.pair (.int .i64) (.pair (.sl (.int .i64)) (.pair (.sl (.int .i64)) (.pair (.int .i64) (.sl (.sl (.int .i64))))))) r2_.2 (.deep true .no))]) rfl rfl ⟨⟨rfl, rfl⟩, ⟨rfl, rfl⟩, trivial⟩ ⟨rfl, trivial⟩), he⟩

noncomputable def c_laws_markBoolS__d : Con := fun args st => match args, st with
  | [.c (.own 0 false), .c (.int .i64 k_)], [(0, .sl 0 .bool a (.deep false .no))] => .opt (Int × (List Bool)) (laws_markBoolS__d k_ a) (fun r => .ret (.c (.int .i64 r.1)) [(0, .sl 0 .bool r.2 (.deep false .no))])
  | _, _ => .fail

noncomputable def C_laws_markBoolS__d : Cfg := { y := tys, n := 21, h := 1, tab := [], cut := [], hand := [], good := [], deep := [], sched := [] }

theorem t_laws_markBoolS__d : TabOk Try.prog C_laws_markBoolS__d := tabOk_of (fun p h => by cases h)

theorem k_laws_markBoolS__d : Entry Try.prog 126 c_laws_markBoolS__d := by
  refine entry_by (C := C_laws_markBoolS__d) mixed tys_ok t_laws_markBoolS__d (fn := Try.f126) (c := bd Try.f126) (by kernel_rfl) (by kernel_rfl) (by kernel_rfl) (by kernel_rfl) ?_
  intro args st k he
  unfold c_laws_markBoolS__d at he
  split at he
  rotate_left
  · exact he.elim
  rename_i k_ a
  have he : Ok (laws_markBoolS__d k_ a) (fun r => k (.c (.int .i64 r.1)) [(0, .sl 0 .bool r.2 (.deep false .no))]) := he
  refine ⟨rfl, rfl, ?_⟩
  refine loop_model mixed tys_ok t_laws_markBoolS__d (S := Int × Int × (List Bool)) (I := (fun (k_1, i, a1) => (envOf [(0, .c (.own 0 false)), (1, .c (.int .i64 k_1)), (5, .c (.int .i64 i))], [(0, .sl 0 .bool a1 (.deep false .no))]))) (f := laws_markBoolS__d_l1) (K := (fun r => k (.c (.int .i64 r.1)) [(0, .sl 0 .bool r.2 (.deep false .no))])) he (leads_ren [] (l := [(0, .c (.own 0 false)), (1, .c (.int .i64 k_)), (5, .c (.int .i64 (0:Int)))]) (st' := [(0, .sl 0 .bool a (.deep false .no))]) rfl rfl ⟨⟨rfl, rfl⟩, trivial⟩ ⟨⟨⟨rfl, rfl⟩, trivial⟩, rfl, rfl, trivial⟩) ?_
  rintro ⟨k_1, i, a1⟩ J1 he
  refine And.intro (fun hb => ?_) (fun hb => ?_)
  · have he := ok_t he hb
    have he := ok_rq he
    refine And.intro he.1 ?_
    have he := he.2
    have he := ok_rq he
    refine And.intro he.1 ?_
    have he := he.2
    have he := ok_rq he
    refine And.intro he.1 ?_
    have he := he.2
    have he := ok_rq he
    refine And.intro he.1 ?_
    have he := he.2
    have he := ok_some he
    exact ⟨((k_1 + (1:Int)), (i + (1:Int)), (a1.set i.toNat ((k_1 % (3:Int)) == (0:Int)))), he, (leads_ren [] (l := [(0, .c (.own 0 false)), (1, .c (.int .i64 (k_1 + (1:Int)))), (5, .c (.int .i64 (i + (1:Int))))]) (st' := [(0, .sl 0 .bool (a1.set i.toNat ((k_1 % (3:Int)) == (0:Int))) (.deep false .no))]) rfl rfl ⟨⟨rfl, rfl⟩, trivial⟩ ⟨⟨⟨rfl, rfl⟩, trivial⟩, rfl, rfl, trivial⟩)⟩
  · have he := ok_f he hb
    have he := ok_some he
    exact ⟨rfl, _, _, (leads_ren [] (l := [(4, .c (.int .i64 k_1))]) (st' := [(0, .sl 0 .bool a1 (.deep false .no))]) rfl rfl ⟨⟨rfl, rfl⟩, trivial⟩ ⟨rfl, trivial⟩), he⟩

noncomputable def c_laws_markBoolSS : Con := fun args st => match args, st with
  | [.c (.own 0 false), .c (.int .i64 k_)], [(0, .sl 73 (.sl .bool) a (.deep true .no))] => .opt (Int × (List (List Bool))) (laws_markBoolSS k_ a) (fun r => .ret (.c (.int .i64 r.1)) [(0, .sl 73 (.sl .bool) r.2 (.deep true .no))])
  | _, _ => .fail

noncomputable def C_laws_markBoolSS : Cfg := { y := tys, n := 19, h := 1, tab := [(126, c_laws_markBoolS__d)], cut := [], hand := [(126, [0])], good := [], deep := [], sched := [] }

theorem t_laws_markBoolSS : TabOk Try.prog C_laws_markBoolSS := by
  refine tabOk_of ?_
  simp only [C_laws_markBoolSS, List.forall_mem_cons]
  exact ⟨k_laws_markBoolS__d, fun p h => by cases h⟩

theorem k_laws_markBoolSS : Entry Try.prog 54 c_laws_markBoolSS := by
  refine entry_by (C := C_laws_markBoolSS) mixed tys_ok t_laws_markBoolSS (fn := Try.f54) (c := bd Try.f54) (by kernel_rfl) (by kernel_rfl) (by kernel_rfl) (by kernel_rfl) ?_
  intro args st k he
  unfold c_laws_markBoolSS at he
  split at he
  rotate_left
  · exact he.elim
  rename_i k_ a
  have he : Ok (laws_markBoolSS k_ a) (fun r => k (.c (.int .i64 r.1)) [(0, .sl 73 (.sl .bool) r.2 (.deep true .no))]) := he
  refine ⟨rfl, rfl, ?_⟩
  refine loop_model mixed tys_ok t_laws_markBoolSS (S := Int × Int × (List (List Bool))) (I := (fun (k_1, i, a1) => (envOf [(0, .c (.own 0 false)), (1, .c (.int .i64 k_1)), (5, .c (.int .i64 i))], [(0, .sl 73 (.sl .bool) a1 (.deep true .no))]))) (f := laws_markBoolSS_l1) (K := (fun r => k (.c (.int .i64 r.1)) [(0, .sl 73 (.sl .bool) r.2 (.deep true .no))])) he (leads_ren [] (l := [(0, .c (.own 0 false)), (1, .c (.int .i64 k_)), (5, .c (.int .i64 (0:Int)))]) (st' := [(0, .sl 73 (.sl .bool) a (.deep true .no))]) rfl rfl ⟨⟨rfl, rfl⟩, trivial⟩ ⟨⟨⟨rfl, rfl⟩, trivial⟩, rfl, rfl, trivial⟩) ?_
  rintro ⟨k_1, i, a1⟩ J1 he
  refine And.intro (fun hb => ?_) (fun hb => ?_)
  · have he := ok_t he hb
    have he := ok_rq he
    refine And.intro he.1 ?_
    have he := he.2
    obtain ⟨r2_, hr, he⟩ := ok_bind he
    refine ⟨r2_, hr, ?_⟩
    have he := ok_rq he
    refine And.intro he.1 ?_
    have he := he.2
    have he := ok_some he
    exact ⟨(r2_.1, (i + (1:Int)), (a1.set i.toNat r2_.2)), he, ((leads_close [0] rfl).trans (leads_ren [] (l := [(0, .c (.own 0 false)), (1, .c (.int .i64 r2_.1)), (5, .c (.int .i64 (i + (1:Int))))]) (st' := [(0, .sl 73 (.sl .bool) (a1.set i.toNat r2_.2) (.deep true .no))]) rfl rfl (by exact ⟨⟨rfl, rfl⟩, trivial⟩) (by exact ⟨⟨⟨rfl, rfl⟩, trivial⟩, rfl, rfl, trivial⟩)))⟩
  · have he := ok_f he hb
    have he := ok_some he
    exact ⟨rfl, _, _, (leads_ren [] (l := [(4, .c (.int .i64 k_1))]) (st' := [(0, .sl 73 (.sl .bool) a1 (.deep true .no))]) rfl rfl ⟨⟨rfl, rfl⟩, trivial⟩ ⟨rfl, trivial⟩), he⟩

noncomputable def c_laws_heldIntS : Con := fun args st => match args, st with
  | [.c (.imm (.int .i64) a), .c (.int .i64 k_)], [] => .opt (Int) (laws_heldIntS a k_) (fun r => .ret (.c (.int .i64 r)) [])
  | _, _ => .fail

noncomputable def C_laws_heldIntS : Cfg := { y := tys, n := 21, h := 0, tab := [], cut := [], hand := [], good := [], deep := [], sched := [] }

theorem t_laws_heldIntS : TabOk Try.prog C_laws_heldIntS := tabOk_of (fun p h => by cases h)

theorem k_laws_heldIntS : Entry Try.prog 37 c_laws_heldIntS := by
  refine entry_by (C := C_laws_heldIntS) mixed tys_ok t_laws_heldIntS (fn := Try.f37) (c := bd Try.f37) (by kernel_rfl) (by kernel_rfl) (by kernel_rfl) (by kernel_rfl) ?_
  intro args st k he
  unfold c_laws_heldIntS at he
  split at he
  rotate_left
  · exact he.elim
  rename_i a k_
  have he : Ok (laws_heldIntS a k_) (fun r => k (.c (.int .i64 r)) []) := he
  refine ⟨rfl, rfl, ?_⟩
  refine loop_model mixed tys_ok t_laws_heldIntS (S := Int × Int) (I := (fun (k_1, i) => (envOf [(0, .c (.imm (.int .i64) a)), (1, .c (.int .i64 k_1)), (5, .c (.int .i64 i))], []))) (f := laws_heldIntS_l1 a) (K := (fun r => k (.c (.int .i64 r)) [])) he (leads_ren [] (l := [(0, .c (.imm (.int .i64) a)), (1, .c (.int .i64 k_)), (5, .c (.int .i64 (0:Int)))]) (st' := []) rfl rfl trivial ⟨.inl rfl, rfl, rfl, trivial⟩) ?_
  rintro ⟨k_1, i⟩ J1 he
  refine And.intro (fun hb => ?_) (fun hb => ?_)
  · have he := ok_t he hb
    have he := ok_rq he
    refine And.intro he.1 ?_
    have he := he.2
    refine And.intro (fun hb => ?_) (fun hb => ?_)
    · have he := ok_t he hb
      have he := ok_some he
      exact ⟨rfl, _, _, Leads.refl _ _, he⟩
    · have he := ok_f he hb
      have he := ok_rq he
      refine And.intro he.1 ?_
      have he := he.2
      have he := ok_rq he
      refine And.intro he.1 ?_
      have he := he.2
      have he := ok_some he
      exact ⟨((k_1 + (1:Int)), (i + (1:Int))), he, (leads_ren [] (l := [(0, .c (.imm (.int .i64) a)), (1, .c (.int .i64 (k_1 + (1:Int)))), (5, .c (.int .i64 (i + (1:Int))))]) (st' := []) rfl rfl trivial ⟨.inl rfl, rfl, rfl, trivial⟩)⟩
  · have he := ok_f he hb
    have he := ok_some he
    exact ⟨rfl, _, _, Leads.refl _ _, he⟩

end Go.AE.Y
