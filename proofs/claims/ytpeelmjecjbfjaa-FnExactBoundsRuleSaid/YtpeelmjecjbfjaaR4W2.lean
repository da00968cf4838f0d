/-
  Walks: each function keeps the contract that its model gives. No conditions.
-/
import Derived.Test.YtpeelmjecjbfjaaR4Tab
import Derived.Test.YtpeelmjecjbfjaaR4W1
namespace Go.AE.Y
open Go Go.AE Go.Proofs
set_option linter.unusedVariables false
set_option maxHeartbeats 2000000
set_option maxRecDepth 100000

noncomputable def c_spec_DomainsValid : Con := fun args st => match args, st with
  | [.agg [.imm (.int .i64) m_0, .imm (.pair (.int .i64) (.pair (.sl (.int .i64)) (.pair (.sl (.int .i64)) (.pair (.int .i64) (.sl (.sl (.int .i64))))))) m_1], .c (.imm (.sl .bool) d)], [] => .opt (Bool) (spec_DomainsValid (m_0, m_1) d) (fun r => .ret (.c (.bool r)) [])
  | _, _ => .fail

noncomputable def C_spec_DomainsValid : Cfg := { y := tys, n := 12, h := 0, tab := [(196, c_spec_ModelValid), (221, c_spec_l8Fits)], cut := [], hand := [], good := [], deep := [], sched := [] }

theorem t_spec_DomainsValid : TabOk Try.prog C_spec_DomainsValid := by
  refine tabOk_of ?_
  simp only [C_spec_DomainsValid, List.forall_mem_cons]
  exact ⟨k_spec_ModelValid, k_spec_l8Fits, fun p h => by cases h⟩

theorem k_spec_DomainsValid : Entry Try.prog 137 c_spec_DomainsValid := by
  refine entry_by (C := C_spec_DomainsValid) mixed tys_ok t_spec_DomainsValid (fn := Try.f137) (c := bd Try.f137) (by kernel_rfl) (by kernel_rfl) (by kernel_rfl) (by kernel_rfl) ?_
  intro args st k he
  unfold c_spec_DomainsValid at he
  split at he
  rotate_left
  · exact he.elim
  rename_i m_0 m_1 d
  have he : Ok (spec_DomainsValid (m_0, m_1) d) (fun r => k (.c (.bool r)) []) := he
  refine ⟨rfl, rfl, ?_⟩
  obtain ⟨r1_, hr, he⟩ := ok_bind he
  refine ⟨r1_, hr, ?_⟩
  refine And.intro (fun hb => ?_) (fun hb => ?_)
  · have he := ok_t he hb
    obtain ⟨r2_, hr, he⟩ := ok_bind he
    refine ⟨r2_, hr, ?_⟩
    have he := ok_some he
    exact ⟨rfl, _, _, (leads_ren [] (l := [(4, .c (.bool r2_))]) (st' := []) rfl rfl trivial ⟨.inl rfl, trivial⟩), he⟩
  · have he := ok_f he hb
    have he := ok_some he
    exact ⟨rfl, _, _, (leads_ren [] (l := [(4, .c (.bool false))]) (st' := []) rfl rfl trivial ⟨.inr rfl, trivial⟩), he⟩

noncomputable def c_spec_l8Empty : Con := fun args st => match args, st with
  | [.c (.imm (.sl .bool) d)], [] => .opt (Bool) (spec_l8Empty d) (fun r => .ret (.c (.bool r)) [])
  | _, _ => .fail

noncomputable def C_spec_l8Empty : Cfg := { y := tys, n := 33, h := 0, tab := [], cut := [], hand := [], good := [], deep := [], sched := [] }

theorem t_spec_l8Empty : TabOk Try.prog C_spec_l8Empty := tabOk_of (fun p h => by cases h)

theorem k_spec_l8Empty : Entry Try.prog 138 c_spec_l8Empty := by
  refine entry_by (C := C_spec_l8Empty) mixed tys_ok t_spec_l8Empty (fn := Try.f138) (c := bd Try.f138) (by kernel_rfl) (by kernel_rfl) (by kernel_rfl) (by kernel_rfl) ?_
  intro args st k he
  unfold c_spec_l8Empty at he
  split at he
  rotate_left
  · exact he.elim
  rename_i d
  have he : Ok (spec_l8Empty d) (fun r => k (.c (.bool r)) []) := he
  refine ⟨rfl, rfl, ?_⟩
  refine loop_model mixed tys_ok t_spec_l8Empty (S := Int) (I := (fun i => (envOf [(0, .c (.imm (.sl .bool) d)), (3, .c (.int .i64 i))], []))) (f := spec_l8Empty_l1 d) (K := (fun r => k (.c (.bool r)) [])) he (leads_ren [] (l := [(0, .c (.imm (.sl .bool) d)), (3, .c (.int .i64 (0:Int)))]) (st' := []) rfl rfl trivial ⟨.inl rfl, rfl, trivial⟩) ?_
  rintro i J1 he
  refine And.intro (fun hb => ?_) (fun hb => ?_)
  · have he := ok_t he hb
    refine loop_model mixed tys_ok t_spec_l8Empty (S := Bool × Int) (I := (fun (some_, k_) => (envOf [(0, .c (.imm (.sl .bool) d)), (3, .c (.int .i64 i)), (4, .c (.bool some_)), (5, .c (.int .i64 k_))], []))) (f := spec_l8Empty_l2 d i) (K := (LK J1 (fun r => k (.c (.bool r)) []))) he (leads_ren [] (l := [(0, .c (.imm (.sl .bool) d)), (3, .c (.int .i64 i)), (4, .c (.bool false)), (5, .c (.int .i64 (0:Int)))]) (st' := []) rfl rfl trivial ⟨.inl rfl, rfl, .inr rfl, rfl, trivial⟩) ?_
    rintro ⟨some_, k_⟩ J2 he
    have he := ok_rq he
    refine And.intro he.1 ?_
    have he := he.2
    refine And.intro (fun hb => ?_) (fun hb => ?_)
    · have he := ok_t he hb
      refine And.intro (fun hb => ?_) (fun hb => ?_)
      · have he := ok_f he hb
        have he := ok_rq he
        refine And.intro he.1 ?_
        have he := he.2
        have he := ok_rq he
        refine And.intro he.1 ?_
        have he := he.2
        have he := ok_rq he
        refine And.intro he.1 ?_
        have he := he.2
        have he := ok_some he
        exact ⟨(((d.getD i.toNat []).getD k_.toNat false), (k_ + (1:Int))), he, (leads_ren [] (l := [(0, .c (.imm (.sl .bool) d)), (3, .c (.int .i64 i)), (4, .c (.bool ((d.getD i.toNat []).getD k_.toNat false))), (5, .c (.int .i64 (k_ + (1:Int))))]) (st' := []) rfl rfl trivial ⟨.inl rfl, rfl, .inl rfl, rfl, trivial⟩)⟩
      · have he := ok_t he hb
        have he := ok_rq he
        refine And.intro he.1 ?_
        have he := he.2
        have he := ok_some he
        exact ⟨(true, (k_ + (1:Int))), he, (leads_ren [] (l := [(0, .c (.imm (.sl .bool) d)), (3, .c (.int .i64 i)), (4, .c (.bool true)), (5, .c (.int .i64 (k_ + (1:Int))))]) (st' := []) rfl rfl trivial ⟨.inl rfl, rfl, .inr rfl, rfl, trivial⟩)⟩
    · have he := ok_f he hb
      refine And.intro (fun hb => ?_) (fun hb => ?_)
      · have he := ok_t he hb
        have he := ok_some he
        exact ⟨rfl, _, _, Leads.refl _ _, he⟩
      · have he := ok_f he hb
        have he := ok_rq he
        refine And.intro he.1 ?_
        have he := he.2
        have he := ok_some he
        exact ⟨(i + (1:Int)), he, (leads_ren [] (l := [(0, .c (.imm (.sl .bool) d)), (3, .c (.int .i64 (i + (1:Int))))]) (st' := []) rfl rfl trivial ⟨.inl rfl, rfl, trivial⟩)⟩
  · have he := ok_f he hb
    have he := ok_some he
    exact ⟨rfl, _, _, Leads.refl _ _, he⟩

noncomputable def c_spec_l8Best : Con := fun args st => match args, st with
  | [.c (.int .i64 coef), .c (.imm .bool d)], [] => .opt (Int) (spec_l8Best coef d) (fun r => .ret (.c (.int .i64 r)) [])
  | _, _ => .fail

noncomputable def C_spec_l8Best : Cfg := { y := tys, n := 33, h := 0, tab := [], cut := [], hand := [], good := [], deep := [], sched := [] }

theorem t_spec_l8Best : TabOk Try.prog C_spec_l8Best := tabOk_of (fun p h => by cases h)

theorem k_spec_l8Best : Entry Try.prog 139 c_spec_l8Best := by
  refine entry_by (C := C_spec_l8Best) mixed tys_ok t_spec_l8Best (fn := Try.f139) (c := bd Try.f139) (by kernel_rfl) (by kernel_rfl) (by kernel_rfl) (by kernel_rfl) ?_
  intro args st k he
  unfold c_spec_l8Best at he
  split at he
  rotate_left
  · exact he.elim
  rename_i coef d
  have he : Ok (spec_l8Best coef d) (fun r => k (.c (.int .i64 r)) []) := he
  refine ⟨rfl, rfl, ?_⟩
  refine loop_model mixed tys_ok t_spec_l8Best (S := Int × Bool × Int) (I := (fun (best, seen, k_) => (envOf [(0, .c (.int .i64 coef)), (1, .c (.imm .bool d)), (5, .c (.int .i64 best)), (6, .c (.bool seen)), (7, .c (.int .i64 k_))], []))) (f := spec_l8Best_l1 coef d) (K := (fun r => k (.c (.int .i64 r)) [])) he (leads_ren [] (l := [(0, .c (.int .i64 coef)), (1, .c (.imm .bool d)), (5, .c (.int .i64 (0:Int))), (6, .c (.bool false)), (7, .c (.int .i64 (0:Int)))]) (st' := []) rfl rfl trivial ⟨rfl, .inl rfl, rfl, .inr rfl, rfl, trivial⟩) ?_
  rintro ⟨best, seen, k_⟩ J1 he
  refine And.intro (fun hb => ?_) (fun hb => ?_)
  · have he := ok_t he hb
    have he := ok_rq he
    refine And.intro he.1 ?_
    have he := he.2
    refine And.intro (fun hb => ?_) (fun hb => ?_)
    · have he := ok_t he hb
      refine And.intro (fun hb => ?_) (fun hb => ?_)
      · have he := ok_f he hb
        have he := ok_rq he
        refine And.intro he.1 ?_
        have he := he.2
        refine And.intro (fun hb => ?_) (fun hb => ?_)
        · have he := ok_t he hb
          have he := ok_rq he
          refine And.intro he.1 ?_
          have he := he.2
          have he := ok_rq he
          refine And.intro he.1 ?_
          have he := he.2
          have he := ok_some he
          exact ⟨((coef * k_), true, (k_ + (1:Int))), he, (leads_ren [] (l := [(0, .c (.int .i64 coef)), (1, .c (.imm .bool d)), (5, .c (.int .i64 (coef * k_))), (6, .c (.bool true)), (7, .c (.int .i64 (k_ + (1:Int))))]) (st' := []) rfl rfl trivial ⟨rfl, .inl rfl, rfl, .inr rfl, rfl, trivial⟩)⟩
        · have he := ok_f he hb
          have he := ok_rq he
          refine And.intro he.1 ?_
          have he := he.2
          have he := ok_some he
          exact ⟨(best, seen, (k_ + (1:Int))), he, (leads_ren [] (l := [(0, .c (.int .i64 coef)), (1, .c (.imm .bool d)), (5, .c (.int .i64 best)), (6, .c (.bool seen)), (7, .c (.int .i64 (k_ + (1:Int))))]) (st' := []) rfl rfl trivial ⟨rfl, .inl rfl, rfl, .inl rfl, rfl, trivial⟩)⟩
      · have he := ok_t he hb
        have he := ok_rq he
        refine And.intro he.1 ?_
        have he := he.2
        have he := ok_rq he
        refine And.intro he.1 ?_
        have he := he.2
        have he := ok_some he
        exact ⟨((coef * k_), true, (k_ + (1:Int))), he, (leads_ren [] (l := [(0, .c (.int .i64 coef)), (1, .c (.imm .bool d)), (5, .c (.int .i64 (coef * k_))), (6, .c (.bool true)), (7, .c (.int .i64 (k_ + (1:Int))))]) (st' := []) rfl rfl trivial ⟨rfl, .inl rfl, rfl, .inr rfl, rfl, trivial⟩)⟩
    · have he := ok_f he hb
      have he := ok_rq he
      refine And.intro he.1 ?_
      have he := he.2
      have he := ok_some he
      exact ⟨(best, seen, (k_ + (1:Int))), he, (leads_ren [] (l := [(0, .c (.int .i64 coef)), (1, .c (.imm .bool d)), (5, .c (.int .i64 best)), (6, .c (.bool seen)), (7, .c (.int .i64 (k_ + (1:Int))))]) (st' := []) rfl rfl trivial ⟨rfl, .inl rfl, rfl, .inl rfl, rfl, trivial⟩)⟩
  · have he := ok_f he hb
    have he := ok_some he
    exact ⟨rfl, _, _, Leads.refl _ _, he⟩

noncomputable def c_spec_l8Copy : Con := fun args st => match args, st with
  | [.c (.imm (.sl .bool) d)], [] => .opt ((List (List Bool))) (spec_l8Copy d) (fun r => .ret (.c (.own 900 false)) [(900, .sl 37 (.sl .bool) r (.deep true .no))])
  | _, _ => .fail

noncomputable def C_spec_l8Copy : Cfg := { y := tys, n := 22, h := 0, tab := [], cut := [], hand := [], good := [], deep := [5, 19], sched := [] }

theorem t_spec_l8Copy : TabOk Try.prog C_spec_l8Copy := tabOk_of (fun p h => by cases h)

theorem k_spec_l8Copy : Entry Try.prog 140 c_spec_l8Copy := by
  refine entry_by (C := C_spec_l8Copy) mixed tys_ok t_spec_l8Copy (fn := Try.f140) (c := bd Try.f140) (by kernel_rfl) (by kernel_rfl) (by kernel_rfl) (by kernel_rfl) ?_
  intro args st k he
  unfold c_spec_l8Copy at he
  split at he
  rotate_left
  · exact he.elim
  rename_i d
  have he : Ok (spec_l8Copy d) (fun r => k (.c (.own 900 false)) [(900, .sl 37 (.sl .bool) r (.deep true .no))]) := he
  refine ⟨rfl, rfl, ?_⟩
  refine loop_model mixed tys_ok t_spec_l8Copy (S := Int × (List (List Bool))) (I := (fun (i, out) => (envOf [(0, .c (.imm (.sl .bool) d)), (3, .c (.own 10000000 false)), (4, .c (.int .i64 i))], [(10000000, .sl 37 (.sl .bool) out (.deep true .no))]))) (f := spec_l8Copy_l1 d) (K := (fun r => k (.c (.own 900 false)) [(900, .sl 37 (.sl .bool) r (.deep true .no))])) he (leads_ren [(10000000, 5)] (l := [(0, .c (.imm (.sl .bool) d)), (3, .c (.own 10000000 false)), (4, .c (.int .i64 (0:Int)))]) (st' := [(10000000, .sl 37 (.sl .bool) ([] : List (List Bool)) (.deep true .no))]) rfl rfl ⟨⟨rfl, rfl⟩, trivial⟩ ⟨.inl rfl, ⟨⟨rfl, rfl⟩, trivial⟩, rfl, trivial⟩) ?_
  rintro ⟨i, out⟩ J1 he
  refine And.intro (fun hb => ?_) (fun hb => ?_)
  · have he := ok_t he hb
    have he := ok_rq he
    refine And.intro he.1 ?_
    have he := he.2
    have he := ok_rq he
    refine And.intro he.1 ?_
    have he := he.2
    have he := ok_rq he
    refine And.intro he.1 ?_
    have he := he.2
    have he := ok_rq he
    refine And.intro he.1 ?_
    have he := he.2
    have he := ok_some he
    exact ⟨((i + (1:Int)), (out ++ [(([] : List Bool) ++ (d.getD i.toNat []))])), he, (leads_ren [(10000000, 20)] (l := [(0, .c (.imm (.sl .bool) d)), (3, .c (.own 10000000 false)), (4, .c (.int .i64 (i + (1:Int))))]) (st' := [(10000000, .sl 37 (.sl .bool) (out ++ [(([] : List Bool) ++ (d.getD i.toNat []))]) (.deep true .no))]) rfl rfl ⟨⟨rfl, rfl⟩, trivial⟩ ⟨.inl rfl, ⟨⟨rfl, rfl⟩, trivial⟩, rfl, trivial⟩)⟩
  · have he := ok_f he hb
    have he := ok_some he
    exact ⟨rfl, _, _, (leads_ren [(900, 10000000)] (l := [(2, .c (.own 900 false))]) (st' := [(900, .sl 37 (.sl .bool) out (.deep true .no))]) rfl rfl ⟨⟨rfl, rfl⟩, trivial⟩ ⟨⟨⟨rfl, rfl⟩, trivial⟩, trivial⟩), he⟩

noncomputable def c_spec_BoundsRule : Con := fun args st => match args, st with
  | [.agg [.imm (.int .i64) a0_0, .imm (.pair (.int .i64) (.pair (.sl (.int .i64)) (.pair (.sl (.int .i64)) (.pair (.int .i64) (.sl (.sl (.int .i64))))))) a0_1], .c (.int .i64 a1), .c (.imm (.sl .bool) a2)], [] => .opt (Bool × (List (List Bool))) (spec_BoundsRule (a0_0, a0_1) a1 a2) (fun r => .ret (.tup [.c (.own 900 false), .c (.bool r.1)]) [(900, .sl 37 (.sl .bool) r.2 (.deep true .no))])
  | _, _ => .fail

noncomputable def C_spec_BoundsRule : Cfg := { y := tys, n := 136, h := 0, tab := [(137, c_spec_DomainsValid), (138, c_spec_l8Empty), (139, c_spec_l8Best), (140, c_spec_l8Copy)], cut := [], hand := [], good := [], deep := [44], sched := [(8, (.first 0 (.first 1 (.first 3 (.first 6 (.first 7 (.first 9 (.alt 2 (.first 4 (.first 5 (.alt 8 (.first 10 (.first 11 (.first 12 (.first 13 (.alt 14 (.first 15 (.first 16 .done)) .stop))))) .stop))) (.alt 8 (.first 10 (.first 11 (.first 12 (.first 13 (.alt 2 (.first 4 (.first 5 (.alt 14 (.first 15 (.first 16 .done)) .stop))) .stop))))) .stop))))))))), (14, (.first 0 (.first 1 (.first 3 (.first 6 (.first 7 (.first 8 (.first 9 (.alt 2 (.first 4 (.first 5 (.alt 10 (.first 11 (.first 12 .done)) .stop))) .stop))))))))), (18, (.first 0 (.first 1 (.first 2 (.first 4 (.first 5 (.first 6 (.first 7 (.first 8 (.first 9 (.first 10 (.first 11 (.first 12 (.first 13 (.first 14 (.first 16 (.first 19 (.first 22 (.alt 3 (.alt 15 (.first 17 (.first 18 (.first 20 (.first 21 (.alt 23 (.first 24 (.first 25 (.first 26 (.alt 27 .done .stop)))) .stop))))) (.alt 23 (.alt 15 (.first 17 (.first 18 (.first 20 (.first 21 (.first 24 (.first 25 (.first 26 (.alt 27 .done .stop)))))))) .stop) .stop)) (.alt 15 (.first 17 (.first 18 (.first 20 (.first 21 (.alt 3 (.alt 23 (.first 24 (.first 25 (.first 26 (.alt 27 .done .stop)))) .stop) (.alt 23 (.first 24 (.first 25 (.alt 3 (.first 26 (.alt 27 .done .stop)) .stop))) .stop)))))) (.alt 23 (.alt 3 (.alt 15 (.first 17 (.first 18 (.first 20 (.first 21 (.first 24 (.first 25 (.first 26 (.alt 27 .done .stop)))))))) .stop) (.alt 15 (.first 17 (.first 18 (.first 20 (.first 21 (.first 24 (.first 25 (.alt 3 (.first 26 (.alt 27 .done .stop)) .stop))))))) .stop)) .stop)))))))))))))))))))))] }

theorem t_spec_BoundsRule : TabOk Try.prog C_spec_BoundsRule := by
  refine tabOk_of ?_
  simp only [C_spec_BoundsRule, List.forall_mem_cons]
  exact ⟨k_spec_DomainsValid, k_spec_l8Empty, k_spec_l8Best, k_spec_l8Copy, fun p h => by cases h⟩

theorem k_spec_BoundsRule : Entry Try.prog 43 c_spec_BoundsRule := by
  refine entry_by (C := C_spec_BoundsRule) mixed tys_ok t_spec_BoundsRule (fn := Try.f43) (c := bd Try.f43) (by kernel_rfl) (by kernel_rfl) (by kernel_rfl) (by kernel_rfl) ?_
  intro args st k he
  unfold c_spec_BoundsRule at he
  split at he
  rotate_left
  · exact he.elim
  rename_i a0_0 a0_1 a1 a2
  have he : Ok (spec_BoundsRule (a0_0, a0_1) a1 a2) (fun r => k (.tup [.c (.own 900 false), .c (.bool r.1)]) [(900, .sl 37 (.sl .bool) r.2 (.deep true .no))]) := he
  refine ⟨rfl, rfl, ?_⟩
  obtain ⟨r1_, hr, he⟩ := ok_bind he
  refine ⟨r1_, hr, ?_⟩
  refine And.intro (fun hb => ?_) (fun hb => ?_)
  · have he := ok_f he hb
    refine And.intro (fun hb => ?_) (fun hb => ?_)
    · have he := ok_f he hb
      refine And.intro (fun hb => ?_) (fun hb => ?_)
      · have he := ok_f he hb
        have he := ok_rq he
        refine And.intro he.1 ?_
        have he := he.2
        refine And.intro (fun hb => ?_) (fun hb => ?_)
        · have he := ok_f he hb
          obtain ⟨r2_, hr, he⟩ := ok_bind he
          refine ⟨r2_, hr, ?_⟩
          refine And.intro (fun hb => ?_) (fun hb => ?_)
          · have he := ok_t he hb
            have he := ok_some he
            exact ⟨rfl, _, _, (leads_ren [(900, 44)] (l := [(6, .c (.own 900 false)), (7, .c (.bool false))]) (st' := [(900, .sl 37 (.sl .bool) ([] : List (List Bool)) (.deep true .no))]) rfl rfl ⟨⟨rfl, rfl⟩, trivial⟩ ⟨⟨⟨rfl, rfl⟩, trivial⟩, .inr rfl, trivial⟩), he⟩
          · have he := ok_f he hb
            have he := ok_rq he
            refine And.intro he.1 ?_
            have he := he.2
            refine loop_model mixed tys_ok t_spec_BoundsRule (S := Int × Int) (I := (fun (i, i1) => (envOf [(2, .c (.imm (.sl .bool) a2)), (8, .c (.ptr 10000000 0)), (9, .c (.int .i64 i)), (10, .c (.int .i64 i1))], [(10000000, .rc [.int .i64 ((a0_0, a0_1).2.getD a1.toNat (0, ([], ([], (0, []))))).1, .imm (.int .i64) ((a0_0, a0_1).2.getD a1.toNat (0, ([], ([], (0, []))))).2.1, .imm (.int .i64) ((a0_0, a0_1).2.getD a1.toNat (0, ([], ([], (0, []))))).2.2.1, .int .i64 ((a0_0, a0_1).2.getD a1.toNat (0, ([], ([], (0, []))))).2.2.2.1, .imm (.sl (.int .i64)) ((a0_0, a0_1).2.getD a1.toNat (0, ([], ([], (0, []))))).2.2.2.2])]))) (f := spec_BoundsRule_l1 (a0_0, a0_1) a1 a2) (K := (fun r => k (.tup [.c (.own 900 false), .c (.bool r.1)]) [(900, .sl 37 (.sl .bool) r.2 (.deep true .no))])) he (leads_ren [(10000000, 8)] (l := [(2, .c (.imm (.sl .bool) a2)), (8, .c (.ptr 10000000 0)), (9, .c (.int .i64 (0:Int))), (10, .c (.int .i64 (0:Int)))]) (st' := [(10000000, .rc [.int .i64 ((a0_0, a0_1).2.getD a1.toNat (0, ([], ([], (0, []))))).1, .imm (.int .i64) ((a0_0, a0_1).2.getD a1.toNat (0, ([], ([], (0, []))))).2.1, .imm (.int .i64) ((a0_0, a0_1).2.getD a1.toNat (0, ([], ([], (0, []))))).2.2.1, .int .i64 ((a0_0, a0_1).2.getD a1.toNat (0, ([], ([], (0, []))))).2.2.2.1, .imm (.sl (.int .i64)) ((a0_0, a0_1).2.getD a1.toNat (0, ([], ([], (0, []))))).2.2.2.2])]) rfl rfl ⟨⟨rfl, .inl rfl, .inl rfl, rfl, .inl rfl, trivial⟩, trivial⟩ ⟨.inl rfl, ⟨⟨rfl, rfl⟩, rfl⟩, rfl, rfl, trivial⟩) ?_
            rintro ⟨i, i1⟩ J1 he
            refine And.intro (fun hb => ?_) (fun hb => ?_)
            · have he := ok_t he hb
              refine And.intro (by kernel_rfl) ?_
              have he := ok_rq he
              have hq1 := he.1
              have he := he.2
              have he := ok_rq he
              have hq2 := he.1
              have he := he.2
              have he := ok_rq he
              have hq3 := he.1
              have he := he.2
              obtain ⟨r4_, hq4, he⟩ := ok_bind he
              have he := ok_rq he
              have hq5 := he.1
              have he := he.2
              refine And.intro ?_ (And.intro ?_ (trivial))
              · skip
                refine And.intro hq1 ?_
                refine And.intro ?_ trivial
                refine And.intro hq2 ?_
                refine And.intro hq3 ?_
                refine And.intro ?_ trivial
                refine ⟨r4_, hq4, ?_⟩
                refine And.intro hq5 ?_
                have he := ok_rq he
                refine And.intro he.1 ?_
                have he := he.2
                have he := ok_some he
                exact ⟨((i + r4_), (i1 + (1:Int))), he, (leads_ren [] (l := [(2, .c (.imm (.sl .bool) a2)), (8, .c (.ptr 10000000 0)), (9, .c (.int .i64 (i + r4_))), (10, .c (.int .i64 (i1 + (1:Int))))]) (st' := [(10000000, .rc [.int .i64 ((a0_0, a0_1).2.getD a1.toNat (0, ([], ([], (0, []))))).1, .imm (.int .i64) ((a0_0, a0_1).2.getD a1.toNat (0, ([], ([], (0, []))))).2.1, .imm (.int .i64) ((a0_0, a0_1).2.getD a1.toNat (0, ([], ([], (0, []))))).2.2.1, .int .i64 ((a0_0, a0_1).2.getD a1.toNat (0, ([], ([], (0, []))))).2.2.2.1, .imm (.sl (.int .i64)) ((a0_0, a0_1).2.getD a1.toNat (0, ([], ([], (0, []))))).2.2.2.2])]) rfl rfl ⟨⟨rfl, .inl rfl, .inl rfl, rfl, .inl rfl, trivial⟩, trivial⟩ ⟨.inl rfl, ⟨⟨rfl, rfl⟩, rfl⟩, rfl, rfl, trivial⟩)⟩
              · skip
                refine And.intro hq2 ?_
                refine And.intro hq3 ?_
                refine And.intro ?_ trivial
                refine And.intro hq1 ?_
                refine And.intro ?_ trivial
                refine ⟨r4_, hq4, ?_⟩
                refine And.intro hq5 ?_
                have he := ok_rq he
                refine And.intro he.1 ?_
                have he := he.2
                have he := ok_some he
                exact ⟨((i + r4_), (i1 + (1:Int))), he, (leads_ren [] (l := [(2, .c (.imm (.sl .bool) a2)), (8, .c (.ptr 10000000 0)), (9, .c (.int .i64 (i + r4_))), (10, .c (.int .i64 (i1 + (1:Int))))]) (st' := [(10000000, .rc [.int .i64 ((a0_0, a0_1).2.getD a1.toNat (0, ([], ([], (0, []))))).1, .imm (.int .i64) ((a0_0, a0_1).2.getD a1.toNat (0, ([], ([], (0, []))))).2.1, .imm (.int .i64) ((a0_0, a0_1).2.getD a1.toNat (0, ([], ([], (0, []))))).2.2.1, .int .i64 ((a0_0, a0_1).2.getD a1.toNat (0, ([], ([], (0, []))))).2.2.2.1, .imm (.sl (.int .i64)) ((a0_0, a0_1).2.getD a1.toNat (0, ([], ([], (0, []))))).2.2.2.2])]) rfl rfl ⟨⟨rfl, .inl rfl, .inl rfl, rfl, .inl rfl, trivial⟩, trivial⟩ ⟨.inl rfl, ⟨⟨rfl, rfl⟩, rfl⟩, rfl, rfl, trivial⟩)⟩
            · have he := ok_f he hb
              obtain ⟨r5_, hr, he⟩ := ok_bind he
              refine ⟨r5_, hr, ?_⟩
              refine loop_model mixed tys_ok t_spec_BoundsRule (S := Int × (List (List Bool))) (I := (fun (i2, i5) => (envOf [(2, .c (.imm (.sl .bool) a2)), (8, .c (.ptr 10001000 0)), (9, .c (.int .i64 i)), (11, .c (.own 10001001 false)), (12, .c (.int .i64 i2))], [(10001000, .rc [.int .i64 ((a0_0, a0_1).2.getD a1.toNat (0, ([], ([], (0, []))))).1, .imm (.int .i64) ((a0_0, a0_1).2.getD a1.toNat (0, ([], ([], (0, []))))).2.1, .imm (.int .i64) ((a0_0, a0_1).2.getD a1.toNat (0, ([], ([], (0, []))))).2.2.1, .int .i64 ((a0_0, a0_1).2.getD a1.toNat (0, ([], ([], (0, []))))).2.2.2.1, .imm (.sl (.int .i64)) ((a0_0, a0_1).2.getD a1.toNat (0, ([], ([], (0, []))))).2.2.2.2]), (10001001, .sl 37 (.sl .bool) i5 (.deep true .no))]))) (f := spec_BoundsRule_l2 (a0_0, a0_1) a1 a2 i) (K := (LK J1 (fun r => k (.tup [.c (.own 900 false), .c (.bool r.1)]) [(900, .sl 37 (.sl .bool) r.2 (.deep true .no))]))) he (leads_ren [(10001000, 10000000), (10001001, 75900)] (l := [(2, .c (.imm (.sl .bool) a2)), (8, .c (.ptr 10001000 0)), (9, .c (.int .i64 i)), (11, .c (.own 10001001 false)), (12, .c (.int .i64 (0:Int)))]) (st' := [(10001000, .rc [.int .i64 ((a0_0, a0_1).2.getD a1.toNat (0, ([], ([], (0, []))))).1, .imm (.int .i64) ((a0_0, a0_1).2.getD a1.toNat (0, ([], ([], (0, []))))).2.1, .imm (.int .i64) ((a0_0, a0_1).2.getD a1.toNat (0, ([], ([], (0, []))))).2.2.1, .int .i64 ((a0_0, a0_1).2.getD a1.toNat (0, ([], ([], (0, []))))).2.2.2.1, .imm (.sl (.int .i64)) ((a0_0, a0_1).2.getD a1.toNat (0, ([], ([], (0, []))))).2.2.2.2]), (10001001, .sl 37 (.sl .bool) r5_ (.deep true .no))]) rfl rfl ⟨⟨rfl, .inl rfl, .inl rfl, rfl, .inl rfl, trivial⟩, ⟨rfl, rfl⟩, trivial⟩ ⟨.inl rfl, ⟨⟨rfl, rfl⟩, rfl⟩, rfl, ⟨⟨rfl, rfl⟩, trivial⟩, rfl, trivial⟩) ?_
              rintro ⟨i2, i5⟩ J2 he
              refine And.intro (fun hb => ?_) (fun hb => ?_)
              · have he := ok_t he hb
                have he := ok_rq he
                refine And.intro he.1 ?_
                have he := he.2
                refine And.intro (by kernel_rfl) ?_
                have he := ok_rq he
                refine And.intro he.1 ?_
                have he := he.2
                refine And.intro ?_ trivial
                have he := ok_rq he
                refine And.intro he.1 ?_
                have he := he.2
                refine And.intro ?_ trivial
                obtain ⟨r8_, hr, he⟩ := ok_bind he
                refine ⟨r8_, hr, ?_⟩
                have he := ok_rq he
                refine And.intro he.1 ?_
                have he := he.2
                refine loop_model mixed tys_ok t_spec_BoundsRule (S := Int × (List (List Bool))) (I := (fun (i6, i7) => (envOf [(2, .c (.imm (.sl .bool) a2)), (8, .c (.ptr 10003000 0)), (9, .c (.int .i64 i)), (11, .c (.own 10003001 false)), (12, .c (.int .i64 i2)), (13, .c (.int .i64 (((a0_0, a0_1).2.getD a1.toNat (0, ([], ([], (0, []))))).2.1.getD i2.toNat 0))), (14, .c (.int .i64 (i - r8_))), (15, .c (.int .i64 i6))], [(10003000, .rc [.int .i64 ((a0_0, a0_1).2.getD a1.toNat (0, ([], ([], (0, []))))).1, .imm (.int .i64) ((a0_0, a0_1).2.getD a1.toNat (0, ([], ([], (0, []))))).2.1, .imm (.int .i64) ((a0_0, a0_1).2.getD a1.toNat (0, ([], ([], (0, []))))).2.2.1, .int .i64 ((a0_0, a0_1).2.getD a1.toNat (0, ([], ([], (0, []))))).2.2.2.1, .imm (.sl (.int .i64)) ((a0_0, a0_1).2.getD a1.toNat (0, ([], ([], (0, []))))).2.2.2.2]), (10003001, .sl 37 (.sl .bool) i7 (.deep true .no))]))) (f := spec_BoundsRule_l3 (a0_0, a0_1) a1 a2 i i2 r8_) (K := (LK J2 (LK J1 (fun r => k (.tup [.c (.own 900 false), .c (.bool r.1)]) [(900, .sl 37 (.sl .bool) r.2 (.deep true .no))])))) he (leads_ren [(10003000, 10001000), (10003001, 10001001)] (l := [(2, .c (.imm (.sl .bool) a2)), (8, .c (.ptr 10003000 0)), (9, .c (.int .i64 i)), (11, .c (.own 10003001 false)), (12, .c (.int .i64 i2)), (13, .c (.int .i64 (((a0_0, a0_1).2.getD a1.toNat (0, ([], ([], (0, []))))).2.1.getD i2.toNat 0))), (14, .c (.int .i64 (i - r8_))), (15, .c (.int .i64 (0:Int)))]) (st' := [(10003000, .rc [.int .i64 ((a0_0, a0_1).2.getD a1.toNat (0, ([], ([], (0, []))))).1, .imm (.int .i64) ((a0_0, a0_1).2.getD a1.toNat (0, ([], ([], (0, []))))).2.1, .imm (.int .i64) ((a0_0, a0_1).2.getD a1.toNat (0, ([], ([], (0, []))))).2.2.1, .int .i64 ((a0_0, a0_1).2.getD a1.toNat (0, ([], ([], (0, []))))).2.2.2.1, .imm (.sl (.int .i64)) ((a0_0, a0_1).2.getD a1.toNat (0, ([], ([], (0, []))))).2.2.2.2]), (10003001, .sl 37 (.sl .bool) i5 (.deep true .no))]) rfl rfl ⟨⟨rfl, .inl rfl, .inl rfl, rfl, .inl rfl, trivial⟩, ⟨rfl, rfl⟩, trivial⟩ ⟨.inl rfl, ⟨⟨rfl, rfl⟩, rfl⟩, rfl, ⟨⟨rfl, rfl⟩, trivial⟩, rfl, rfl, rfl, rfl, trivial⟩) ?_
                rintro ⟨i6, i7⟩ J3 he
                have he := ok_rq he
                refine And.intro he.1 ?_
                have he := he.2
                refine And.intro (fun hb => ?_) (fun hb => ?_)
                · have he := ok_t he hb
                  refine And.intro (by kernel_rfl) ?_
                  have he := ok_rq he
                  refine And.intro he.1 ?_
                  have he := he.2
                  have he := ok_rq he
                  refine And.intro he.1 ?_
                  have he := he.2
                  have he := ok_rq he
                  refine And.intro he.1 ?_
                  have he := he.2
                  refine And.intro (fun hb => ?_) (fun hb => ?_)
                  · have he := ok_t he hb
                    have he := ok_rq he
                    have hq1 := he.1
                    have he := he.2
                    have he := ok_rq he
                    have hq2 := he.1
                    have he := he.2
                    have he := ok_rq he
                    have hq3 := he.1
                    have he := he.2
                    have he := ok_rq he
                    have hq4 := he.1
                    have he := he.2
                    refine And.intro ?_ (And.intro ?_ (And.intro ?_ (trivial)))
                    · skip
                      refine And.intro ?_ (And.intro ?_ (trivial))
                      · skip
                        refine And.intro hq1 ?_
                        refine And.intro hq2 ?_
                        refine And.intro hq3 ?_
                        refine And.intro ?_ trivial
                        refine And.intro hq4 ?_
                        refine And.intro ?_ trivial
                        have he := ok_rq he
                        refine And.intro he.1 ?_
                        have he := he.2
                        have he := ok_some he
                        exact ⟨((i6 + (1:Int)), (i7.set (((a0_0, a0_1).2.getD a1.toNat (0, ([], ([], (0, []))))).2.1.getD i2.toNat 0).toNat ((i7.getD (((a0_0, a0_1).2.getD a1.toNat (0, ([], ([], (0, []))))).2.1.getD i2.toNat 0).toNat []).set i6.toNat (decide (((a0_0, a0_1).2.getD a1.toNat (0, ([], ([], (0, []))))).2.2.2.1 ≤ ((i - r8_) + ((((a0_0, a0_1).2.getD a1.toNat (0, ([], ([], (0, []))))).2.2.1.getD i2.toNat 0) * i6))))))), he, ((leads_close [10003001] rfl).trans (leads_ren [] (l := [(2, .c (.imm (.sl .bool) a2)), (8, .c (.ptr 10003000 0)), (9, .c (.int .i64 i)), (11, .c (.own 10003001 false)), (12, .c (.int .i64 i2)), (13, .c (.int .i64 (((a0_0, a0_1).2.getD a1.toNat (0, ([], ([], (0, []))))).2.1.getD i2.toNat 0))), (14, .c (.int .i64 (i - r8_))), (15, .c (.int .i64 (i6 + (1:Int))))]) (st' := [(10003000, .rc [.int .i64 ((a0_0, a0_1).2.getD a1.toNat (0, ([], ([], (0, []))))).1, .imm (.int .i64) ((a0_0, a0_1).2.getD a1.toNat (0, ([], ([], (0, []))))).2.1, .imm (.int .i64) ((a0_0, a0_1).2.getD a1.toNat (0, ([], ([], (0, []))))).2.2.1, .int .i64 ((a0_0, a0_1).2.getD a1.toNat (0, ([], ([], (0, []))))).2.2.2.1, .imm (.sl (.int .i64)) ((a0_0, a0_1).2.getD a1.toNat (0, ([], ([], (0, []))))).2.2.2.2]), (10003001, .sl 37 (.sl .bool) (i7.set (((a0_0, a0_1).2.getD a1.toNat (0, ([], ([], (0, []))))).2.1.getD i2.toNat 0).toNat ((i7.getD (((a0_0, a0_1).2.getD a1.toNat (0, ([], ([], (0, []))))).2.1.getD i2.toNat 0).toNat []).set i6.toNat (decide (((a0_0, a0_1).2.getD a1.toNat (0, ([], ([], (0, []))))).2.2.2.1 ≤ ((i - r8_) + ((((a0_0, a0_1).2.getD a1.toNat (0, ([], ([], (0, []))))).2.2.1.getD i2.toNat 0) * i6)))))) (.deep true .no))]) rfl rfl (by exact ⟨⟨rfl, .inl rfl, .inl rfl, rfl, .inl rfl, trivial⟩, ⟨rfl, rfl⟩, trivial⟩) (by exact ⟨.inl rfl, ⟨⟨rfl, rfl⟩, rfl⟩, rfl, ⟨⟨rfl, rfl⟩, trivial⟩, rfl, rfl, rfl, rfl, trivial⟩)))⟩
                      · skip
                        refine And.intro ?_ trivial
                        refine And.intro hq1 ?_
                        refine And.intro hq2 ?_
                        refine And.intro hq3 ?_
                        refine And.intro hq4 ?_
                        refine And.intro ?_ trivial
                        have he := ok_rq he
                        refine And.intro he.1 ?_
                        have he := he.2
                        have he := ok_some he
                        exact ⟨((i6 + (1:Int)), (i7.set (((a0_0, a0_1).2.getD a1.toNat (0, ([], ([], (0, []))))).2.1.getD i2.toNat 0).toNat ((i7.getD (((a0_0, a0_1).2.getD a1.toNat (0, ([], ([], (0, []))))).2.1.getD i2.toNat 0).toNat []).set i6.toNat (decide (((a0_0, a0_1).2.getD a1.toNat (0, ([], ([], (0, []))))).2.2.2.1 ≤ ((i - r8_) + ((((a0_0, a0_1).2.getD a1.toNat (0, ([], ([], (0, []))))).2.2.1.getD i2.toNat 0) * i6))))))), he, ((leads_close [10003001] rfl).trans (leads_ren [] (l := [(2, .c (.imm (.sl .bool) a2)), (8, .c (.ptr 10003000 0)), (9, .c (.int .i64 i)), (11, .c (.own 10003001 false)), (12, .c (.int .i64 i2)), (13, .c (.int .i64 (((a0_0, a0_1).2.getD a1.toNat (0, ([], ([], (0, []))))).2.1.getD i2.toNat 0))), (14, .c (.int .i64 (i - r8_))), (15, .c (.int .i64 (i6 + (1:Int))))]) (st' := [(10003000, .rc [.int .i64 ((a0_0, a0_1).2.getD a1.toNat (0, ([], ([], (0, []))))).1, .imm (.int .i64) ((a0_0, a0_1).2.getD a1.toNat (0, ([], ([], (0, []))))).2.1, .imm (.int .i64) ((a0_0, a0_1).2.getD a1.toNat (0, ([], ([], (0, []))))).2.2.1, .int .i64 ((a0_0, a0_1).2.getD a1.toNat (0, ([], ([], (0, []))))).2.2.2.1, .imm (.sl (.int .i64)) ((a0_0, a0_1).2.getD a1.toNat (0, ([], ([], (0, []))))).2.2.2.2]), (10003001, .sl 37 (.sl .bool) (i7.set (((a0_0, a0_1).2.getD a1.toNat (0, ([], ([], (0, []))))).2.1.getD i2.toNat 0).toNat ((i7.getD (((a0_0, a0_1).2.getD a1.toNat (0, ([], ([], (0, []))))).2.1.getD i2.toNat 0).toNat []).set i6.toNat (decide (((a0_0, a0_1).2.getD a1.toNat (0, ([], ([], (0, []))))).2.2.2.1 ≤ ((i - r8_) + ((((a0_0, a0_1).2.getD a1.toNat (0, ([], ([], (0, []))))).2.2.1.getD i2.toNat 0) * i6)))))) (.deep true .no))]) rfl rfl (by exact ⟨⟨rfl, .inl rfl, .inl rfl, rfl, .inl rfl, trivial⟩, ⟨rfl, rfl⟩, trivial⟩) (by exact ⟨.inl rfl, ⟨⟨rfl, rfl⟩, rfl⟩, rfl, ⟨⟨rfl, rfl⟩, trivial⟩, rfl, rfl, rfl, rfl, trivial⟩)))⟩
                    · skip
                      refine And.intro hq1 ?_
                      refine And.intro hq2 ?_
                      refine And.intro hq3 ?_
                      refine And.intro ?_ (And.intro ?_ (trivial))
                      · skip
                        refine And.intro ?_ trivial
                        refine And.intro hq4 ?_
                        refine And.intro ?_ trivial
                        have he := ok_rq he
                        refine And.intro he.1 ?_
                        have he := he.2
                        have he := ok_some he
                        exact ⟨((i6 + (1:Int)), (i7.set (((a0_0, a0_1).2.getD a1.toNat (0, ([], ([], (0, []))))).2.1.getD i2.toNat 0).toNat ((i7.getD (((a0_0, a0_1).2.getD a1.toNat (0, ([], ([], (0, []))))).2.1.getD i2.toNat 0).toNat []).set i6.toNat (decide (((a0_0, a0_1).2.getD a1.toNat (0, ([], ([], (0, []))))).2.2.2.1 ≤ ((i - r8_) + ((((a0_0, a0_1).2.getD a1.toNat (0, ([], ([], (0, []))))).2.2.1.getD i2.toNat 0) * i6))))))), he, ((leads_close [10003001] rfl).trans (leads_ren [] (l := [(2, .c (.imm (.sl .bool) a2)), (8, .c (.ptr 10003000 0)), (9, .c (.int .i64 i)), (11, .c (.own 10003001 false)), (12, .c (.int .i64 i2)), (13, .c (.int .i64 (((a0_0, a0_1).2.getD a1.toNat (0, ([], ([], (0, []))))).2.1.getD i2.toNat 0))), (14, .c (.int .i64 (i - r8_))), (15, .c (.int .i64 (i6 + (1:Int))))]) (st' := [(10003000, .rc [.int .i64 ((a0_0, a0_1).2.getD a1.toNat (0, ([], ([], (0, []))))).1, .imm (.int .i64) ((a0_0, a0_1).2.getD a1.toNat (0, ([], ([], (0, []))))).2.1, .imm (.int .i64) ((a0_0, a0_1).2.getD a1.toNat (0, ([], ([], (0, []))))).2.2.1, .int .i64 ((a0_0, a0_1).2.getD a1.toNat (0, ([], ([], (0, []))))).2.2.2.1, .imm (.sl (.int .i64)) ((a0_0, a0_1).2.getD a1.toNat (0, ([], ([], (0, []))))).2.2.2.2]), (10003001, .sl 37 (.sl .bool) (i7.set (((a0_0, a0_1).2.getD a1.toNat (0, ([], ([], (0, []))))).2.1.getD i2.toNat 0).toNat ((i7.getD (((a0_0, a0_1).2.getD a1.toNat (0, ([], ([], (0, []))))).2.1.getD i2.toNat 0).toNat []).set i6.toNat (decide (((a0_0, a0_1).2.getD a1.toNat (0, ([], ([], (0, []))))).2.2.2.1 ≤ ((i - r8_) + ((((a0_0, a0_1).2.getD a1.toNat (0, ([], ([], (0, []))))).2.2.1.getD i2.toNat 0) * i6)))))) (.deep true .no))]) rfl rfl (by exact ⟨⟨rfl, .inl rfl, .inl rfl, rfl, .inl rfl, trivial⟩, ⟨rfl, rfl⟩, trivial⟩) (by exact ⟨.inl rfl, ⟨⟨rfl, rfl⟩, rfl⟩, rfl, ⟨⟨rfl, rfl⟩, trivial⟩, rfl, rfl, rfl, rfl, trivial⟩)))⟩
                      · skip
                        refine And.intro ?_ trivial
                        refine And.intro hq4 ?_
                        refine And.intro ?_ trivial
                        have he := ok_rq he
                        refine And.intro he.1 ?_
                        have he := he.2
                        have he := ok_some he
                        exact ⟨((i6 + (1:Int)), (i7.set (((a0_0, a0_1).2.getD a1.toNat (0, ([], ([], (0, []))))).2.1.getD i2.toNat 0).toNat ((i7.getD (((a0_0, a0_1).2.getD a1.toNat (0, ([], ([], (0, []))))).2.1.getD i2.toNat 0).toNat []).set i6.toNat (decide (((a0_0, a0_1).2.getD a1.toNat (0, ([], ([], (0, []))))).2.2.2.1 ≤ ((i - r8_) + ((((a0_0, a0_1).2.getD a1.toNat (0, ([], ([], (0, []))))).2.2.1.getD i2.toNat 0) * i6))))))), he, ((leads_close [10003001] rfl).trans (leads_ren [] (l := [(2, .c (.imm (.sl .bool) a2)), (8, .c (.ptr 10003000 0)), (9, .c (.int .i64 i)), (11, .c (.own 10003001 false)), (12, .c (.int .i64 i2)), (13, .c (.int .i64 (((a0_0, a0_1).2.getD a1.toNat (0, ([], ([], (0, []))))).2.1.getD i2.toNat 0))), (14, .c (.int .i64 (i - r8_))), (15, .c (.int .i64 (i6 + (1:Int))))]) (st' := [(10003000, .rc [.int .i64 ((a0_0, a0_1).2.getD a1.toNat (0, ([], ([], (0, []))))).1, .imm (.int .i64) ((a0_0, a0_1).2.getD a1.toNat (0, ([], ([], (0, []))))).2.1, .imm (.int .i64) ((a0_0, a0_1).2.getD a1.toNat (0, ([], ([], (0, []))))).2.2.1, .int .i64 ((a0_0, a0_1).2.getD a1.toNat (0, ([], ([], (0, []))))).2.2.2.1, .imm (.sl (.int .i64)) ((a0_0, a0_1).2.getD a1.toNat (0, ([], ([], (0, []))))).2.2.2.2]), (10003001, .sl 37 (.sl .bool) (i7.set (((a0_0, a0_1).2.getD a1.toNat (0, ([], ([], (0, []))))).2.1.getD i2.toNat 0).toNat ((i7.getD (((a0_0, a0_1).2.getD a1.toNat (0, ([], ([], (0, []))))).2.1.getD i2.toNat 0).toNat []).set i6.toNat (decide (((a0_0, a0_1).2.getD a1.toNat (0, ([], ([], (0, []))))).2.2.2.1 ≤ ((i - r8_) + ((((a0_0, a0_1).2.getD a1.toNat (0, ([], ([], (0, []))))).2.2.1.getD i2.toNat 0) * i6)))))) (.deep true .no))]) rfl rfl (by exact ⟨⟨rfl, .inl rfl, .inl rfl, rfl, .inl rfl, trivial⟩, ⟨rfl, rfl⟩, trivial⟩) (by exact ⟨.inl rfl, ⟨⟨rfl, rfl⟩, rfl⟩, rfl, ⟨⟨rfl, rfl⟩, trivial⟩, rfl, rfl, rfl, rfl, trivial⟩)))⟩
                    · skip
                      refine And.intro ?_ (And.intro ?_ (trivial))
                      · skip
                        refine And.intro ?_ trivial
                        refine And.intro hq1 ?_
                        refine And.intro hq2 ?_
                        refine And.intro hq3 ?_
                        refine And.intro hq4 ?_
                        refine And.intro ?_ trivial
                        have he := ok_rq he
                        refine And.intro he.1 ?_
                        have he := he.2
                        have he := ok_some he
                        exact ⟨((i6 + (1:Int)), (i7.set (((a0_0, a0_1).2.getD a1.toNat (0, ([], ([], (0, []))))).2.1.getD i2.toNat 0).toNat ((i7.getD (((a0_0, a0_1).2.getD a1.toNat (0, ([], ([], (0, []))))).2.1.getD i2.toNat 0).toNat []).set i6.toNat (decide (((a0_0, a0_1).2.getD a1.toNat (0, ([], ([], (0, []))))).2.2.2.1 ≤ ((i - r8_) + ((((a0_0, a0_1).2.getD a1.toNat (0, ([], ([], (0, []))))).2.2.1.getD i2.toNat 0) * i6))))))), he, ((leads_close [10003001] rfl).trans (leads_ren [] (l := [(2, .c (.imm (.sl .bool) a2)), (8, .c (.ptr 10003000 0)), (9, .c (.int .i64 i)), (11, .c (.own 10003001 false)), (12, .c (.int .i64 i2)), (13, .c (.int .i64 (((a0_0, a0_1).2.getD a1.toNat (0, ([], ([], (0, []))))).2.1.getD i2.toNat 0))), (14, .c (.int .i64 (i - r8_))), (15, .c (.int .i64 (i6 + (1:Int))))]) (st' := [(10003000, .rc [.int .i64 ((a0_0, a0_1).2.getD a1.toNat (0, ([], ([], (0, []))))).1, .imm (.int .i64) ((a0_0, a0_1).2.getD a1.toNat (0, ([], ([], (0, []))))).2.1, .imm (.int .i64) ((a0_0, a0_1).2.getD a1.toNat (0, ([], ([], (0, []))))).2.2.1, .int .i64 ((a0_0, a0_1).2.getD a1.toNat (0, ([], ([], (0, []))))).2.2.2.1, .imm (.sl (.int .i64)) ((a0_0, a0_1).2.getD a1.toNat (0, ([], ([], (0, []))))).2.2.2.2]), (10003001, .sl 37 (.sl .bool) (i7.set (((a0_0, a0_1).2.getD a1.toNat (0, ([], ([], (0, []))))).2.1.getD i2.toNat 0).toNat ((i7.getD (((a0_0, a0_1).2.getD a1.toNat (0, ([], ([], (0, []))))).2.1.getD i2.toNat 0).toNat []).set i6.toNat (decide (((a0_0, a0_1).2.getD a1.toNat (0, ([], ([], (0, []))))).2.2.2.1 ≤ ((i - r8_) + ((((a0_0, a0_1).2.getD a1.toNat (0, ([], ([], (0, []))))).2.2.1.getD i2.toNat 0) * i6)))))) (.deep true .no))]) rfl rfl (by exact ⟨⟨rfl, .inl rfl, .inl rfl, rfl, .inl rfl, trivial⟩, ⟨rfl, rfl⟩, trivial⟩) (by exact ⟨.inl rfl, ⟨⟨rfl, rfl⟩, rfl⟩, rfl, ⟨⟨rfl, rfl⟩, trivial⟩, rfl, rfl, rfl, rfl, trivial⟩)))⟩
                      · skip
                        refine And.intro hq1 ?_
                        refine And.intro hq2 ?_
                        refine And.intro hq3 ?_
                        refine And.intro ?_ trivial
                        refine And.intro hq4 ?_
                        refine And.intro ?_ trivial
                        have he := ok_rq he
                        refine And.intro he.1 ?_
                        have he := he.2
                        have he := ok_some he
                        exact ⟨((i6 + (1:Int)), (i7.set (((a0_0, a0_1).2.getD a1.toNat (0, ([], ([], (0, []))))).2.1.getD i2.toNat 0).toNat ((i7.getD (((a0_0, a0_1).2.getD a1.toNat (0, ([], ([], (0, []))))).2.1.getD i2.toNat 0).toNat []).set i6.toNat (decide (((a0_0, a0_1).2.getD a1.toNat (0, ([], ([], (0, []))))).2.2.2.1 ≤ ((i - r8_) + ((((a0_0, a0_1).2.getD a1.toNat (0, ([], ([], (0, []))))).2.2.1.getD i2.toNat 0) * i6))))))), he, ((leads_close [10003001] rfl).trans (leads_ren [] (l := [(2, .c (.imm (.sl .bool) a2)), (8, .c (.ptr 10003000 0)), (9, .c (.int .i64 i)), (11, .c (.own 10003001 false)), (12, .c (.int .i64 i2)), (13, .c (.int .i64 (((a0_0, a0_1).2.getD a1.toNat (0, ([], ([], (0, []))))).2.1.getD i2.toNat 0))), (14, .c (.int .i64 (i - r8_))), (15, .c (.int .i64 (i6 + (1:Int))))]) (st' := [(10003000, .rc [.int .i64 ((a0_0, a0_1).2.getD a1.toNat (0, ([], ([], (0, []))))).1, .imm (.int .i64) ((a0_0, a0_1).2.getD a1.toNat (0, ([], ([], (0, []))))).2.1, .imm (.int .i64) ((a0_0, a0_1).2.getD a1.toNat (0, ([], ([], (0, []))))).2.2.1, .int .i64 ((a0_0, a0_1).2.getD a1.toNat (0, ([], ([], (0, []))))).2.2.2.1, .imm (.sl (.int .i64)) ((a0_0, a0_1).2.getD a1.toNat (0, ([], ([], (0, []))))).2.2.2.2]), (10003001, .sl 37 (.sl .bool) (i7.set (((a0_0, a0_1).2.getD a1.toNat (0, ([], ([], (0, []))))).2.1.getD i2.toNat 0).toNat ((i7.getD (((a0_0, a0_1).2.getD a1.toNat (0, ([], ([], (0, []))))).2.1.getD i2.toNat 0).toNat []).set i6.toNat (decide (((a0_0, a0_1).2.getD a1.toNat (0, ([], ([], (0, []))))).2.2.2.1 ≤ ((i - r8_) + ((((a0_0, a0_1).2.getD a1.toNat (0, ([], ([], (0, []))))).2.2.1.getD i2.toNat 0) * i6)))))) (.deep true .no))]) rfl rfl (by exact ⟨⟨rfl, .inl rfl, .inl rfl, rfl, .inl rfl, trivial⟩, ⟨rfl, rfl⟩, trivial⟩) (by exact ⟨.inl rfl, ⟨⟨rfl, rfl⟩, rfl⟩, rfl, ⟨⟨rfl, rfl⟩, trivial⟩, rfl, rfl, rfl, rfl, trivial⟩)))⟩
                  · have he := ok_f he hb
                    have he := ok_rq he
                    have hq1 := he.1
                    have he := he.2
                    refine And.intro ?_ (And.intro ?_ (And.intro ?_ (trivial)))
                    · skip
                      refine And.intro ?_ (And.intro ?_ (trivial))
                      · skip
                        refine And.intro ?_ trivial
                        refine And.intro hq1 ?_
                        refine And.intro ?_ trivial
                        have he := ok_rq he
                        refine And.intro he.1 ?_
                        have he := he.2
                        have he := ok_some he
                        exact ⟨((i6 + (1:Int)), (i7.set (((a0_0, a0_1).2.getD a1.toNat (0, ([], ([], (0, []))))).2.1.getD i2.toNat 0).toNat ((i7.getD (((a0_0, a0_1).2.getD a1.toNat (0, ([], ([], (0, []))))).2.1.getD i2.toNat 0).toNat []).set i6.toNat false))), he, ((leads_close [10003001] rfl).trans (leads_ren [] (l := [(2, .c (.imm (.sl .bool) a2)), (8, .c (.ptr 10003000 0)), (9, .c (.int .i64 i)), (11, .c (.own 10003001 false)), (12, .c (.int .i64 i2)), (13, .c (.int .i64 (((a0_0, a0_1).2.getD a1.toNat (0, ([], ([], (0, []))))).2.1.getD i2.toNat 0))), (14, .c (.int .i64 (i - r8_))), (15, .c (.int .i64 (i6 + (1:Int))))]) (st' := [(10003000, .rc [.int .i64 ((a0_0, a0_1).2.getD a1.toNat (0, ([], ([], (0, []))))).1, .imm (.int .i64) ((a0_0, a0_1).2.getD a1.toNat (0, ([], ([], (0, []))))).2.1, .imm (.int .i64) ((a0_0, a0_1).2.getD a1.toNat (0, ([], ([], (0, []))))).2.2.1, .int .i64 ((a0_0, a0_1).2.getD a1.toNat (0, ([], ([], (0, []))))).2.2.2.1, .imm (.sl (.int .i64)) ((a0_0, a0_1).2.getD a1.toNat (0, ([], ([], (0, []))))).2.2.2.2]), (10003001, .sl 37 (.sl .bool) (i7.set (((a0_0, a0_1).2.getD a1.toNat (0, ([], ([], (0, []))))).2.1.getD i2.toNat 0).toNat ((i7.getD (((a0_0, a0_1).2.getD a1.toNat (0, ([], ([], (0, []))))).2.1.getD i2.toNat 0).toNat []).set i6.toNat false)) (.deep true .no))]) rfl rfl (by exact ⟨⟨rfl, .inl rfl, .inl rfl, rfl, .inl rfl, trivial⟩, ⟨rfl, rfl⟩, trivial⟩) (by exact ⟨.inl rfl, ⟨⟨rfl, rfl⟩, rfl⟩, rfl, ⟨⟨rfl, rfl⟩, trivial⟩, rfl, rfl, rfl, rfl, trivial⟩)))⟩
                      · skip
                        refine And.intro ?_ trivial
                        refine And.intro hq1 ?_
                        refine And.intro ?_ trivial
                        have he := ok_rq he
                        refine And.intro he.1 ?_
                        have he := he.2
                        have he := ok_some he
                        exact ⟨((i6 + (1:Int)), (i7.set (((a0_0, a0_1).2.getD a1.toNat (0, ([], ([], (0, []))))).2.1.getD i2.toNat 0).toNat ((i7.getD (((a0_0, a0_1).2.getD a1.toNat (0, ([], ([], (0, []))))).2.1.getD i2.toNat 0).toNat []).set i6.toNat false))), he, ((leads_close [10003001] rfl).trans (leads_ren [] (l := [(2, .c (.imm (.sl .bool) a2)), (8, .c (.ptr 10003000 0)), (9, .c (.int .i64 i)), (11, .c (.own 10003001 false)), (12, .c (.int .i64 i2)), (13, .c (.int .i64 (((a0_0, a0_1).2.getD a1.toNat (0, ([], ([], (0, []))))).2.1.getD i2.toNat 0))), (14, .c (.int .i64 (i - r8_))), (15, .c (.int .i64 (i6 + (1:Int))))]) (st' := [(10003000, .rc [.int .i64 ((a0_0, a0_1).2.getD a1.toNat (0, ([], ([], (0, []))))).1, .imm (.int .i64) ((a0_0, a0_1).2.getD a1.toNat (0, ([], ([], (0, []))))).2.1, .imm (.int .i64) ((a0_0, a0_1).2.getD a1.toNat (0, ([], ([], (0, []))))).2.2.1, .int .i64 ((a0_0, a0_1).2.getD a1.toNat (0, ([], ([], (0, []))))).2.2.2.1, .imm (.sl (.int .i64)) ((a0_0, a0_1).2.getD a1.toNat (0, ([], ([], (0, []))))).2.2.2.2]), (10003001, .sl 37 (.sl .bool) (i7.set (((a0_0, a0_1).2.getD a1.toNat (0, ([], ([], (0, []))))).2.1.getD i2.toNat 0).toNat ((i7.getD (((a0_0, a0_1).2.getD a1.toNat (0, ([], ([], (0, []))))).2.1.getD i2.toNat 0).toNat []).set i6.toNat false)) (.deep true .no))]) rfl rfl (by exact ⟨⟨rfl, .inl rfl, .inl rfl, rfl, .inl rfl, trivial⟩, ⟨rfl, rfl⟩, trivial⟩) (by exact ⟨.inl rfl, ⟨⟨rfl, rfl⟩, rfl⟩, rfl, ⟨⟨rfl, rfl⟩, trivial⟩, rfl, rfl, rfl, rfl, trivial⟩)))⟩
                    · skip
                      refine And.intro ?_ (And.intro ?_ (trivial))
                      · skip
                        refine And.intro ?_ trivial
                        refine And.intro hq1 ?_
                        refine And.intro ?_ trivial
                        have he := ok_rq he
                        refine And.intro he.1 ?_
                        have he := he.2
                        have he := ok_some he
                        exact ⟨((i6 + (1:Int)), (i7.set (((a0_0, a0_1).2.getD a1.toNat (0, ([], ([], (0, []))))).2.1.getD i2.toNat 0).toNat ((i7.getD (((a0_0, a0_1).2.getD a1.toNat (0, ([], ([], (0, []))))).2.1.getD i2.toNat 0).toNat []).set i6.toNat false))), he, ((leads_close [10003001] rfl).trans (leads_ren [] (l := [(2, .c (.imm (.sl .bool) a2)), (8, .c (.ptr 10003000 0)), (9, .c (.int .i64 i)), (11, .c (.own 10003001 false)), (12, .c (.int .i64 i2)), (13, .c (.int .i64 (((a0_0, a0_1).2.getD a1.toNat (0, ([], ([], (0, []))))).2.1.getD i2.toNat 0))), (14, .c (.int .i64 (i - r8_))), (15, .c (.int .i64 (i6 + (1:Int))))]) (st' := [(10003000, .rc [.int .i64 ((a0_0, a0_1).2.getD a1.toNat (0, ([], ([], (0, []))))).1, .imm (.int .i64) ((a0_0, a0_1).2.getD a1.toNat (0, ([], ([], (0, []))))).2.1, .imm (.int .i64) ((a0_0, a0_1).2.getD a1.toNat (0, ([], ([], (0, []))))).2.2.1, .int .i64 ((a0_0, a0_1).2.getD a1.toNat (0, ([], ([], (0, []))))).2.2.2.1, .imm (.sl (.int .i64)) ((a0_0, a0_1).2.getD a1.toNat (0, ([], ([], (0, []))))).2.2.2.2]), (10003001, .sl 37 (.sl .bool) (i7.set (((a0_0, a0_1).2.getD a1.toNat (0, ([], ([], (0, []))))).2.1.getD i2.toNat 0).toNat ((i7.getD (((a0_0, a0_1).2.getD a1.toNat (0, ([], ([], (0, []))))).2.1.getD i2.toNat 0).toNat []).set i6.toNat false)) (.deep true .no))]) rfl rfl (by exact ⟨⟨rfl, .inl rfl, .inl rfl, rfl, .inl rfl, trivial⟩, ⟨rfl, rfl⟩, trivial⟩) (by exact ⟨.inl rfl, ⟨⟨rfl, rfl⟩, rfl⟩, rfl, ⟨⟨rfl, rfl⟩, trivial⟩, rfl, rfl, rfl, rfl, trivial⟩)))⟩
                      · skip
                        refine And.intro ?_ trivial
                        refine And.intro hq1 ?_
                        refine And.intro ?_ trivial
                        have he := ok_rq he
                        refine And.intro he.1 ?_
                        have he := he.2
                        have he := ok_some he
                        exact ⟨((i6 + (1:Int)), (i7.set (((a0_0, a0_1).2.getD a1.toNat (0, ([], ([], (0, []))))).2.1.getD i2.toNat 0).toNat ((i7.getD (((a0_0, a0_1).2.getD a1.toNat (0, ([], ([], (0, []))))).2.1.getD i2.toNat 0).toNat []).set i6.toNat false))), he, ((leads_close [10003001] rfl).trans (leads_ren [] (l := [(2, .c (.imm (.sl .bool) a2)), (8, .c (.ptr 10003000 0)), (9, .c (.int .i64 i)), (11, .c (.own 10003001 false)), (12, .c (.int .i64 i2)), (13, .c (.int .i64 (((a0_0, a0_1).2.getD a1.toNat (0, ([], ([], (0, []))))).2.1.getD i2.toNat 0))), (14, .c (.int .i64 (i - r8_))), (15, .c (.int .i64 (i6 + (1:Int))))]) (st' := [(10003000, .rc [.int .i64 ((a0_0, a0_1).2.getD a1.toNat (0, ([], ([], (0, []))))).1, .imm (.int .i64) ((a0_0, a0_1).2.getD a1.toNat (0, ([], ([], (0, []))))).2.1, .imm (.int .i64) ((a0_0, a0_1).2.getD a1.toNat (0, ([], ([], (0, []))))).2.2.1, .int .i64 ((a0_0, a0_1).2.getD a1.toNat (0, ([], ([], (0, []))))).2.2.2.1, .imm (.sl (.int .i64)) ((a0_0, a0_1).2.getD a1.toNat (0, ([], ([], (0, []))))).2.2.2.2]), (10003001, .sl 37 (.sl .bool) (i7.set (((a0_0, a0_1).2.getD a1.toNat (0, ([], ([], (0, []))))).2.1.getD i2.toNat 0).toNat ((i7.getD (((a0_0, a0_1).2.getD a1.toNat (0, ([], ([], (0, []))))).2.1.getD i2.toNat 0).toNat []).set i6.toNat false)) (.deep true .no))]) rfl rfl (by exact ⟨⟨rfl, .inl rfl, .inl rfl, rfl, .inl rfl, trivial⟩, ⟨rfl, rfl⟩, trivial⟩) (by exact ⟨.inl rfl, ⟨⟨rfl, rfl⟩, rfl⟩, rfl, ⟨⟨rfl, rfl⟩, trivial⟩, rfl, rfl, rfl, rfl, trivial⟩)))⟩
                    · skip
                      refine And.intro ?_ (And.intro ?_ (trivial))
                      · skip
                        refine And.intro ?_ trivial
                        refine And.intro hq1 ?_
                        refine And.intro ?_ trivial
                        have he := ok_rq he
                        refine And.intro he.1 ?_
                        have he := he.2
                        have he := ok_some he
                        exact ⟨((i6 + (1:Int)), (i7.set (((a0_0, a0_1).2.getD a1.toNat (0, ([], ([], (0, []))))).2.1.getD i2.toNat 0).toNat ((i7.getD (((a0_0, a0_1).2.getD a1.toNat (0, ([], ([], (0, []))))).2.1.getD i2.toNat 0).toNat []).set i6.toNat false))), he, ((leads_close [10003001] rfl).trans (leads_ren [] (l := [(2, .c (.imm (.sl .bool) a2)), (8, .c (.ptr 10003000 0)), (9, .c (.int .i64 i)), (11, .c (.own 10003001 false)), (12, .c (.int .i64 i2)), (13, .c (.int .i64 (((a0_0, a0_1).2.getD a1.toNat (0, ([], ([], (0, []))))).2.1.getD i2.toNat 0))), (14, .c (.int .i64 (i - r8_))), (15, .c (.int .i64 (i6 + (1:Int))))]) (st' := [(10003000, .rc [.int .i64 ((a0_0, a0_1).2.getD a1.toNat (0, ([], ([], (0, []))))).1, .imm (.int .i64) ((a0_0, a0_1).2.getD a1.toNat (0, ([], ([], (0, []))))).2.1, .imm (.int .i64) ((a0_0, a0_1).2.getD a1.toNat (0, ([], ([], (0, []))))).2.2.1, .int .i64 ((a0_0, a0_1).2.getD a1.toNat (0, ([], ([], (0, []))))).2.2.2.1, .imm (.sl (.int .i64)) ((a0_0, a0_1).2.getD a1.toNat (0, ([], ([], (0, []))))).2.2.2.2]), (10003001, .sl 37 (.sl .bool) (i7.set (((a0_0, a0_1).2.getD a1.toNat (0, ([], ([], (0, []))))).2.1.getD i2.toNat 0).toNat ((i7.getD (((a0_0, a0_1).2.getD a1.toNat (0, ([], ([], (0, []))))).2.1.getD i2.toNat 0).toNat []).set i6.toNat false)) (.deep true .no))]) rfl rfl (by exact ⟨⟨rfl, .inl rfl, .inl rfl, rfl, .inl rfl, trivial⟩, ⟨rfl, rfl⟩, trivial⟩) (by exact ⟨.inl rfl, ⟨⟨rfl, rfl⟩, rfl⟩, rfl, ⟨⟨rfl, rfl⟩, trivial⟩, rfl, rfl, rfl, rfl, trivial⟩)))⟩
                      · skip
                        refine And.intro ?_ trivial
                        refine And.intro hq1 ?_
                        refine And.intro ?_ trivial
                        have he := ok_rq he
                        refine And.intro he.1 ?_
                        have he := he.2
                        have he := ok_some he
                        exact ⟨((i6 + (1:Int)), (i7.set (((a0_0, a0_1).2.getD a1.toNat (0, ([], ([], (0, []))))).2.1.getD i2.toNat 0).toNat ((i7.getD (((a0_0, a0_1).2.getD a1.toNat (0, ([], ([], (0, []))))).2.1.getD i2.toNat 0).toNat []).set i6.toNat false))), he, ((leads_close [10003001] rfl).trans (leads_ren [] (l := [(2, .c (.imm (.sl .bool) a2)), (8, .c (.ptr 10003000 0)), (9, .c (.int .i64 i)), (11, .c (.own 10003001 false)), (12, .c (.int .i64 i2)), (13, .c (.int .i64 (((a0_0, a0_1).2.getD a1.toNat (0, ([], ([], (0, []))))).2.1.getD i2.toNat 0))), (14, .c (.int .i64 (i - r8_))), (15, .c (.int .i64 (i6 + (1:Int))))]) (st' := [(10003000, .rc [.int .i64 ((a0_0, a0_1).2.getD a1.toNat (0, ([], ([], (0, []))))).1, .imm (.int .i64) ((a0_0, a0_1).2.getD a1.toNat (0, ([], ([], (0, []))))).2.1, .imm (.int .i64) ((a0_0, a0_1).2.getD a1.toNat (0, ([], ([], (0, []))))).2.2.1, .int .i64 ((a0_0, a0_1).2.getD a1.toNat (0, ([], ([], (0, []))))).2.2.2.1, .imm (.sl (.int .i64)) ((a0_0, a0_1).2.getD a1.toNat (0, ([], ([], (0, []))))).2.2.2.2]), (10003001, .sl 37 (.sl .bool) (i7.set (((a0_0, a0_1).2.getD a1.toNat (0, ([], ([], (0, []))))).2.1.getD i2.toNat 0).toNat ((i7.getD (((a0_0, a0_1).2.getD a1.toNat (0, ([], ([], (0, []))))).2.1.getD i2.toNat 0).toNat []).set i6.toNat false)) (.deep true .no))]) rfl rfl (by exact ⟨⟨rfl, .inl rfl, .inl rfl, rfl, .inl rfl, trivial⟩, ⟨rfl, rfl⟩, trivial⟩) (by exact ⟨.inl rfl, ⟨⟨rfl, rfl⟩, rfl⟩, rfl, ⟨⟨rfl, rfl⟩, trivial⟩, rfl, rfl, rfl, rfl, trivial⟩)))⟩
                · have he := ok_f he hb
                  have he := ok_rq he
                  refine And.intro he.1 ?_
                  have he := he.2
                  have he := ok_some he
                  exact ⟨((i2 + (1:Int)), i7), he, (leads_ren [(10001000, 10003000), (10001001, 10003001)] (l := [(2, .c (.imm (.sl .bool) a2)), (8, .c (.ptr 10001000 0)), (9, .c (.int .i64 i)), (11, .c (.own 10001001 false)), (12, .c (.int .i64 (i2 + (1:Int))))]) (st' := [(10001000, .rc [.int .i64 ((a0_0, a0_1).2.getD a1.toNat (0, ([], ([], (0, []))))).1, .imm (.int .i64) ((a0_0, a0_1).2.getD a1.toNat (0, ([], ([], (0, []))))).2.1, .imm (.int .i64) ((a0_0, a0_1).2.getD a1.toNat (0, ([], ([], (0, []))))).2.2.1, .int .i64 ((a0_0, a0_1).2.getD a1.toNat (0, ([], ([], (0, []))))).2.2.2.1, .imm (.sl (.int .i64)) ((a0_0, a0_1).2.getD a1.toNat (0, ([], ([], (0, []))))).2.2.2.2]), (10001001, .sl 37 (.sl .bool) i7 (.deep true .no))]) rfl rfl ⟨⟨rfl, .inl rfl, .inl rfl, rfl, .inl rfl, trivial⟩, ⟨rfl, rfl⟩, trivial⟩ ⟨.inl rfl, ⟨⟨rfl, rfl⟩, rfl⟩, rfl, ⟨⟨rfl, rfl⟩, trivial⟩, rfl, trivial⟩)⟩
              · have he := ok_f he hb
                have he := ok_some he
                exact ⟨rfl, _, _, (leads_ren [(900, 10001001)] (l := [(6, .c (.own 900 false)), (7, .c (.bool true))]) (st' := [(900, .sl 37 (.sl .bool) i5 (.deep true .no))]) rfl rfl ⟨⟨rfl, rfl⟩, trivial⟩ ⟨⟨⟨rfl, rfl⟩, trivial⟩, .inr rfl, trivial⟩), he⟩
        · have he := ok_t he hb
          have he := ok_some he
          exact ⟨rfl, _, _, (leads_ren [(900, 44)] (l := [(6, .c (.own 900 false)), (7, .c (.bool false))]) (st' := [(900, .sl 37 (.sl .bool) ([] : List (List Bool)) (.deep true .no))]) rfl rfl ⟨⟨rfl, rfl⟩, trivial⟩ ⟨⟨⟨rfl, rfl⟩, trivial⟩, .inr rfl, trivial⟩), he⟩
      · have he := ok_t he hb
        have he := ok_some he
        exact ⟨rfl, _, _, (leads_ren [(900, 44)] (l := [(6, .c (.own 900 false)), (7, .c (.bool false))]) (st' := [(900, .sl 37 (.sl .bool) ([] : List (List Bool)) (.deep true .no))]) rfl rfl ⟨⟨rfl, rfl⟩, trivial⟩ ⟨⟨⟨rfl, rfl⟩, trivial⟩, .inr rfl, trivial⟩), he⟩
    · have he := ok_t he hb
      have he := ok_some he
      exact ⟨rfl, _, _, (leads_ren [(900, 44)] (l := [(6, .c (.own 900 false)), (7, .c (.bool false))]) (st' := [(900, .sl 37 (.sl .bool) ([] : List (List Bool)) (.deep true .no))]) rfl rfl ⟨⟨rfl, rfl⟩, trivial⟩ ⟨⟨⟨rfl, rfl⟩, trivial⟩, .inr rfl, trivial⟩), he⟩
  · have he := ok_t he hb
    have he := ok_some he
    exact ⟨rfl, _, _, (leads_ren [(900, 44)] (l := [(6, .c (.own 900 false)), (7, .c (.bool false))]) (st' := [(900, .sl 37 (.sl .bool) ([] : List (List Bool)) (.deep true .no))]) rfl rfl ⟨⟨rfl, rfl⟩, trivial⟩ ⟨⟨⟨rfl, rfl⟩, trivial⟩, .inr rfl, trivial⟩), he⟩

noncomputable def c_impl_within : Con := fun args st => match args, st with
  | [.c (.int .i64 n), .c (.int .i64 low), .c (.int .i64 high)], [] => .opt (Bool) (impl_within n low high) (fun r => .ret (.c (.bool r)) [])
  | _, _ => .fail

noncomputable def C_impl_within : Cfg := { y := tys, n := 15, h := 0, tab := [], cut := [], hand := [], good := [], deep := [], sched := [] }

theorem t_impl_within : TabOk Try.prog C_impl_within := tabOk_of (fun p h => by cases h)

theorem k_impl_within : Entry Try.prog 101 c_impl_within := by
  refine entry_by (C := C_impl_within) mixed tys_ok t_impl_within (fn := Try.f101) (c := bd Try.f101) (by kernel_rfl) (by kernel_rfl) (by kernel_rfl) (by kernel_rfl) ?_
  intro args st k he
  unfold c_impl_within at he
  split at he
  rotate_left
  · exact he.elim
  rename_i n low high
  have he : Ok (impl_within n low high) (fun r => k (.c (.bool r)) []) := he
  refine ⟨rfl, rfl, ?_⟩
  refine And.intro (fun hb => ?_) (fun hb => ?_)
  · have he := ok_t he hb
    have he := ok_some he
    exact ⟨rfl, _, _, Leads.refl _ _, he⟩
  · have he := ok_f he hb
    have he := ok_some he
    exact ⟨rfl, _, _, Leads.refl _ _, he⟩

noncomputable def c_slices_Index_int : Con := fun args st => match args, st with
  | [.c (.imm (.int .i64) s_), .c (.int .i64 v)], [] => .opt (Int) (slices_Index_int s_ v) (fun r => .ret (.c (.int .i64 r)) [])
  | _, _ => .fail

noncomputable def C_slices_Index_int : Cfg := { y := tys, n := 19, h := 0, tab := [], cut := [], hand := [], good := [], deep := [], sched := [] }

theorem t_slices_Index_int : TabOk Try.prog C_slices_Index_int := tabOk_of (fun p h => by cases h)

theorem k_slices_Index_int : Entry Try.prog 262 c_slices_Index_int := by
  refine entry_by (C := C_slices_Index_int) mixed tys_ok t_slices_Index_int (fn := Try.f262) (c := bd Try.f262) (by kernel_rfl) (by kernel_rfl) (by kernel_rfl) (by kernel_rfl) ?_
  intro args st k he
  unfold c_slices_Index_int at he
  split at he
  rotate_left
  · exact he.elim
  rename_i s_ v
  have he : Ok (slices_Index_int s_ v) (fun r => k (.c (.int .i64 r)) []) := he
  refine ⟨rfl, rfl, ?_⟩
  refine loop_model mixed tys_ok t_slices_Index_int (S := Int) (I := (fun i => (envOf [(0, .c (.imm (.int .i64) s_)), (1, .c (.int .i64 v)), (7, .c (.int .i64 (s_.length:Int))), (8, .c (.int .i64 i))], []))) (f := slices_Index_int_l1 s_ v) (K := (fun r => k (.c (.int .i64 r)) [])) he (leads_ren [] (l := [(0, .c (.imm (.int .i64) s_)), (1, .c (.int .i64 v)), (7, .c (.int .i64 (s_.length:Int))), (8, .c (.int .i64 (0:Int)))]) (st' := []) rfl rfl trivial ⟨.inl rfl, rfl, rfl, rfl, trivial⟩) ?_
  rintro i J1 he
  refine And.intro (fun hb => ?_) (fun hb => ?_)
  · have he := ok_t he hb
    have he := ok_rq he
    refine And.intro he.1 ?_
    have he := he.2
    refine And.intro (fun hb => ?_) (fun hb => ?_)
    · have he := ok_t he hb
      have he := ok_some he
      exact ⟨rfl, _, _, Leads.refl _ _, he⟩
    · have he := ok_f he hb
      have he := ok_rq he
      refine And.intro he.1 ?_
      have he := he.2
      have he := ok_some he
      exact ⟨(i + (1:Int)), he, (leads_ren [] (l := [(0, .c (.imm (.int .i64) s_)), (1, .c (.int .i64 v)), (7, .c (.int .i64 (s_.length:Int))), (8, .c (.int .i64 (i + (1:Int))))]) (st' := []) rfl rfl trivial ⟨.inl rfl, rfl, rfl, rfl, trivial⟩)⟩
  · have he := ok_f he hb
    have he := ok_some he
    exact ⟨rfl, _, _, Leads.refl _ _, he⟩

noncomputable def c_slices_Contains_int : Con := fun args st => match args, st with
  | [.c (.imm (.int .i64) s_), .c (.int .i64 v)], [] => .opt (Bool) (slices_Contains_int s_ v) (fun r => .ret (.c (.bool r)) [])
  | _, _ => .fail

noncomputable def C_slices_Contains_int : Cfg := { y := tys, n := 9, h := 0, tab := [(262, c_slices_Index_int)], cut := [], hand := [], good := [], deep := [], sched := [] }

theorem t_slices_Contains_int : TabOk Try.prog C_slices_Contains_int := by
  refine tabOk_of ?_
  simp only [C_slices_Contains_int, List.forall_mem_cons]
  exact ⟨k_slices_Index_int, fun p h => by cases h⟩

theorem k_slices_Contains_int : Entry Try.prog 211 c_slices_Contains_int := by
  refine entry_by (C := C_slices_Contains_int) mixed tys_ok t_slices_Contains_int (fn := Try.f211) (c := bd Try.f211) (by kernel_rfl) (by kernel_rfl) (by kernel_rfl) (by kernel_rfl) ?_
  intro args st k he
  unfold c_slices_Contains_int at he
  split at he
  rotate_left
  · exact he.elim
  rename_i s_ v
  have he : Ok (slices_Contains_int s_ v) (fun r => k (.c (.bool r)) []) := he
  refine ⟨rfl, rfl, ?_⟩
  obtain ⟨r1_, hr, he⟩ := ok_bind he
  refine ⟨r1_, hr, ?_⟩
  have he := ok_some he
  exact ⟨rfl, _, _, Leads.refl _ _, he⟩

noncomputable def c_impl_ruleValid_1 : Con := fun args st => match args, st with
  | [.c (.int .i64 n)], [] => .opt (Bool) (impl_ruleValid_1 n) (fun r => .ret (.c (.bool r)) [])
  | _, _ => .fail

noncomputable def C_impl_ruleValid_1 : Cfg := { y := tys, n := 10, h := 0, tab := [(101, c_impl_within)], cut := [], hand := [], good := [], deep := [], sched := [] }

theorem t_impl_ruleValid_1 : TabOk Try.prog C_impl_ruleValid_1 := by
  refine tabOk_of ?_
  simp only [C_impl_ruleValid_1, List.forall_mem_cons]
  exact ⟨k_impl_within, fun p h => by cases h⟩

theorem k_impl_ruleValid_1 : Entry Try.prog 216 c_impl_ruleValid_1 := by
  refine entry_by (C := C_impl_ruleValid_1) mixed tys_ok t_impl_ruleValid_1 (fn := Try.f216) (c := bd Try.f216) (by kernel_rfl) (by kernel_rfl) (by kernel_rfl) (by kernel_rfl) ?_
  intro args st k he
  unfold c_impl_ruleValid_1 at he
  split at he
  rotate_left
  · exact he.elim
  rename_i n
  have he : Ok (impl_ruleValid_1 n) (fun r => k (.c (.bool r)) []) := he
  refine ⟨rfl, rfl, ?_⟩
  refine And.intro (fun hb => ?_) (fun hb => ?_)
  · have he := ok_f he hb
    obtain ⟨r1_, hr, he⟩ := ok_bind he
    refine ⟨r1_, hr, ?_⟩
    have he := ok_some he
    exact ⟨rfl, _, _, Leads.refl _ _, he⟩
  · have he := ok_t he hb
    have he := ok_some he
    exact ⟨rfl, _, _, Leads.refl _ _, he⟩

noncomputable def c_slices_IndexFunc_int__impl_ruleValid_1 : Con := fun args st => match args, st with
  | [.c (.imm (.int .i64) s_), .c (.fn 216 [])], [] => .opt (Int) (slices_IndexFunc_int__impl_ruleValid_1 s_) (fun r => .ret (.c (.int .i64 r)) [])
  | _, _ => .fail

noncomputable def C_slices_IndexFunc_int__impl_ruleValid_1 : Cfg := { y := tys, n := 19, h := 0, tab := [(216, c_impl_ruleValid_1)], cut := [], hand := [], good := [], deep := [], sched := [] }

theorem t_slices_IndexFunc_int__impl_ruleValid_1 : TabOk Try.prog C_slices_IndexFunc_int__impl_ruleValid_1 := by
  refine tabOk_of ?_
  simp only [C_slices_IndexFunc_int__impl_ruleValid_1, List.forall_mem_cons]
  exact ⟨k_impl_ruleValid_1, fun p h => by cases h⟩

theorem k_slices_IndexFunc_int__impl_ruleValid_1 : Entry Try.prog 237 c_slices_IndexFunc_int__impl_ruleValid_1 := by
  refine entry_by (C := C_slices_IndexFunc_int__impl_ruleValid_1) mixed tys_ok t_slices_IndexFunc_int__impl_ruleValid_1 (fn := Try.f237) (c := bd Try.f237) (by kernel_rfl) (by kernel_rfl) (by kernel_rfl) (by kernel_rfl) ?_
  intro args st k he
  unfold c_slices_IndexFunc_int__impl_ruleValid_1 at he
  split at he
  rotate_left
  · exact he.elim
  rename_i s_
  have he : Ok (slices_IndexFunc_int__impl_ruleValid_1 s_) (fun r => k (.c (.int .i64 r)) []) := he
  refine ⟨rfl, rfl, ?_⟩
  refine loop_model mixed tys_ok t_slices_IndexFunc_int__impl_ruleValid_1 (S := Int) (I := (fun i => (envOf [(0, .c (.imm (.int .i64) s_)), (1, .c (.fn 216 [])), (7, .c (.int .i64 (s_.length:Int))), (8, .c (.int .i64 i))], []))) (f := slices_IndexFunc_int__impl_ruleValid_1_l1 s_) (K := (fun r => k (.c (.int .i64 r)) [])) he (leads_ren [] (l := [(0, .c (.imm (.int .i64) s_)), (1, .c (.fn 216 [])), (7, .c (.int .i64 (s_.length:Int))), (8, .c (.int .i64 (0:Int)))]) (st' := []) rfl rfl trivial ⟨.inl rfl, ⟨rfl, trivial⟩, rfl, rfl, trivial⟩) ?_
  rintro i J1 he
  refine And.intro (fun hb => ?_) (fun hb => ?_)
  · have he := ok_t he hb
    have he := ok_rq he
    refine And.intro he.1 ?_
    have he := he.2
    obtain ⟨r1_, hr, he⟩ := ok_bind he
    refine ⟨r1_, hr, ?_⟩
    refine And.intro (fun hb => ?_) (fun hb => ?_)
    · have he := ok_t he hb
      have he := ok_some he
      exact ⟨rfl, _, _, Leads.refl _ _, he⟩
    · have he := ok_f he hb
      have he := ok_rq he
      refine And.intro he.1 ?_
      have he := he.2
      have he := ok_some he
      exact ⟨(i + (1:Int)), he, (leads_ren [] (l := [(0, .c (.imm (.int .i64) s_)), (1, .c (.fn 216 [])), (7, .c (.int .i64 (s_.length:Int))), (8, .c (.int .i64 (i + (1:Int))))]) (st' := []) rfl rfl trivial ⟨.inl rfl, ⟨rfl, trivial⟩, rfl, rfl, trivial⟩)⟩
  · have he := ok_f he hb
    have he := ok_some he
    exact ⟨rfl, _, _, Leads.refl _ _, he⟩

noncomputable def c_slices_ContainsFunc_int__impl_ruleValid_1 : Con := fun args st => match args, st with
  | [.c (.imm (.int .i64) s_), .c (.fn 216 [])], [] => .opt (Bool) (slices_ContainsFunc_int__impl_ruleValid_1 s_) (fun r => .ret (.c (.bool r)) [])
  | _, _ => .fail

noncomputable def C_slices_ContainsFunc_int__impl_ruleValid_1 : Cfg := { y := tys, n := 9, h := 0, tab := [(237, c_slices_IndexFunc_int__impl_ruleValid_1)], cut := [], hand := [], good := [], deep := [], sched := [] }

theorem t_slices_ContainsFunc_int__impl_ruleValid_1 : TabOk Try.prog C_slices_ContainsFunc_int__impl_ruleValid_1 := by
  refine tabOk_of ?_
  simp only [C_slices_ContainsFunc_int__impl_ruleValid_1, List.forall_mem_cons]
  exact ⟨k_slices_IndexFunc_int__impl_ruleValid_1, fun p h => by cases h⟩

theorem k_slices_ContainsFunc_int__impl_ruleValid_1 : Entry Try.prog 174 c_slices_ContainsFunc_int__impl_ruleValid_1 := by
  refine entry_by (C := C_slices_ContainsFunc_int__impl_ruleValid_1) mixed tys_ok t_slices_ContainsFunc_int__impl_ruleValid_1 (fn := Try.f174) (c := bd Try.f174) (by kernel_rfl) (by kernel_rfl) (by kernel_rfl) (by kernel_rfl) ?_
  intro args st k he
  unfold c_slices_ContainsFunc_int__impl_ruleValid_1 at he
  split at he
  rotate_left
  · exact he.elim
  rename_i s_
  have he : Ok (slices_ContainsFunc_int__impl_ruleValid_1 s_) (fun r => k (.c (.bool r)) []) := he
  refine ⟨rfl, rfl, ?_⟩
  obtain ⟨r1_, hr, he⟩ := ok_bind he
  refine ⟨r1_, hr, ?_⟩
  have he := ok_some he
  exact ⟨rfl, _, _, Leads.refl _ _, he⟩

noncomputable def c_impl_ruleValid_2_1 : Con := fun args st => match args, st with
  | [.c (.int .i64 n)], [] => .opt (Bool) (impl_ruleValid_2_1 n) (fun r => .ret (.c (.bool r)) [])
  | _, _ => .fail

noncomputable def C_impl_ruleValid_2_1 : Cfg := { y := tys, n := 6, h := 0, tab := [(101, c_impl_within)], cut := [], hand := [], good := [], deep := [], sched := [] }

theorem t_impl_ruleValid_2_1 : TabOk Try.prog C_impl_ruleValid_2_1 := by
  refine tabOk_of ?_
  simp only [C_impl_ruleValid_2_1, List.forall_mem_cons]
  exact ⟨k_impl_within, fun p h => by cases h⟩

theorem k_impl_ruleValid_2_1 : Entry Try.prog 219 c_impl_ruleValid_2_1 := by
  refine entry_by (C := C_impl_ruleValid_2_1) mixed tys_ok t_impl_ruleValid_2_1 (fn := Try.f219) (c := bd Try.f219) (by kernel_rfl) (by kernel_rfl) (by kernel_rfl) (by kernel_rfl) ?_
  intro args st k he
  unfold c_impl_ruleValid_2_1 at he
  split at he
  rotate_left
  · exact he.elim
  rename_i n
  have he : Ok (impl_ruleValid_2_1 n) (fun r => k (.c (.bool r)) []) := he
  refine ⟨rfl, rfl, ?_⟩
  obtain ⟨r1_, hr, he⟩ := ok_bind he
  refine ⟨r1_, hr, ?_⟩
  have he := ok_some he
  exact ⟨rfl, _, _, Leads.refl _ _, he⟩

noncomputable def c_slices_IndexFunc_int__impl_ruleValid_2_1 : Con := fun args st => match args, st with
  | [.c (.imm (.int .i64) s_), .c (.fn 219 [])], [] => .opt (Int) (slices_IndexFunc_int__impl_ruleValid_2_1 s_) (fun r => .ret (.c (.int .i64 r)) [])
  | _, _ => .fail

noncomputable def C_slices_IndexFunc_int__impl_ruleValid_2_1 : Cfg := { y := tys, n := 19, h := 0, tab := [(219, c_impl_ruleValid_2_1)], cut := [], hand := [], good := [], deep := [], sched := [] }

theorem t_slices_IndexFunc_int__impl_ruleValid_2_1 : TabOk Try.prog C_slices_IndexFunc_int__impl_ruleValid_2_1 := by
  refine tabOk_of ?_
  simp only [C_slices_IndexFunc_int__impl_ruleValid_2_1, List.forall_mem_cons]
  exact ⟨k_impl_ruleValid_2_1, fun p h => by cases h⟩

theorem k_slices_IndexFunc_int__impl_ruleValid_2_1 : Entry Try.prog 237 c_slices_IndexFunc_int__impl_ruleValid_2_1 := by
  refine entry_by (C := C_slices_IndexFunc_int__impl_ruleValid_2_1) mixed tys_ok t_slices_IndexFunc_int__impl_ruleValid_2_1 (fn := Try.f237) (c := bd Try.f237) (by kernel_rfl) (by kernel_rfl) (by kernel_rfl) (by kernel_rfl) ?_
  intro args st k he
  unfold c_slices_IndexFunc_int__impl_ruleValid_2_1 at he
  split at he
  rotate_left
  · exact he.elim
  rename_i s_
  have he : Ok (slices_IndexFunc_int__impl_ruleValid_2_1 s_) (fun r => k (.c (.int .i64 r)) []) := he
  refine ⟨rfl, rfl, ?_⟩
  refine loop_model mixed tys_ok t_slices_IndexFunc_int__impl_ruleValid_2_1 (S := Int) (I := (fun i => (envOf [(0, .c (.imm (.int .i64) s_)), (1, .c (.fn 219 [])), (7, .c (.int .i64 (s_.length:Int))), (8, .c (.int .i64 i))], []))) (f := slices_IndexFunc_int__impl_ruleValid_2_1_l1 s_) (K := (fun r => k (.c (.int .i64 r)) [])) he (leads_ren [] (l := [(0, .c (.imm (.int .i64) s_)), (1, .c (.fn 219 [])), (7, .c (.int .i64 (s_.length:Int))), (8, .c (.int .i64 (0:Int)))]) (st' := []) rfl rfl trivial ⟨.inl rfl, ⟨rfl, trivial⟩, rfl, rfl, trivial⟩) ?_
  rintro i J1 he
  refine And.intro (fun hb => ?_) (fun hb => ?_)
  · have he := ok_t he hb
    have he := ok_rq he
    refine And.intro he.1 ?_
    have he := he.2
    obtain ⟨r1_, hr, he⟩ := ok_bind he
    refine ⟨r1_, hr, ?_⟩
    refine And.intro (fun hb => ?_) (fun hb => ?_)
    · have he := ok_t he hb
      have he := ok_some he
      exact ⟨rfl, _, _, Leads.refl _ _, he⟩
    · have he := ok_f he hb
      have he := ok_rq he
      refine And.intro he.1 ?_
      have he := he.2
      have he := ok_some he
      exact ⟨(i + (1:Int)), he, (leads_ren [] (l := [(0, .c (.imm (.int .i64) s_)), (1, .c (.fn 219 [])), (7, .c (.int .i64 (s_.length:Int))), (8, .c (.int .i64 (i + (1:Int))))]) (st' := []) rfl rfl trivial ⟨.inl rfl, ⟨rfl, trivial⟩, rfl, rfl, trivial⟩)⟩
  · have he := ok_f he hb
    have he := ok_some he
    exact ⟨rfl, _, _, Leads.refl _ _, he⟩

noncomputable def c_slices_ContainsFunc_int__impl_ruleValid_2_1 : Con := fun args st => match args, st with
  | [.c (.imm (.int .i64) s_), .c (.fn 219 [])], [] => .opt (Bool) (slices_ContainsFunc_int__impl_ruleValid_2_1 s_) (fun r => .ret (.c (.bool r)) [])
  | _, _ => .fail

noncomputable def C_slices_ContainsFunc_int__impl_ruleValid_2_1 : Cfg := { y := tys, n := 9, h := 0, tab := [(237, c_slices_IndexFunc_int__impl_ruleValid_2_1)], cut := [], hand := [], good := [], deep := [], sched := [] }

theorem t_slices_ContainsFunc_int__impl_ruleValid_2_1 : TabOk Try.prog C_slices_ContainsFunc_int__impl_ruleValid_2_1 := by
  refine tabOk_of ?_
  simp only [C_slices_ContainsFunc_int__impl_ruleValid_2_1, List.forall_mem_cons]
  exact ⟨k_slices_IndexFunc_int__impl_ruleValid_2_1, fun p h => by cases h⟩

theorem k_slices_ContainsFunc_int__impl_ruleValid_2_1 : Entry Try.prog 174 c_slices_ContainsFunc_int__impl_ruleValid_2_1 := by
  refine entry_by (C := C_slices_ContainsFunc_int__impl_ruleValid_2_1) mixed tys_ok t_slices_ContainsFunc_int__impl_ruleValid_2_1 (fn := Try.f174) (c := bd Try.f174) (by kernel_rfl) (by kernel_rfl) (by kernel_rfl) (by kernel_rfl) ?_
  intro args st k he
  unfold c_slices_ContainsFunc_int__impl_ruleValid_2_1 at he
  split at he
  rotate_left
  · exact he.elim
  rename_i s_
  have he : Ok (slices_ContainsFunc_int__impl_ruleValid_2_1 s_) (fun r => k (.c (.bool r)) []) := he
  refine ⟨rfl, rfl, ?_⟩
  obtain ⟨r1_, hr, he⟩ := ok_bind he
  refine ⟨r1_, hr, ?_⟩
  have he := ok_some he
  exact ⟨rfl, _, _, Leads.refl _ _, he⟩

noncomputable def c_impl_ruleValid_2 : Con := fun args st => match args, st with
  | [.c (.imm (.int .i64) row), .c (.ptr 0 0)], [(0, .rc [.int .i64 o0_0, .imm (.int .i64) o0_1, .imm (.int .i64) o0_2, .int .i64 o0_3, .imm (.sl (.int .i64)) o0_4])] => .opt (Bool) (impl_ruleValid_2 row (o0_0, (o0_1, (o0_2, (o0_3, o0_4))))) (fun r => .ret (.c (.bool r)) [(0, .rc [.int .i64 o0_0, .imm (.int .i64) o0_1, .imm (.int .i64) o0_2, .int .i64 o0_3, .imm (.sl (.int .i64)) o0_4])])
  | _, _ => .fail

noncomputable def C_impl_ruleValid_2 : Cfg := { y := tys, n := 14, h := 1, tab := [(174, c_slices_ContainsFunc_int__impl_ruleValid_2_1)], cut := [], hand := [], good := [], deep := [], sched := [] }

theorem t_impl_ruleValid_2 : TabOk Try.prog C_impl_ruleValid_2 := by
  refine tabOk_of ?_
  simp only [C_impl_ruleValid_2, List.forall_mem_cons]
  exact ⟨k_slices_ContainsFunc_int__impl_ruleValid_2_1, fun p h => by cases h⟩

theorem k_impl_ruleValid_2 : Entry Try.prog 218 c_impl_ruleValid_2 := by
  refine entry_by (C := C_impl_ruleValid_2) mixed tys_ok t_impl_ruleValid_2 (fn := Try.f218) (c := bd Try.f218) (by kernel_rfl) (by kernel_rfl) (by kernel_rfl) (by kernel_rfl) ?_
  intro args st k he
  unfold c_impl_ruleValid_2 at he
  split at he
  rotate_left
  · exact he.elim
  rename_i row o0_0 o0_1 o0_2 o0_3 o0_4
  have he : Ok (impl_ruleValid_2 row (o0_0, (o0_1, (o0_2, (o0_3, o0_4))))) (fun r => k (.c (.bool r)) [(0, .rc [.int .i64 o0_0, .imm (.int .i64) o0_1, .imm (.int .i64) o0_2, .int .i64 o0_3, .imm (.sl (.int .i64)) o0_4])]) := he
  refine ⟨rfl, rfl, ?_⟩
  refine And.intro (fun hb => ?_) (fun hb => ?_)
  · have he := ok_f he hb
    obtain ⟨r1_, hr, he⟩ := ok_bind he
    refine ⟨r1_, hr, ?_⟩
    have he := ok_some he
    exact ⟨rfl, _, _, (leads_ren [] (l := [(3, .c (.bool r1_))]) (st' := [(0, .rc [.int .i64 o0_0, .imm (.int .i64) o0_1, .imm (.int .i64) o0_2, .int .i64 o0_3, .imm (.sl (.int .i64)) o0_4])]) rfl rfl ⟨⟨rfl, .inl rfl, .inl rfl, rfl, .inl rfl, trivial⟩, trivial⟩ ⟨.inl rfl, trivial⟩), he⟩
  · have he := ok_t he hb
    have he := ok_some he
    exact ⟨rfl, _, _, (leads_ren [] (l := [(3, .c (.bool true))]) (st' := [(0, .rc [.int .i64 o0_0, .imm (.int .i64) o0_1, .imm (.int .i64) o0_2, .int .i64 o0_3, .imm (.sl (.int .i64)) o0_4])]) rfl rfl ⟨⟨rfl, .inl rfl, .inl rfl, rfl, .inl rfl, trivial⟩, trivial⟩ ⟨.inr rfl, trivial⟩), he⟩

noncomputable def c_slices_IndexFunc_s_int__impl_ruleValid_2 : Con := fun args st => match args, st with
  | [.c (.imm (.sl (.int .i64)) s_), .c (.fn 218 [0])], [(0, .rc [.int .i64 o0_0, .imm (.int .i64) o0_1, .imm (.int .i64) o0_2, .int .i64 o0_3, .imm (.sl (.int .i64)) o0_4])] => .opt (Int) (slices_IndexFunc_s_int__impl_ruleValid_2 s_ (o0_0, (o0_1, (o0_2, (o0_3, o0_4))))) (fun r => .ret (.c (.int .i64 r)) [(0, .rc [.int .i64 o0_0, .imm (.int .i64) o0_1, .imm (.int .i64) o0_2, .int .i64 o0_3, .imm (.sl (.int .i64)) o0_4])])
  | _, _ => .fail

noncomputable def C_slices_IndexFunc_s_int__impl_ruleValid_2 : Cfg := { y := tys, n := 19, h := 1, tab := [(218, c_impl_ruleValid_2)], cut := [], hand := [], good := [], deep := [], sched := [] }

theorem t_slices_IndexFunc_s_int__impl_ruleValid_2 : TabOk Try.prog C_slices_IndexFunc_s_int__impl_ruleValid_2 := by
  refine tabOk_of ?_
  simp only [C_slices_IndexFunc_s_int__impl_ruleValid_2, List.forall_mem_cons]
  exact ⟨k_impl_ruleValid_2, fun p h => by cases h⟩

theorem k_slices_IndexFunc_s_int__impl_ruleValid_2 : Entry Try.prog 263 c_slices_IndexFunc_s_int__impl_ruleValid_2 := by
  refine entry_by (C := C_slices_IndexFunc_s_int__impl_ruleValid_2) mixed tys_ok t_slices_IndexFunc_s_int__impl_ruleValid_2 (fn := Try.f263) (c := bd Try.f263) (by kernel_rfl) (by kernel_rfl) (by kernel_rfl) (by kernel_rfl) ?_
  intro args st k he
  unfold c_slices_IndexFunc_s_int__impl_ruleValid_2 at he
  split at he
  rotate_left
  · exact he.elim
  rename_i s_ o0_0 o0_1 o0_2 o0_3 o0_4
  have he : Ok (slices_IndexFunc_s_int__impl_ruleValid_2 s_ (o0_0, (o0_1, (o0_2, (o0_3, o0_4))))) (fun r => k (.c (.int .i64 r)) [(0, .rc [.int .i64 o0_0, .imm (.int .i64) o0_1, .imm (.int .i64) o0_2, .int .i64 o0_3, .imm (.sl (.int .i64)) o0_4])]) := he
  refine ⟨rfl, rfl, ?_⟩
  refine loop_model mixed tys_ok t_slices_IndexFunc_s_int__impl_ruleValid_2 (S := Int) (I := (fun i => (envOf [(0, .c (.imm (.sl (.int .i64)) s_)), (1, .c (.fn 218 [0])), (7, .c (.int .i64 (s_.length:Int))), (8, .c (.int .i64 i))], [(0, .rc [.int .i64 (o0_0, (o0_1, (o0_2, (o0_3, o0_4)))).1, .imm (.int .i64) (o0_0, (o0_1, (o0_2, (o0_3, o0_4)))).2.1, .imm (.int .i64) (o0_0, (o0_1, (o0_2, (o0_3, o0_4)))).2.2.1, .int .i64 (o0_0, (o0_1, (o0_2, (o0_3, o0_4)))).2.2.2.1, .imm (.sl (.int .i64)) (o0_0, (o0_1, (o0_2, (o0_3, o0_4)))).2.2.2.2])]))) (f := slices_IndexFunc_s_int__impl_ruleValid_2_l1 s_ (o0_0, (o0_1, (o0_2, (o0_3, o0_4))))) (K := (fun r => k (.c (.int .i64 r)) [(0, .rc [.int .i64 o0_0, .imm (.int .i64) o0_1, .imm (.int .i64) o0_2, .int .i64 o0_3, .imm (.sl (.int .i64)) o0_4])])) he (leads_ren [] (l := [(0, .c (.imm (.sl (.int .i64)) s_)), (1, .c (.fn 218 [0])), (7, .c (.int .i64 (s_.length:Int))), (8, .c (.int .i64 (0:Int)))]) (st' := [(0, .rc [.int .i64 (o0_0, (o0_1, (o0_2, (o0_3, o0_4)))).1, .imm (.int .i64) (o0_0, (o0_1, (o0_2, (o0_3, o0_4)))).2.1, .imm (.int .i64) (o0_0, (o0_1, (o0_2, (o0_3, o0_4)))).2.2.1, .int .i64 (o0_0, (o0_1, (o0_2, (o0_3, o0_4)))).2.2.2.1, .imm (.sl (.int .i64)) (o0_0, (o0_1, (o0_2, (o0_3, o0_4)))).2.2.2.2])]) rfl rfl ⟨⟨rfl, .inl rfl, .inl rfl, rfl, .inl rfl, trivial⟩, trivial⟩ ⟨.inl rfl, ⟨rfl, ⟨⟨rfl, rfl⟩, trivial⟩⟩, rfl, rfl, trivial⟩) ?_
  rintro i J1 he
  refine And.intro (fun hb => ?_) (fun hb => ?_)
  · have he := ok_t he hb
    have he := ok_rq he
    refine And.intro he.1 ?_
    have he := he.2
    obtain ⟨r1_, hr, he⟩ := ok_bind he
    refine ⟨r1_, hr, ?_⟩
    refine And.intro (fun hb => ?_) (fun hb => ?_)
    · have he := ok_t he hb
      have he := ok_some he
      exact ⟨rfl, _, _, (leads_ren [] (l := [(4, .c (.int .i64 i))]) (st' := [(0, .rc [.int .i64 o0_0, .imm (.int .i64) o0_1, .imm (.int .i64) o0_2, .int .i64 o0_3, .imm (.sl (.int .i64)) o0_4])]) rfl rfl ⟨⟨rfl, .inl rfl, .inl rfl, rfl, .inl rfl, trivial⟩, trivial⟩ ⟨rfl, trivial⟩), he⟩
    · have he := ok_f he hb
      have he := ok_rq he
      refine And.intro he.1 ?_
      have he := he.2
      have he := ok_some he
      exact ⟨(i + (1:Int)), he, (leads_ren [] (l := [(0, .c (.imm (.sl (.int .i64)) s_)), (1, .c (.fn 218 [0])), (7, .c (.int .i64 (s_.length:Int))), (8, .c (.int .i64 (i + (1:Int))))]) (st' := [(0, .rc [.int .i64 (o0_0, (o0_1, (o0_2, (o0_3, o0_4)))).1, .imm (.int .i64) (o0_0, (o0_1, (o0_2, (o0_3, o0_4)))).2.1, .imm (.int .i64) (o0_0, (o0_1, (o0_2, (o0_3, o0_4)))).2.2.1, .int .i64 (o0_0, (o0_1, (o0_2, (o0_3, o0_4)))).2.2.2.1, .imm (.sl (.int .i64)) (o0_0, (o0_1, (o0_2, (o0_3, o0_4)))).2.2.2.2])]) rfl rfl ⟨⟨rfl, .inl rfl, .inl rfl, rfl, .inl rfl, trivial⟩, trivial⟩ ⟨.inl rfl, ⟨rfl, ⟨⟨rfl, rfl⟩, trivial⟩⟩, rfl, rfl, trivial⟩)⟩
  · have he := ok_f he hb
    have he := ok_some he
    exact ⟨rfl, _, _, (leads_ren [] (l := [(4, .c (.int .i64 (-1:Int)))]) (st' := [(0, .rc [.int .i64 o0_0, .imm (.int .i64) o0_1, .imm (.int .i64) o0_2, .int .i64 o0_3, .imm (.sl (.int .i64)) o0_4])]) rfl rfl ⟨⟨rfl, .inl rfl, .inl rfl, rfl, .inl rfl, trivial⟩, trivial⟩ ⟨rfl, trivial⟩), he⟩

noncomputable def c_slices_ContainsFunc_s_int__impl_ruleValid_2 : Con := fun args st => match args, st with
  | [.c (.imm (.sl (.int .i64)) s_), .c (.fn 218 [0])], [(0, .rc [.int .i64 o0_0, .imm (.int .i64) o0_1, .imm (.int .i64) o0_2, .int .i64 o0_3, .imm (.sl (.int .i64)) o0_4])] => .opt (Bool) (slices_ContainsFunc_s_int__impl_ruleValid_2 s_ (o0_0, (o0_1, (o0_2, (o0_3, o0_4))))) (fun r => .ret (.c (.bool r)) [(0, .rc [.int .i64 o0_0, .imm (.int .i64) o0_1, .imm (.int .i64) o0_2, .int .i64 o0_3, .imm (.sl (.int .i64)) o0_4])])
  | _, _ => .fail

noncomputable def C_slices_ContainsFunc_s_int__impl_ruleValid_2 : Cfg := { y := tys, n := 9, h := 1, tab := [(263, c_slices_IndexFunc_s_int__impl_ruleValid_2)], cut := [], hand := [], good := [], deep := [], sched := [] }

theorem t_slices_ContainsFunc_s_int__impl_ruleValid_2 : TabOk Try.prog C_slices_ContainsFunc_s_int__impl_ruleValid_2 := by
  refine tabOk_of ?_
  simp only [C_slices_ContainsFunc_s_int__impl_ruleValid_2, List.forall_mem_cons]
  exact ⟨k_slices_IndexFunc_s_int__impl_ruleValid_2, fun p h => by cases h⟩

theorem k_slices_ContainsFunc_s_int__impl_ruleValid_2 : Entry Try.prog 217 c_slices_ContainsFunc_s_int__impl_ruleValid_2 := by
  refine entry_by (C := C_slices_ContainsFunc_s_int__impl_ruleValid_2) mixed tys_ok t_slices_ContainsFunc_s_int__impl_ruleValid_2 (fn := Try.f217) (c := bd Try.f217) (by kernel_rfl) (by kernel_rfl) (by kernel_rfl) (by kernel_rfl) ?_
  intro args st k he
  unfold c_slices_ContainsFunc_s_int__impl_ruleValid_2 at he
  split at he
  rotate_left
  · exact he.elim
  rename_i s_ o0_0 o0_1 o0_2 o0_3 o0_4
  have he : Ok (slices_ContainsFunc_s_int__impl_ruleValid_2 s_ (o0_0, (o0_1, (o0_2, (o0_3, o0_4))))) (fun r => k (.c (.bool r)) [(0, .rc [.int .i64 o0_0, .imm (.int .i64) o0_1, .imm (.int .i64) o0_2, .int .i64 o0_3, .imm (.sl (.int .i64)) o0_4])]) := he
  refine ⟨rfl, rfl, ?_⟩
  obtain ⟨r1_, hr, he⟩ := ok_bind he
  refine ⟨r1_, hr, ?_⟩
  have he := ok_some he
  exact ⟨rfl, _, _, (leads_ren [] (l := [(4, .c (.bool (decide ((0:Int) ≤ r1_))))]) (st' := [(0, .rc [.int .i64 o0_0, .imm (.int .i64) o0_1, .imm (.int .i64) o0_2, .int .i64 o0_3, .imm (.sl (.int .i64)) o0_4])]) rfl rfl ⟨⟨rfl, .inl rfl, .inl rfl, rfl, .inl rfl, trivial⟩, trivial⟩ ⟨.inl rfl, trivial⟩), he⟩

noncomputable def c_impl_ruleValid : Con := fun args st => match args, st with
  | [.agg [.int .i64 a0_0, .imm (.int .i64) a0_1, .imm (.int .i64) a0_2, .int .i64 a0_3, .imm (.sl (.int .i64)) a0_4], .c (.int .i64 a1)], [] => .opt (Bool) (impl_ruleValid (a0_0, (a0_1, (a0_2, (a0_3, a0_4)))) a1) (fun r => .ret (.c (.bool r)) [])
  | _, _ => .fail

noncomputable def C_impl_ruleValid : Cfg := { y := tys, n := 104, h := 0, tab := [(101, c_impl_within), (174, c_slices_ContainsFunc_int__impl_ruleValid_1), (211, c_slices_Contains_int), (217, c_slices_ContainsFunc_s_int__impl_ruleValid_2)], cut := [9], hand := [], good := [], deep := [], sched := [] }

theorem t_impl_ruleValid : TabOk Try.prog C_impl_ruleValid := by
  refine tabOk_of ?_
  simp only [C_impl_ruleValid, List.forall_mem_cons]
  exact ⟨k_impl_within, k_slices_ContainsFunc_int__impl_ruleValid_1, k_slices_Contains_int, k_slices_ContainsFunc_s_int__impl_ruleValid_2, fun p h => by cases h⟩

theorem k_impl_ruleValid : Entry Try.prog 132 c_impl_ruleValid := by
  refine entry_by (C := C_impl_ruleValid) mixed tys_ok t_impl_ruleValid (fn := Try.f132) (c := bd Try.f132) (by kernel_rfl) (by kernel_rfl) (by kernel_rfl) (by kernel_rfl) ?_
  intro args st k he
  unfold c_impl_ruleValid at he
  split at he
  rotate_left
  · exact he.elim
  rename_i a0_0 a0_1 a0_2 a0_3 a0_4 a1
  have he : Ok (impl_ruleValid (a0_0, (a0_1, (a0_2, (a0_3, a0_4)))) a1) (fun r => k (.c (.bool r)) []) := he
  refine ⟨rfl, rfl, ?_⟩
  refine loop_model mixed tys_ok t_impl_ruleValid (S := Int) (I := (fun i => (envOf [(1, .c (.int .i64 a1)), (2, .c (.ptr 10000000 0)), (8, .c (.imm (.int .i64) (a0_0, (a0_1, (a0_2, (a0_3, a0_4)))).2.1)), (9, .c (.int .i64 ((a0_0, (a0_1, (a0_2, (a0_3, a0_4)))).2.1.length:Int))), (10, .c (.int .i64 i))], [(10000000, .rc [.int .i64 (a0_0, (a0_1, (a0_2, (a0_3, a0_4)))).1, .imm (.int .i64) (a0_0, (a0_1, (a0_2, (a0_3, a0_4)))).2.1, .imm (.int .i64) (a0_0, (a0_1, (a0_2, (a0_3, a0_4)))).2.2.1, .int .i64 (a0_0, (a0_1, (a0_2, (a0_3, a0_4)))).2.2.2.1, .imm (.sl (.int .i64)) (a0_0, (a0_1, (a0_2, (a0_3, a0_4)))).2.2.2.2])]))) (f := impl_ruleValid_l1 (a0_0, (a0_1, (a0_2, (a0_3, a0_4)))) a1) (K := (fun r => k (.c (.bool r)) [])) he (leads_ren [(10000000, 2)] (l := [(1, .c (.int .i64 a1)), (2, .c (.ptr 10000000 0)), (8, .c (.imm (.int .i64) (a0_0, (a0_1, (a0_2, (a0_3, a0_4)))).2.1)), (9, .c (.int .i64 ((a0_0, (a0_1, (a0_2, (a0_3, a0_4)))).2.1.length:Int))), (10, .c (.int .i64 (0:Int)))]) (st' := [(10000000, .rc [.int .i64 (a0_0, (a0_1, (a0_2, (a0_3, a0_4)))).1, .imm (.int .i64) (a0_0, (a0_1, (a0_2, (a0_3, a0_4)))).2.1, .imm (.int .i64) (a0_0, (a0_1, (a0_2, (a0_3, a0_4)))).2.2.1, .int .i64 (a0_0, (a0_1, (a0_2, (a0_3, a0_4)))).2.2.2.1, .imm (.sl (.int .i64)) (a0_0, (a0_1, (a0_2, (a0_3, a0_4)))).2.2.2.2])]) rfl rfl ⟨⟨rfl, .inl rfl, .inl rfl, rfl, .inl rfl, trivial⟩, trivial⟩ ⟨rfl, ⟨⟨rfl, rfl⟩, rfl⟩, .inl rfl, rfl, rfl, trivial⟩) ?_
  rintro i J1 he
  refine And.intro (fun hb => ?_) (fun hb => ?_)
  · have he := ok_t he hb
    have he := ok_rq he
    refine And.intro he.1 ?_
    have he := he.2
    have he := ok_rq he
    refine And.intro he.1 ?_
    have he := he.2
    obtain ⟨r1_, hr, he⟩ := ok_bind he
    refine ⟨r1_, hr, ?_⟩
    refine And.intro (fun hb => ?_) (fun hb => ?_)
    · have he := ok_f he hb
      have he := ok_rq he
      refine And.intro he.1 ?_
      have he := he.2
      obtain ⟨r2_, hr, he⟩ := ok_bind he
      refine ⟨r2_, hr, ?_⟩
      refine And.intro (fun hb => ?_) (fun hb => ?_)
      · have he := ok_t he hb
        have he := ok_some he
        exact ⟨rfl, _, _, (leads_ren [] (l := [(4, .c (.bool false))]) (st' := []) rfl rfl trivial ⟨.inr rfl, trivial⟩), he⟩
      · have he := ok_f he hb
        have he := ok_rq he
        refine And.intro he.1 ?_
        have he := he.2
        have he := ok_some he
        exact ⟨(i + (1:Int)), he, (leads_ren [] (l := [(1, .c (.int .i64 a1)), (2, .c (.ptr 10000000 0)), (8, .c (.imm (.int .i64) (a0_0, (a0_1, (a0_2, (a0_3, a0_4)))).2.1)), (9, .c (.int .i64 ((a0_0, (a0_1, (a0_2, (a0_3, a0_4)))).2.1.length:Int))), (10, .c (.int .i64 (i + (1:Int))))]) (st' := [(10000000, .rc [.int .i64 (a0_0, (a0_1, (a0_2, (a0_3, a0_4)))).1, .imm (.int .i64) (a0_0, (a0_1, (a0_2, (a0_3, a0_4)))).2.1, .imm (.int .i64) (a0_0, (a0_1, (a0_2, (a0_3, a0_4)))).2.2.1, .int .i64 (a0_0, (a0_1, (a0_2, (a0_3, a0_4)))).2.2.2.1, .imm (.sl (.int .i64)) (a0_0, (a0_1, (a0_2, (a0_3, a0_4)))).2.2.2.2])]) rfl rfl ⟨⟨rfl, .inl rfl, .inl rfl, rfl, .inl rfl, trivial⟩, trivial⟩ ⟨rfl, ⟨⟨rfl, rfl⟩, rfl⟩, .inl rfl, rfl, rfl, trivial⟩)⟩
    · have he := ok_t he hb
      have he := ok_some he
      exact ⟨rfl, _, _, (leads_ren [] (l := [(4, .c (.bool false))]) (st' := []) rfl rfl trivial ⟨.inr rfl, trivial⟩), he⟩
  · have he := ok_f he hb
    refine seq_model mixed tys_ok t_impl_ruleValid (S := Unit) (I := (fun _ => (envOf [(2, .c (.ptr 10001000 0))], [(10001000, .rc [.int .i64 (a0_0, (a0_1, (a0_2, (a0_3, a0_4)))).1, .imm (.int .i64) (a0_0, (a0_1, (a0_2, (a0_3, a0_4)))).2.1, .imm (.int .i64) (a0_0, (a0_1, (a0_2, (a0_3, a0_4)))).2.2.1, .int .i64 (a0_0, (a0_1, (a0_2, (a0_3, a0_4)))).2.2.2.1, .imm (.sl (.int .i64)) (a0_0, (a0_1, (a0_2, (a0_3, a0_4)))).2.2.2.2])]))) (B := fun s => Ok (impl_ruleValid_j1 (a0_0, (a0_1, (a0_2, (a0_3, a0_4)))) s) (LK J1 (fun r => k (.c (.bool r)) []))) ?_ ?_
    · rintro ⟨⟩ he
      refine And.intro (fun hb => ?_) (fun hb => ?_)
      · have he := ok_t he hb
        refine And.intro (fun hb => ?_) (fun hb => ?_)
        · have he := ok_t he hb
          obtain ⟨r3_, hr, he⟩ := ok_bind he
          refine ⟨r3_, hr, ?_⟩
          refine And.intro (fun hb => ?_) (fun hb => ?_)
          · have he := ok_t he hb
            obtain ⟨r4_, hr, he⟩ := ok_bind he
            refine ⟨r4_, hr, ?_⟩
            have he := ok_some he
            exact ⟨rfl, _, _, (leads_ren [] (l := [(4, .c (.bool (!r4_)))]) (st' := []) rfl rfl trivial ⟨.inl rfl, trivial⟩), he⟩
          · have he := ok_f he hb
            have he := ok_some he
            exact ⟨rfl, _, _, (leads_ren [] (l := [(4, .c (.bool false))]) (st' := []) rfl rfl trivial ⟨.inr rfl, trivial⟩), he⟩
        · have he := ok_f he hb
          have he := ok_some he
          exact ⟨rfl, _, _, (leads_ren [] (l := [(4, .c (.bool false))]) (st' := []) rfl rfl trivial ⟨.inr rfl, trivial⟩), he⟩
      · have he := ok_f he hb
        refine And.intro (fun hb => ?_) (fun hb => ?_)
        · have he := ok_t he hb
          refine And.intro (fun hb => ?_) (fun hb => ?_)
          · have he := ok_t he hb
            obtain ⟨r5_, hr, he⟩ := ok_bind he
            refine ⟨r5_, hr, ?_⟩
            have he := ok_some he
            exact ⟨rfl, _, _, (leads_ren [] (l := [(4, .c (.bool (!r5_)))]) (st' := []) rfl rfl trivial ⟨.inl rfl, trivial⟩), he⟩
          · have he := ok_f he hb
            have he := ok_some he
            exact ⟨rfl, _, _, (leads_ren [] (l := [(4, .c (.bool false))]) (st' := []) rfl rfl trivial ⟨.inr rfl, trivial⟩), he⟩
        · have he := ok_f he hb
          refine And.intro (fun hb => ?_) (fun hb => ?_)
          · have he := ok_t he hb
            have he := ok_some he
            exact ⟨rfl, _, _, (leads_ren [] (l := [(4, .c (.bool (((a0_0, (a0_1, (a0_2, (a0_3, a0_4)))).2.1.length:Int) == (2:Int))))]) (st' := []) rfl rfl trivial ⟨.inl rfl, trivial⟩), he⟩
          · have he := ok_f he hb
            have he := ok_some he
            exact ⟨rfl, _, _, (leads_ren [] (l := [(4, .c (.bool ((a0_0, (a0_1, (a0_2, (a0_3, a0_4)))).1 == (2:Int))))]) (st' := []) rfl rfl trivial ⟨.inl rfl, trivial⟩), he⟩
    · skip
      refine And.intro (fun hb => ?_) (fun hb => ?_)
      · have he := ok_f he hb
        refine And.intro (fun hb => ?_) (fun hb => ?_)
        · have he := ok_t he hb
          refine And.intro (fun hb => ?_) (fun hb => ?_)
          · have he := ok_f he hb
            refine And.intro (fun hb => ?_) (fun hb => ?_)
            · have he := ok_f he hb
              refine And.intro (fun hb => ?_) (fun hb => ?_)
              · have he := ok_t he hb
                refine And.intro (fun hb => ?_) (fun hb => ?_)
                · have he := ok_t he hb
                  have he := ok_some he
                  exact ⟨rfl, _, _, (leads_ren [] (l := [(4, .c (.bool false))]) (st' := []) rfl rfl trivial ⟨.inr rfl, trivial⟩), he⟩
                · have he := ok_f he hb
                  exact ⟨(), he, (leads_ren [(10001000, 10000000)] (l := [(2, .c (.ptr 10001000 0))]) (st' := [(10001000, .rc [.int .i64 (a0_0, (a0_1, (a0_2, (a0_3, a0_4)))).1, .imm (.int .i64) (a0_0, (a0_1, (a0_2, (a0_3, a0_4)))).2.1, .imm (.int .i64) (a0_0, (a0_1, (a0_2, (a0_3, a0_4)))).2.2.1, .int .i64 (a0_0, (a0_1, (a0_2, (a0_3, a0_4)))).2.2.2.1, .imm (.sl (.int .i64)) (a0_0, (a0_1, (a0_2, (a0_3, a0_4)))).2.2.2.2])]) rfl rfl ⟨⟨rfl, .inl rfl, .inl rfl, rfl, .inl rfl, trivial⟩, trivial⟩ ⟨⟨⟨rfl, rfl⟩, rfl⟩, trivial⟩)⟩
              · have he := ok_f he hb
                exact ⟨(), he, (leads_ren [(10001000, 10000000)] (l := [(2, .c (.ptr 10001000 0))]) (st' := [(10001000, .rc [.int .i64 (a0_0, (a0_1, (a0_2, (a0_3, a0_4)))).1, .imm (.int .i64) (a0_0, (a0_1, (a0_2, (a0_3, a0_4)))).2.1, .imm (.int .i64) (a0_0, (a0_1, (a0_2, (a0_3, a0_4)))).2.2.1, .int .i64 (a0_0, (a0_1, (a0_2, (a0_3, a0_4)))).2.2.2.1, .imm (.sl (.int .i64)) (a0_0, (a0_1, (a0_2, (a0_3, a0_4)))).2.2.2.2])]) rfl rfl ⟨⟨rfl, .inl rfl, .inl rfl, rfl, .inl rfl, trivial⟩, trivial⟩ ⟨⟨⟨rfl, rfl⟩, rfl⟩, trivial⟩)⟩
            · have he := ok_t he hb
              have he := ok_some he
              exact ⟨rfl, _, _, (leads_ren [] (l := [(4, .c (.bool false))]) (st' := []) rfl rfl trivial ⟨.inr rfl, trivial⟩), he⟩
          · have he := ok_t he hb
            have he := ok_some he
            exact ⟨rfl, _, _, (leads_ren [] (l := [(4, .c (.bool false))]) (st' := []) rfl rfl trivial ⟨.inr rfl, trivial⟩), he⟩
        · have he := ok_f he hb
          refine And.intro (fun hb => ?_) (fun hb => ?_)
          · have he := ok_t he hb
            refine And.intro (fun hb => ?_) (fun hb => ?_)
            · have he := ok_t he hb
              have he := ok_some he
              exact ⟨rfl, _, _, (leads_ren [] (l := [(4, .c (.bool false))]) (st' := []) rfl rfl trivial ⟨.inr rfl, trivial⟩), he⟩
            · have he := ok_f he hb
              exact ⟨(), he, (leads_ren [(10001000, 10000000)] (l := [(2, .c (.ptr 10001000 0))]) (st' := [(10001000, .rc [.int .i64 (a0_0, (a0_1, (a0_2, (a0_3, a0_4)))).1, .imm (.int .i64) (a0_0, (a0_1, (a0_2, (a0_3, a0_4)))).2.1, .imm (.int .i64) (a0_0, (a0_1, (a0_2, (a0_3, a0_4)))).2.2.1, .int .i64 (a0_0, (a0_1, (a0_2, (a0_3, a0_4)))).2.2.2.1, .imm (.sl (.int .i64)) (a0_0, (a0_1, (a0_2, (a0_3, a0_4)))).2.2.2.2])]) rfl rfl ⟨⟨rfl, .inl rfl, .inl rfl, rfl, .inl rfl, trivial⟩, trivial⟩ ⟨⟨⟨rfl, rfl⟩, rfl⟩, trivial⟩)⟩
          · have he := ok_f he hb
            exact ⟨(), he, (leads_ren [(10001000, 10000000)] (l := [(2, .c (.ptr 10001000 0))]) (st' := [(10001000, .rc [.int .i64 (a0_0, (a0_1, (a0_2, (a0_3, a0_4)))).1, .imm (.int .i64) (a0_0, (a0_1, (a0_2, (a0_3, a0_4)))).2.1, .imm (.int .i64) (a0_0, (a0_1, (a0_2, (a0_3, a0_4)))).2.2.1, .int .i64 (a0_0, (a0_1, (a0_2, (a0_3, a0_4)))).2.2.2.1, .imm (.sl (.int .i64)) (a0_0, (a0_1, (a0_2, (a0_3, a0_4)))).2.2.2.2])]) rfl rfl ⟨⟨rfl, .inl rfl, .inl rfl, rfl, .inl rfl, trivial⟩, trivial⟩ ⟨⟨⟨rfl, rfl⟩, rfl⟩, trivial⟩)⟩
      · have he := ok_t he hb
        have he := ok_some he
        exact ⟨rfl, _, _, (leads_ren [] (l := [(4, .c (.bool false))]) (st' := []) rfl rfl trivial ⟨.inr rfl, trivial⟩), he⟩

noncomputable def c_impl_ModelValid_1 : Con := fun args st => match args, st with
  | [.agg [.int .i64 r__0, .imm (.int .i64) r__1, .imm (.int .i64) r__2, .int .i64 r__3, .imm (.sl (.int .i64)) r__4], .c (.ptr 0 0)], [(0, .rc [.imm (.int .i64) o0_0, .imm (.pair (.int .i64) (.pair (.sl (.int .i64)) (.pair (.sl (.int .i64)) (.pair (.int .i64) (.sl (.sl (.int .i64))))))) o0_1])] => .opt (Bool) (impl_ModelValid_1 (r__0, (r__1, (r__2, (r__3, r__4)))) (o0_0, o0_1)) (fun r => .ret (.c (.bool r)) [(0, .rc [.imm (.int .i64) o0_0, .imm (.pair (.int .i64) (.pair (.sl (.int .i64)) (.pair (.sl (.int .i64)) (.pair (.int .i64) (.sl (.sl (.int .i64))))))) o0_1])])
  | _, _ => .fail

noncomputable def C_impl_ModelValid_1 : Cfg := { y := tys, n := 10, h := 1, tab := [(132, c_impl_ruleValid)], cut := [], hand := [], good := [], deep := [], sched := [] }

theorem t_impl_ModelValid_1 : TabOk Try.prog C_impl_ModelValid_1 := by
  refine tabOk_of ?_
  simp only [C_impl_ModelValid_1, List.forall_mem_cons]
  exact ⟨k_impl_ruleValid, fun p h => by cases h⟩

theorem k_impl_ModelValid_1 : Entry Try.prog 131 c_impl_ModelValid_1 := by
  refine entry_by (C := C_impl_ModelValid_1) mixed tys_ok t_impl_ModelValid_1 (fn := Try.f131) (c := bd Try.f131) (by kernel_rfl) (by kernel_rfl) (by kernel_rfl) (by kernel_rfl) ?_
  intro args st k he
  unfold c_impl_ModelValid_1 at he
  split at he
  rotate_left
  · exact he.elim
  rename_i r__0 r__1 r__2 r__3 r__4 o0_0 o0_1
  have he : Ok (impl_ModelValid_1 (r__0, (r__1, (r__2, (r__3, r__4)))) (o0_0, o0_1)) (fun r => k (.c (.bool r)) [(0, .rc [.imm (.int .i64) o0_0, .imm (.pair (.int .i64) (.pair (.sl (.int .i64)) (.pair (.sl (.int .i64)) (.pair (.int .i64) (.sl (.sl (.int .i64))))))) o0_1])]) := he
  refine ⟨rfl, rfl, ?_⟩
  obtain ⟨r1_, hr, he⟩ := ok_bind he
  refine ⟨r1_, hr, ?_⟩
  have he := ok_some he
  exact ⟨rfl, _, _, (leads_ren [] (l := [(3, .c (.bool (!r1_)))]) (st' := [(0, .rc [.imm (.int .i64) o0_0, .imm (.pair (.int .i64) (.pair (.sl (.int .i64)) (.pair (.sl (.int .i64)) (.pair (.int .i64) (.sl (.sl (.int .i64))))))) o0_1])]) rfl rfl ⟨⟨.inl rfl, .inl rfl, trivial⟩, trivial⟩ ⟨.inl rfl, trivial⟩), he⟩

noncomputable def c_slices_IndexFunc_impl_Rule__impl_ModelValid_1 : Con := fun args st => match args, st with
  | [.c (.imm (.pair (.int .i64) (.pair (.sl (.int .i64)) (.pair (.sl (.int .i64)) (.pair (.int .i64) (.sl (.sl (.int .i64))))))) s_), .c (.fn 131 [0])], [(0, .rc [.imm (.int .i64) o0_0, .imm (.pair (.int .i64) (.pair (.sl (.int .i64)) (.pair (.sl (.int .i64)) (.pair (.int .i64) (.sl (.sl (.int .i64))))))) o0_1])] => .opt (Int) (slices_IndexFunc_impl_Rule__impl_ModelValid_1 s_ (o0_0, o0_1)) (fun r => .ret (.c (.int .i64 r)) [(0, .rc [.imm (.int .i64) o0_0, .imm (.pair (.int .i64) (.pair (.sl (.int .i64)) (.pair (.sl (.int .i64)) (.pair (.int .i64) (.sl (.sl (.int .i64))))))) o0_1])])
  | _, _ => .fail

noncomputable def C_slices_IndexFunc_impl_Rule__impl_ModelValid_1 : Cfg := { y := tys, n := 19, h := 1, tab := [(131, c_impl_ModelValid_1)], cut := [], hand := [], good := [], deep := [], sched := [] }

theorem t_slices_IndexFunc_impl_Rule__impl_ModelValid_1 : TabOk Try.prog C_slices_IndexFunc_impl_Rule__impl_ModelValid_1 := by
  refine tabOk_of ?_
  simp only [C_slices_IndexFunc_impl_Rule__impl_ModelValid_1, List.forall_mem_cons]
  exact ⟨k_impl_ModelValid_1, fun p h => by cases h⟩

theorem k_slices_IndexFunc_impl_Rule__impl_ModelValid_1 : Entry Try.prog 215 c_slices_IndexFunc_impl_Rule__impl_ModelValid_1 := by
  refine entry_by (C := C_slices_IndexFunc_impl_Rule__impl_ModelValid_1) mixed tys_ok t_slices_IndexFunc_impl_Rule__impl_ModelValid_1 (fn := Try.f215) (c := bd Try.f215) (by kernel_rfl) (by kernel_rfl) (by kernel_rfl) (by kernel_rfl) ?_
  intro args st k he
  unfold c_slices_IndexFunc_impl_Rule__impl_ModelValid_1 at he
  split at he
  rotate_left
  · exact he.elim
  rename_i s_ o0_0 o0_1
  have he : Ok (slices_IndexFunc_impl_Rule__impl_ModelValid_1 s_ (o0_0, o0_1)) (fun r => k (.c (.int .i64 r)) [(0, .rc [.imm (.int .i64) o0_0, .imm (.pair (.int .i64) (.pair (.sl (.int .i64)) (.pair (.sl (.int .i64)) (.pair (.int .i64) (.sl (.sl (.int .i64))))))) o0_1])]) := he
  refine ⟨rfl, rfl, ?_⟩
  refine loop_model mixed tys_ok t_slices_IndexFunc_impl_Rule__impl_ModelValid_1 (S := Int) (I := (fun i => (envOf [(0, .c (.imm (.pair (.int .i64) (.pair (.sl (.int .i64)) (.pair (.sl (.int .i64)) (.pair (.int .i64) (.sl (.sl (.int .i64))))))) s_)), (1, .c (.fn 131 [0])), (7, .c (.int .i64 (s_.length:Int))), (8, .c (.int .i64 i))], [(0, .rc [.imm (.int .i64) (o0_0, o0_1).1, .imm (.pair (.int .i64) (.pair (.sl (.int .i64)) (.pair (.sl (.int .i64)) (.pair (.int .i64) (.sl (.sl (.int .i64))))))) (o0_0, o0_1).2])]))) (f := slices_IndexFunc_impl_Rule__impl_ModelValid_1_l1 s_ (o0_0, o0_1)) (K := (fun r => k (.c (.int .i64 r)) [(0, .rc [.imm (.int .i64) o0_0, .imm (.pair (.int .i64) (.pair (.sl (.int .i64)) (.pair (.sl (.int .i64)) (.pair (.int .i64) (.sl (.sl (.int .i64))))))) o0_1])])) he (leads_ren [] (l := [(0, .c (.imm (.pair (.int .i64) (.pair (.sl (.int .i64)) (.pair (.sl (.int .i64)) (.pair (.int .i64) (.sl (.sl (.int .i64))))))) s_)), (1, .c (.fn 131 [0])), (7, .c (.int .i64 (s_.length:Int))), (8, .c (.int .i64 (0:Int)))]) (st' := [(0, .rc [.imm (.int .i64) (o0_0, o0_1).1, .imm (.pair (.int .i64) (.pair (.sl (.int .i64)) (.pair (.sl (.int .i64)) (.pair (.int .i64) (.sl (.sl (.int .i64))))))) (o0_0, o0_1).2])]) rfl rfl ⟨⟨.inl rfl, .inl rfl, trivial⟩, trivial⟩ ⟨.inl rfl, ⟨rfl, ⟨⟨rfl, rfl⟩, trivial⟩⟩, rfl, rfl, trivial⟩) ?_
  rintro i J1 he
  refine And.intro (fun hb => ?_) (fun hb => ?_)
  · have he := ok_t he hb
    have he := ok_rq he
    refine And.intro he.1 ?_
    have he := he.2
    obtain ⟨r1_, hr, he⟩ := ok_bind he
    refine ⟨r1_, hr, ?_⟩
    refine And.intro (fun hb => ?_) (fun hb => ?_)
    · have he := ok_t he hb
      have he := ok_some he
      exact ⟨rfl, _, _, (leads_ren [] (l := [(4, .c (.int .i64 i))]) (st' := [(0, .rc [.imm (.int .i64) o0_0, .imm (.pair (.int .i64) (.pair (.sl (.int .i64)) (.pair (.sl (.int .i64)) (.pair (.int .i64) (.sl (.sl (.int .i64))))))) o0_1])]) rfl rfl ⟨⟨.inl rfl, .inl rfl, trivial⟩, trivial⟩ ⟨rfl, trivial⟩), he⟩
    · have he := ok_f he hb
      have he := ok_rq he
      refine And.intro he.1 ?_
      have he := he.2
      have he := ok_some he
      exact ⟨(i + (1:Int)), he, (leads_ren [] (l := [(0, .c (.imm (.pair (.int .i64) (.pair (.sl (.int .i64)) (.pair (.sl (.int .i64)) (.pair (.int .i64) (.sl (.sl (.int .i64))))))) s_)), (1, .c (.fn 131 [0])), (7, .c (.int .i64 (s_.length:Int))), (8, .c (.int .i64 (i + (1:Int))))]) (st' := [(0, .rc [.imm (.int .i64) (o0_0, o0_1).1, .imm (.pair (.int .i64) (.pair (.sl (.int .i64)) (.pair (.sl (.int .i64)) (.pair (.int .i64) (.sl (.sl (.int .i64))))))) (o0_0, o0_1).2])]) rfl rfl ⟨⟨.inl rfl, .inl rfl, trivial⟩, trivial⟩ ⟨.inl rfl, ⟨rfl, ⟨⟨rfl, rfl⟩, trivial⟩⟩, rfl, rfl, trivial⟩)⟩
  · have he := ok_f he hb
    have he := ok_some he
    exact ⟨rfl, _, _, (leads_ren [] (l := [(4, .c (.int .i64 (-1:Int)))]) (st' := [(0, .rc [.imm (.int .i64) o0_0, .imm (.pair (.int .i64) (.pair (.sl (.int .i64)) (.pair (.sl (.int .i64)) (.pair (.int .i64) (.sl (.sl (.int .i64))))))) o0_1])]) rfl rfl ⟨⟨.inl rfl, .inl rfl, trivial⟩, trivial⟩ ⟨rfl, trivial⟩), he⟩

end Go.AE.Y
