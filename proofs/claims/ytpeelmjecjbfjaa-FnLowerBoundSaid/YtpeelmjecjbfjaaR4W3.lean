/-
  Walks: each function keeps the contract that its model gives. No conditions.
-/
import Derived.Test.YtpeelmjecjbfjaaR4Tab
import Derived.Test.YtpeelmjecjbfjaaR4W2
namespace Go.AE.Y
open Go Go.AE Go.Proofs
set_option linter.unusedVariables false
set_option maxHeartbeats 2000000
set_option maxRecDepth 100000

noncomputable def c_slices_Index_bool : Con := fun args st => match args, st with
  | [.c (.imm .bool s_), .c (.bool v)], [] => .opt (Int) (slices_Index_bool s_ v) (fun r => .ret (.c (.int .i64 r)) [])
  | _, _ => .fail

noncomputable def C_slices_Index_bool : Cfg := { y := tys, n := 19, h := 0, tab := [], cut := [], hand := [], good := [], deep := [], sched := [] }

theorem t_slices_Index_bool : TabOk Try.prog C_slices_Index_bool := tabOk_of (fun p h => by cases h)

theorem k_slices_Index_bool : Entry Try.prog 265 c_slices_Index_bool := by
  refine entry_by (C := C_slices_Index_bool) mixed tys_ok t_slices_Index_bool (fn := Try.f265) (c := bd Try.f265) (by kernel_rfl) (by kernel_rfl) (by kernel_rfl) (by kernel_rfl) ?_
  intro args st k he
  unfold c_slices_Index_bool at he
  split at he
  rotate_left
  · exact he.elim
  rename_i s_ v
  have he : Ok (slices_Index_bool s_ v) (fun r => k (.c (.int .i64 r)) []) := he
  refine ⟨rfl, rfl, ?_⟩
  refine loop_model mixed tys_ok t_slices_Index_bool (S := Int) (I := (fun i => (envOf [(0, .c (.imm .bool s_)), (1, .c (.bool v)), (7, .c (.int .i64 (s_.length:Int))), (8, .c (.int .i64 i))], []))) (f := slices_Index_bool_l1 s_ v) (K := (fun r => k (.c (.int .i64 r)) [])) he (leads_ren [] (l := [(0, .c (.imm .bool s_)), (1, .c (.bool v)), (7, .c (.int .i64 (s_.length:Int))), (8, .c (.int .i64 (0:Int)))]) (st' := []) rfl rfl trivial ⟨.inl rfl, .inl rfl, rfl, rfl, trivial⟩) ?_
  rintro i J1 he
  refine And.intro (fun hb => ?_) (fun hb => ?_)
  · have he := ok_t he hb
    have he := ok_rq he
    refine And.intro he.1 ?_
    have he := he.2
    refine And.intro (fun hb => ?_) (fun hb => ?_)
    · have he := ok_t he hb
      have he := ok_some he
      exact ⟨rfl, _, _, Leads.refl _ _, he⟩
    · have he := ok_f he hb
      have he := ok_rq he
      refine And.intro he.1 ?_
      have he := he.2
      have he := ok_some he
      exact ⟨(i + (1:Int)), he, (leads_ren [] (l := [(0, .c (.imm .bool s_)), (1, .c (.bool v)), (7, .c (.int .i64 (s_.length:Int))), (8, .c (.int .i64 (i + (1:Int))))]) (st' := []) rfl rfl trivial ⟨.inl rfl, .inl rfl, rfl, rfl, trivial⟩)⟩
  · have he := ok_f he hb
    have he := ok_some he
    exact ⟨rfl, _, _, Leads.refl _ _, he⟩

noncomputable def c_slices_Contains_bool : Con := fun args st => match args, st with
  | [.c (.imm .bool s_), .c (.bool v)], [] => .opt (Bool) (slices_Contains_bool s_ v) (fun r => .ret (.c (.bool r)) [])
  | _, _ => .fail

noncomputable def C_slices_Contains_bool : Cfg := { y := tys, n := 9, h := 0, tab := [(265, c_slices_Index_bool)], cut := [], hand := [], good := [], deep := [], sched := [] }

theorem t_slices_Contains_bool : TabOk Try.prog C_slices_Contains_bool := by
  refine tabOk_of ?_
  simp only [C_slices_Contains_bool, List.forall_mem_cons]
  exact ⟨k_slices_Index_bool, fun p h => by cases h⟩

theorem k_slices_Contains_bool : Entry Try.prog 224 c_slices_Contains_bool := by
  refine entry_by (C := C_slices_Contains_bool) mixed tys_ok t_slices_Contains_bool (fn := Try.f224) (c := bd Try.f224) (by kernel_rfl) (by kernel_rfl) (by kernel_rfl) (by kernel_rfl) ?_
  intro args st k he
  unfold c_slices_Contains_bool at he
  split at he
  rotate_left
  · exact he.elim
  rename_i s_ v
  have he : Ok (slices_Contains_bool s_ v) (fun r => k (.c (.bool r)) []) := he
  refine ⟨rfl, rfl, ?_⟩
  obtain ⟨r1_, hr, he⟩ := ok_bind he
  refine ⟨r1_, hr, ?_⟩
  have he := ok_some he
  exact ⟨rfl, _, _, Leads.refl _ _, he⟩

noncomputable def c_impl_DomainsEmpty_1 : Con := fun args st => match args, st with
  | [.c (.imm .bool row)], [] => .opt (Bool) (impl_DomainsEmpty_1 row) (fun r => .ret (.c (.bool r)) [])
  | _, _ => .fail

noncomputable def C_impl_DomainsEmpty_1 : Cfg := { y := tys, n := 6, h := 0, tab := [(224, c_slices_Contains_bool)], cut := [], hand := [], good := [], deep := [], sched := [] }

theorem t_impl_DomainsEmpty_1 : TabOk Try.prog C_impl_DomainsEmpty_1 := by
  refine tabOk_of ?_
  simp only [C_impl_DomainsEmpty_1, List.forall_mem_cons]
  exact ⟨k_slices_Contains_bool, fun p h => by cases h⟩

theorem k_impl_DomainsEmpty_1 : Entry Try.prog 223 c_impl_DomainsEmpty_1 := by
  refine entry_by (C := C_impl_DomainsEmpty_1) mixed tys_ok t_impl_DomainsEmpty_1 (fn := Try.f223) (c := bd Try.f223) (by kernel_rfl) (by kernel_rfl) (by kernel_rfl) (by kernel_rfl) ?_
  intro args st k he
  unfold c_impl_DomainsEmpty_1 at he
  split at he
  rotate_left
  · exact he.elim
  rename_i row
  have he : Ok (impl_DomainsEmpty_1 row) (fun r => k (.c (.bool r)) []) := he
  refine ⟨rfl, rfl, ?_⟩
  obtain ⟨r1_, hr, he⟩ := ok_bind he
  refine ⟨r1_, hr, ?_⟩
  have he := ok_some he
  exact ⟨rfl, _, _, Leads.refl _ _, he⟩

noncomputable def c_slices_IndexFunc_s_bool__impl_DomainsEmpty_1 : Con := fun args st => match args, st with
  | [.c (.imm (.sl .bool) s_), .c (.fn 223 [])], [] => .opt (Int) (slices_IndexFunc_s_bool__impl_DomainsEmpty_1 s_) (fun r => .ret (.c (.int .i64 r)) [])
  | _, _ => .fail

noncomputable def C_slices_IndexFunc_s_bool__impl_DomainsEmpty_1 : Cfg := { y := tys, n := 19, h := 0, tab := [(223, c_impl_DomainsEmpty_1)], cut := [], hand := [], good := [], deep := [], sched := [] }

theorem t_slices_IndexFunc_s_bool__impl_DomainsEmpty_1 : TabOk Try.prog C_slices_IndexFunc_s_bool__impl_DomainsEmpty_1 := by
  refine tabOk_of ?_
  simp only [C_slices_IndexFunc_s_bool__impl_DomainsEmpty_1, List.forall_mem_cons]
  exact ⟨k_impl_DomainsEmpty_1, fun p h => by cases h⟩

theorem k_slices_IndexFunc_s_bool__impl_DomainsEmpty_1 : Entry Try.prog 264 c_slices_IndexFunc_s_bool__impl_DomainsEmpty_1 := by
  refine entry_by (C := C_slices_IndexFunc_s_bool__impl_DomainsEmpty_1) mixed tys_ok t_slices_IndexFunc_s_bool__impl_DomainsEmpty_1 (fn := Try.f264) (c := bd Try.f264) (by kernel_rfl) (by kernel_rfl) (by kernel_rfl) (by kernel_rfl) ?_
  intro args st k he
  unfold c_slices_IndexFunc_s_bool__impl_DomainsEmpty_1 at he
  split at he
  rotate_left
  · exact he.elim
  rename_i s_
  have he : Ok (slices_IndexFunc_s_bool__impl_DomainsEmpty_1 s_) (fun r => k (.c (.int .i64 r)) []) := he
  refine ⟨rfl, rfl, ?_⟩
  refine loop_model mixed tys_ok t_slices_IndexFunc_s_bool__impl_DomainsEmpty_1 (S := Int) (I := (fun i => (envOf [(0, .c (.imm (.sl .bool) s_)), (1, .c (.fn 223 [])), (7, .c (.int .i64 (s_.length:Int))), (8, .c (.int .i64 i))], []))) (f := slices_IndexFunc_s_bool__impl_DomainsEmpty_1_l1 s_) (K := (fun r => k (.c (.int .i64 r)) [])) he (leads_ren [] (l := [(0, .c (.imm (.sl .bool) s_)), (1, .c (.fn 223 [])), (7, .c (.int .i64 (s_.length:Int))), (8, .c (.int .i64 (0:Int)))]) (st' := []) rfl rfl trivial ⟨.inl rfl, ⟨rfl, trivial⟩, rfl, rfl, trivial⟩) ?_
  rintro i J1 he
  refine And.intro (fun hb => ?_) (fun hb => ?_)
  · have he := ok_t he hb
    have he := ok_rq he
    refine And.intro he.1 ?_
    have he := he.2
    obtain ⟨r1_, hr, he⟩ := ok_bind he
    refine ⟨r1_, hr, ?_⟩
    refine And.intro (fun hb => ?_) (fun hb => ?_)
    · have he := ok_t he hb
      have he := ok_some he
      exact ⟨rfl, _, _, Leads.refl _ _, he⟩
    · have he := ok_f he hb
      have he := ok_rq he
      refine And.intro he.1 ?_
      have he := he.2
      have he := ok_some he
      exact ⟨(i + (1:Int)), he, (leads_ren [] (l := [(0, .c (.imm (.sl .bool) s_)), (1, .c (.fn 223 [])), (7, .c (.int .i64 (s_.length:Int))), (8, .c (.int .i64 (i + (1:Int))))]) (st' := []) rfl rfl trivial ⟨.inl rfl, ⟨rfl, trivial⟩, rfl, rfl, trivial⟩)⟩
  · have he := ok_f he hb
    have he := ok_some he
    exact ⟨rfl, _, _, Leads.refl _ _, he⟩

noncomputable def c_slices_ContainsFunc_s_bool__impl_DomainsEmpty_1 : Con := fun args st => match args, st with
  | [.c (.imm (.sl .bool) s_), .c (.fn 223 [])], [] => .opt (Bool) (slices_ContainsFunc_s_bool__impl_DomainsEmpty_1 s_) (fun r => .ret (.c (.bool r)) [])
  | _, _ => .fail

noncomputable def C_slices_ContainsFunc_s_bool__impl_DomainsEmpty_1 : Cfg := { y := tys, n := 9, h := 0, tab := [(264, c_slices_IndexFunc_s_bool__impl_DomainsEmpty_1)], cut := [], hand := [], good := [], deep := [], sched := [] }

theorem t_slices_ContainsFunc_s_bool__impl_DomainsEmpty_1 : TabOk Try.prog C_slices_ContainsFunc_s_bool__impl_DomainsEmpty_1 := by
  refine tabOk_of ?_
  simp only [C_slices_ContainsFunc_s_bool__impl_DomainsEmpty_1, List.forall_mem_cons]
  exact ⟨k_slices_IndexFunc_s_bool__impl_DomainsEmpty_1, fun p h => by cases h⟩

theorem k_slices_ContainsFunc_s_bool__impl_DomainsEmpty_1 : Entry Try.prog 222 c_slices_ContainsFunc_s_bool__impl_DomainsEmpty_1 := by
  refine entry_by (C := C_slices_ContainsFunc_s_bool__impl_DomainsEmpty_1) mixed tys_ok t_slices_ContainsFunc_s_bool__impl_DomainsEmpty_1 (fn := Try.f222) (c := bd Try.f222) (by kernel_rfl) (by kernel_rfl) (by kernel_rfl) (by kernel_rfl) ?_
  intro args st k he
  unfold c_slices_ContainsFunc_s_bool__impl_DomainsEmpty_1 at he
  split at he
  rotate_left
  · exact he.elim
  rename_i s_
  have he : Ok (slices_ContainsFunc_s_bool__impl_DomainsEmpty_1 s_) (fun r => k (.c (.bool r)) []) := he
  refine ⟨rfl, rfl, ?_⟩
  obtain ⟨r1_, hr, he⟩ := ok_bind he
  refine ⟨r1_, hr, ?_⟩
  have he := ok_some he
  exact ⟨rfl, _, _, Leads.refl _ _, he⟩

noncomputable def c_impl_DomainsEmpty : Con := fun args st => match args, st with
  | [.agg [.imm (.int .i64) m_0, .imm (.pair (.int .i64) (.pair (.sl (.int .i64)) (.pair (.sl (.int .i64)) (.pair (.int .i64) (.sl (.sl (.int .i64))))))) m_1], .c (.imm (.sl .bool) d)], [] => .opt (Bool) (impl_DomainsEmpty (m_0, m_1) d) (fun r => .ret (.c (.bool r)) [])
  | _, _ => .fail

noncomputable def C_impl_DomainsEmpty : Cfg := { y := tys, n := 12, h := 0, tab := [(142, c_impl_DomainsValid), (222, c_slices_ContainsFunc_s_bool__impl_DomainsEmpty_1)], cut := [], hand := [], good := [], deep := [], sched := [] }

theorem t_impl_DomainsEmpty : TabOk Try.prog C_impl_DomainsEmpty := by
  refine tabOk_of ?_
  simp only [C_impl_DomainsEmpty, List.forall_mem_cons]
  exact ⟨k_impl_DomainsValid, k_slices_ContainsFunc_s_bool__impl_DomainsEmpty_1, fun p h => by cases h⟩

theorem k_impl_DomainsEmpty : Entry Try.prog 143 c_impl_DomainsEmpty := by
  refine entry_by (C := C_impl_DomainsEmpty) mixed tys_ok t_impl_DomainsEmpty (fn := Try.f143) (c := bd Try.f143) (by kernel_rfl) (by kernel_rfl) (by kernel_rfl) (by kernel_rfl) ?_
  intro args st k he
  unfold c_impl_DomainsEmpty at he
  split at he
  rotate_left
  · exact he.elim
  rename_i m_0 m_1 d
  have he : Ok (impl_DomainsEmpty (m_0, m_1) d) (fun r => k (.c (.bool r)) []) := he
  refine ⟨rfl, rfl, ?_⟩
  obtain ⟨r1_, hr, he⟩ := ok_bind he
  refine ⟨r1_, hr, ?_⟩
  refine And.intro (fun hb => ?_) (fun hb => ?_)
  · have he := ok_t he hb
    obtain ⟨r2_, hr, he⟩ := ok_bind he
    refine ⟨r2_, hr, ?_⟩
    have he := ok_some he
    exact ⟨rfl, _, _, (leads_ren [] (l := [(4, .c (.bool r2_))]) (st' := []) rfl rfl trivial ⟨.inl rfl, trivial⟩), he⟩
  · have he := ok_f he hb
    have he := ok_some he
    exact ⟨rfl, _, _, (leads_ren [] (l := [(4, .c (.bool false))]) (st' := []) rfl rfl trivial ⟨.inr rfl, trivial⟩), he⟩

noncomputable def c_impl_LowerBound : Con := fun args st => match args, st with
  | [.agg [.imm (.int .i64) a0_0, .imm (.pair (.int .i64) (.pair (.sl (.int .i64)) (.pair (.sl (.int .i64)) (.pair (.int .i64) (.sl (.sl (.int .i64))))))) a0_1], .c (.imm (.int .i64) a1), .c (.imm (.sl .bool) a2)], [] => .opt (Int × Bool) (impl_LowerBound (a0_0, a0_1) a1 a2) (fun r => .ret (.tup [.c (.int .i64 r.1), .c (.bool r.2)]) [])
  | _, _ => .fail

noncomputable def C_impl_LowerBound : Cfg := { y := tys, n := 68, h := 0, tab := [(100, c_impl_isObjective), (142, c_impl_DomainsValid), (143, c_impl_DomainsEmpty)], cut := [], hand := [], good := [], deep := [], sched := [] }

theorem t_impl_LowerBound : TabOk Try.prog C_impl_LowerBound := by
  refine tabOk_of ?_
  simp only [C_impl_LowerBound, List.forall_mem_cons]
  exact ⟨k_impl_isObjective, k_impl_DomainsValid, k_impl_DomainsEmpty, fun p h => by cases h⟩

theorem k_impl_LowerBound : Entry Try.prog 57 c_impl_LowerBound := by
  refine entry_by (C := C_impl_LowerBound) mixed tys_ok t_impl_LowerBound (fn := Try.f57) (c := bd Try.f57) (by kernel_rfl) (by kernel_rfl) (by kernel_rfl) (by kernel_rfl) ?_
  intro args st k he
  unfold c_impl_LowerBound at he
  split at he
  rotate_left
  · exact he.elim
  rename_i a0_0 a0_1 a1 a2
  have he : Ok (impl_LowerBound (a0_0, a0_1) a1 a2) (fun r => k (.tup [.c (.int .i64 r.1), .c (.bool r.2)]) []) := he
  refine ⟨rfl, rfl, ?_⟩
  obtain ⟨r1_, hr, he⟩ := ok_bind he
  refine ⟨r1_, hr, ?_⟩
  refine And.intro (fun hb => ?_) (fun hb => ?_)
  · have he := ok_f he hb
    obtain ⟨r2_, hr, he⟩ := ok_bind he
    refine ⟨r2_, hr, ?_⟩
    refine And.intro (fun hb => ?_) (fun hb => ?_)
    · have he := ok_f he hb
      obtain ⟨r3_, hr, he⟩ := ok_bind he
      refine ⟨r3_, hr, ?_⟩
      refine And.intro (fun hb => ?_) (fun hb => ?_)
      · have he := ok_t he hb
        have he := ok_some he
        exact ⟨rfl, _, _, (leads_ren [] (l := [(6, .c (.int .i64 (0:Int))), (7, .c (.bool false))]) (st' := []) rfl rfl trivial ⟨rfl, .inr rfl, trivial⟩), he⟩
      · have he := ok_f he hb
        refine loop_model mixed tys_ok t_impl_LowerBound (S := Int × Int) (I := (fun (i, i1) => (envOf [(1, .c (.imm (.int .i64) a1)), (8, .c (.int .i64 i)), (31, .c (.imm (.sl .bool) a2)), (32, .c (.int .i64 (a2.length:Int))), (33, .c (.int .i64 i1))], []))) (f := impl_LowerBound_l1 a1 a2) (K := (fun r => k (.tup [.c (.int .i64 r.1), .c (.bool r.2)]) [])) he (leads_ren [] (l := [(1, .c (.imm (.int .i64) a1)), (8, .c (.int .i64 (0:Int))), (31, .c (.imm (.sl .bool) a2)), (32, .c (.int .i64 (a2.length:Int))), (33, .c (.int .i64 (0:Int)))]) (st' := []) rfl rfl trivial ⟨.inl rfl, rfl, .inl rfl, rfl, rfl, trivial⟩) ?_
        rintro ⟨i, i1⟩ J1 he
        refine And.intro (fun hb => ?_) (fun hb => ?_)
        · have he := ok_t he hb
          have he := ok_rq he
          refine And.intro he.1 ?_
          have he := he.2
          refine loop_model mixed tys_ok t_impl_LowerBound (S := Int × Bool × Int) (I := (fun (i2, i3, i4) => (envOf [(1, .c (.imm (.int .i64) a1)), (8, .c (.int .i64 i)), (9, .c (.int .i64 i1)), (11, .c (.int .i64 i2)), (12, .c (.bool i3)), (31, .c (.imm (.sl .bool) a2)), (32, .c (.int .i64 (a2.length:Int))), (33, .c (.int .i64 i1)), (38, .c (.imm .bool (a2.getD i1.toNat []))), (39, .c (.int .i64 ((a2.getD i1.toNat []).length:Int))), (40, .c (.int .i64 i4))], []))) (f := impl_LowerBound_l2 a1 a2 i i1) (K := (LK J1 (fun r => k (.tup [.c (.int .i64 r.1), .c (.bool r.2)]) []))) he (leads_ren [] (l := [(1, .c (.imm (.int .i64) a1)), (8, .c (.int .i64 i)), (9, .c (.int .i64 i1)), (11, .c (.int .i64 (0:Int))), (12, .c (.bool false)), (31, .c (.imm (.sl .bool) a2)), (32, .c (.int .i64 (a2.length:Int))), (33, .c (.int .i64 i1)), (38, .c (.imm .bool (a2.getD i1.toNat []))), (39, .c (.int .i64 ((a2.getD i1.toNat []).length:Int))), (40, .c (.int .i64 (0:Int)))]) (st' := []) rfl rfl trivial ⟨.inl rfl, rfl, rfl, rfl, .inr rfl, .inl rfl, rfl, rfl, .inl rfl, rfl, rfl, trivial⟩) ?_
          rintro ⟨i2, i3, i4⟩ J2 he
          refine And.intro (fun hb => ?_) (fun hb => ?_)
          · have he := ok_t he hb
            have he := ok_rq he
            refine And.intro he.1 ?_
            have he := he.2
            have he := ok_rq he
            refine And.intro he.1 ?_
            have he := he.2
            have he := ok_rq he
            refine And.intro he.1 ?_
            have he := he.2
            refine And.intro (fun hb => ?_) (fun hb => ?_)
            · have he := ok_t he hb
              refine And.intro (fun hb => ?_) (fun hb => ?_)
              · have he := ok_f he hb
                refine And.intro (fun hb => ?_) (fun hb => ?_)
                · have he := ok_t he hb
                  have he := ok_rq he
                  refine And.intro he.1 ?_
                  have he := he.2
                  have he := ok_some he
                  exact ⟨(((a1.getD i1.toNat 0) * i4), true, (i4 + (1:Int))), he, (leads_ren [] (l := [(1, .c (.imm (.int .i64) a1)), (8, .c (.int .i64 i)), (9, .c (.int .i64 i1)), (11, .c (.int .i64 ((a1.getD i1.toNat 0) * i4))), (12, .c (.bool true)), (31, .c (.imm (.sl .bool) a2)), (32, .c (.int .i64 (a2.length:Int))), (33, .c (.int .i64 i1)), (38, .c (.imm .bool (a2.getD i1.toNat []))), (39, .c (.int .i64 ((a2.getD i1.toNat []).length:Int))), (40, .c (.int .i64 (i4 + (1:Int))))]) (st' := []) rfl rfl trivial ⟨.inl rfl, rfl, rfl, rfl, .inr rfl, .inl rfl, rfl, rfl, .inl rfl, rfl, rfl, trivial⟩)⟩
                · have he := ok_f he hb
                  have he := ok_rq he
                  refine And.intro he.1 ?_
                  have he := he.2
                  have he := ok_some he
                  exact ⟨(i2, i3, (i4 + (1:Int))), he, (leads_ren [] (l := [(1, .c (.imm (.int .i64) a1)), (8, .c (.int .i64 i)), (9, .c (.int .i64 i1)), (11, .c (.int .i64 i2)), (12, .c (.bool i3)), (31, .c (.imm (.sl .bool) a2)), (32, .c (.int .i64 (a2.length:Int))), (33, .c (.int .i64 i1)), (38, .c (.imm .bool (a2.getD i1.toNat []))), (39, .c (.int .i64 ((a2.getD i1.toNat []).length:Int))), (40, .c (.int .i64 (i4 + (1:Int))))]) (st' := []) rfl rfl trivial ⟨.inl rfl, rfl, rfl, rfl, .inl rfl, .inl rfl, rfl, rfl, .inl rfl, rfl, rfl, trivial⟩)⟩
              · have he := ok_t he hb
                have he := ok_rq he
                refine And.intro he.1 ?_
                have he := he.2
                have he := ok_some he
                exact ⟨(((a1.getD i1.toNat 0) * i4), true, (i4 + (1:Int))), he, (leads_ren [] (l := [(1, .c (.imm (.int .i64) a1)), (8, .c (.int .i64 i)), (9, .c (.int .i64 i1)), (11, .c (.int .i64 ((a1.getD i1.toNat 0) * i4))), (12, .c (.bool true)), (31, .c (.imm (.sl .bool) a2)), (32, .c (.int .i64 (a2.length:Int))), (33, .c (.int .i64 i1)), (38, .c (.imm .bool (a2.getD i1.toNat []))), (39, .c (.int .i64 ((a2.getD i1.toNat []).length:Int))), (40, .c (.int .i64 (i4 + (1:Int))))]) (st' := []) rfl rfl trivial ⟨.inl rfl, rfl, rfl, rfl, .inr rfl, .inl rfl, rfl, rfl, .inl rfl, rfl, rfl, trivial⟩)⟩
            · have he := ok_f he hb
              have he := ok_rq he
              refine And.intro he.1 ?_
              have he := he.2
              have he := ok_some he
              exact ⟨(i2, i3, (i4 + (1:Int))), he, (leads_ren [] (l := [(1, .c (.imm (.int .i64) a1)), (8, .c (.int .i64 i)), (9, .c (.int .i64 i1)), (11, .c (.int .i64 i2)), (12, .c (.bool i3)), (31, .c (.imm (.sl .bool) a2)), (32, .c (.int .i64 (a2.length:Int))), (33, .c (.int .i64 i1)), (38, .c (.imm .bool (a2.getD i1.toNat []))), (39, .c (.int .i64 ((a2.getD i1.toNat []).length:Int))), (40, .c (.int .i64 (i4 + (1:Int))))]) (st' := []) rfl rfl trivial ⟨.inl rfl, rfl, rfl, rfl, .inl rfl, .inl rfl, rfl, rfl, .inl rfl, rfl, rfl, trivial⟩)⟩
          · have he := ok_f he hb
            have he := ok_rq he
            refine And.intro he.1 ?_
            have he := he.2
            have he := ok_rq he
            refine And.intro he.1 ?_
            have he := he.2
            have he := ok_some he
            exact ⟨((i + i2), (i1 + (1:Int))), he, (leads_ren [] (l := [(1, .c (.imm (.int .i64) a1)), (8, .c (.int .i64 (i + i2))), (31, .c (.imm (.sl .bool) a2)), (32, .c (.int .i64 (a2.length:Int))), (33, .c (.int .i64 (i1 + (1:Int))))]) (st' := []) rfl rfl trivial ⟨.inl rfl, rfl, .inl rfl, rfl, rfl, trivial⟩)⟩
        · have he := ok_f he hb
          have he := ok_some he
          exact ⟨rfl, _, _, Leads.refl _ _, he⟩
    · have he := ok_t he hb
      have he := ok_some he
      exact ⟨rfl, _, _, (leads_ren [] (l := [(6, .c (.int .i64 (0:Int))), (7, .c (.bool false))]) (st' := []) rfl rfl trivial ⟨rfl, .inr rfl, trivial⟩), he⟩
  · have he := ok_t he hb
    have he := ok_some he
    exact ⟨rfl, _, _, (leads_ren [] (l := [(6, .c (.int .i64 (0:Int))), (7, .c (.bool false))]) (st' := []) rfl rfl trivial ⟨rfl, .inr rfl, trivial⟩), he⟩

noncomputable def c_spec_l9Coefs : Con := fun args st => match args, st with
  | [.agg [.imm (.int .i64) m_0, .imm (.pair (.int .i64) (.pair (.sl (.int .i64)) (.pair (.sl (.int .i64)) (.pair (.int .i64) (.sl (.sl (.int .i64))))))) m_1], .c (.imm (.int .i64) coefs)], [] => .opt (Bool) (spec_l9Coefs (m_0, m_1) coefs) (fun r => .ret (.c (.bool r)) [])
  | _, _ => .fail

noncomputable def C_spec_l9Coefs : Cfg := { y := tys, n := 35, h := 0, tab := [(196, c_spec_ModelValid)], cut := [], hand := [], good := [], deep := [], sched := [] }

theorem t_spec_l9Coefs : TabOk Try.prog C_spec_l9Coefs := by
  refine tabOk_of ?_
  simp only [C_spec_l9Coefs, List.forall_mem_cons]
  exact ⟨k_spec_ModelValid, fun p h => by cases h⟩

theorem k_spec_l9Coefs : Entry Try.prog 104 c_spec_l9Coefs := by
  refine entry_by (C := C_spec_l9Coefs) mixed tys_ok t_spec_l9Coefs (fn := Try.f104) (c := bd Try.f104) (by kernel_rfl) (by kernel_rfl) (by kernel_rfl) (by kernel_rfl) ?_
  intro args st k he
  unfold c_spec_l9Coefs at he
  split at he
  rotate_left
  · exact he.elim
  rename_i m_0 m_1 coefs
  have he : Ok (spec_l9Coefs (m_0, m_1) coefs) (fun r => k (.c (.bool r)) []) := he
  refine ⟨rfl, rfl, ?_⟩
  obtain ⟨r1_, hr, he⟩ := ok_bind he
  refine ⟨r1_, hr, ?_⟩
  refine And.intro (fun hb => ?_) (fun hb => ?_)
  · have he := ok_f he hb
    refine And.intro (fun hb => ?_) (fun hb => ?_)
    · have he := ok_t he hb
      have he := ok_some he
      exact ⟨rfl, _, _, (leads_ren [] (l := [(4, .c (.bool false))]) (st' := []) rfl rfl trivial ⟨.inr rfl, trivial⟩), he⟩
    · have he := ok_f he hb
      refine loop_model mixed tys_ok t_spec_l9Coefs (S := Int) (I := (fun i => (envOf [(1, .c (.imm (.int .i64) coefs)), (5, .c (.int .i64 i))], []))) (f := spec_l9Coefs_l1 coefs) (K := (fun r => k (.c (.bool r)) [])) he (leads_ren [] (l := [(1, .c (.imm (.int .i64) coefs)), (5, .c (.int .i64 (0:Int)))]) (st' := []) rfl rfl trivial ⟨.inl rfl, rfl, trivial⟩) ?_
      rintro i J1 he
      refine And.intro (fun hb => ?_) (fun hb => ?_)
      · have he := ok_t he hb
        have he := ok_rq he
        refine And.intro he.1 ?_
        have he := he.2
        refine And.intro (fun hb => ?_) (fun hb => ?_)
        · have he := ok_f he hb
          have he := ok_rq he
          refine And.intro he.1 ?_
          have he := he.2
          refine And.intro (fun hb => ?_) (fun hb => ?_)
          · have he := ok_t he hb
            have he := ok_some he
            exact ⟨rfl, _, _, Leads.refl _ _, he⟩
          · have he := ok_f he hb
            have he := ok_rq he
            refine And.intro he.1 ?_
            have he := he.2
            have he := ok_some he
            exact ⟨(i + (1:Int)), he, (leads_ren [] (l := [(1, .c (.imm (.int .i64) coefs)), (5, .c (.int .i64 (i + (1:Int))))]) (st' := []) rfl rfl trivial ⟨.inl rfl, rfl, trivial⟩)⟩
        · have he := ok_t he hb
          have he := ok_some he
          exact ⟨rfl, _, _, Leads.refl _ _, he⟩
      · have he := ok_f he hb
        have he := ok_some he
        exact ⟨rfl, _, _, Leads.refl _ _, he⟩
  · have he := ok_t he hb
    have he := ok_some he
    exact ⟨rfl, _, _, (leads_ren [] (l := [(4, .c (.bool false))]) (st' := []) rfl rfl trivial ⟨.inr rfl, trivial⟩), he⟩

noncomputable def c_spec_l8Fits : Con := fun args st => match args, st with
  | [.agg [.imm (.int .i64) m_0, .imm (.pair (.int .i64) (.pair (.sl (.int .i64)) (.pair (.sl (.int .i64)) (.pair (.int .i64) (.sl (.sl (.int .i64))))))) m_1], .c (.imm (.sl .bool) d)], [] => .opt (Bool) (spec_l8Fits (m_0, m_1) d) (fun r => .ret (.c (.bool r)) [])
  | _, _ => .fail

noncomputable def C_spec_l8Fits : Cfg := { y := tys, n := 30, h := 0, tab := [], cut := [], hand := [], good := [], deep := [], sched := [] }

theorem t_spec_l8Fits : TabOk Try.prog C_spec_l8Fits := tabOk_of (fun p h => by cases h)

theorem k_spec_l8Fits : Entry Try.prog 221 c_spec_l8Fits := by
  refine entry_by (C := C_spec_l8Fits) mixed tys_ok t_spec_l8Fits (fn := Try.f221) (c := bd Try.f221) (by kernel_rfl) (by kernel_rfl) (by kernel_rfl) (by kernel_rfl) ?_
  intro args st k he
  unfold c_spec_l8Fits at he
  split at he
  rotate_left
  · exact he.elim
  rename_i m_0 m_1 d
  have he : Ok (spec_l8Fits (m_0, m_1) d) (fun r => k (.c (.bool r)) []) := he
  refine ⟨rfl, rfl, ?_⟩
  refine And.intro (fun hb => ?_) (fun hb => ?_)
  · have he := ok_t he hb
    have he := ok_some he
    exact ⟨rfl, _, _, (leads_ren [] (l := [(4, .c (.bool false))]) (st' := []) rfl rfl trivial ⟨.inr rfl, trivial⟩), he⟩
  · have he := ok_f he hb
    refine loop_model mixed tys_ok t_spec_l8Fits (S := Int) (I := (fun i => (envOf [(1, .c (.imm (.sl .bool) d)), (2, .c (.ptr 10000000 0)), (5, .c (.int .i64 i))], [(10000000, .rc [.imm (.int .i64) (m_0, m_1).1, .imm (.pair (.int .i64) (.pair (.sl (.int .i64)) (.pair (.sl (.int .i64)) (.pair (.int .i64) (.sl (.sl (.int .i64))))))) (m_0, m_1).2])]))) (f := spec_l8Fits_l1 (m_0, m_1) d) (K := (fun r => k (.c (.bool r)) [])) he (leads_ren [(10000000, 2)] (l := [(1, .c (.imm (.sl .bool) d)), (2, .c (.ptr 10000000 0)), (5, .c (.int .i64 (0:Int)))]) (st' := [(10000000, .rc [.imm (.int .i64) (m_0, m_1).1, .imm (.pair (.int .i64) (.pair (.sl (.int .i64)) (.pair (.sl (.int .i64)) (.pair (.int .i64) (.sl (.sl (.int .i64))))))) (m_0, m_1).2])]) rfl rfl ⟨⟨.inl rfl, .inl rfl, trivial⟩, trivial⟩ ⟨.inl rfl, ⟨⟨rfl, rfl⟩, rfl⟩, rfl, trivial⟩) ?_
    rintro i J1 he
    refine And.intro (fun hb => ?_) (fun hb => ?_)
    · have he := ok_t he hb
      refine And.intro (by kernel_rfl) ?_
      have he := ok_rq he
      refine And.intro he.1 ?_
      have he := he.2
      have he := ok_rq he
      refine And.intro he.1 ?_
      have he := he.2
      have he := ok_rq he
      refine And.intro he.1 ?_
      have he := he.2
      refine And.intro (fun hb => ?_) (fun hb => ?_)
      · have he := ok_t he hb
        have he := ok_some he
        exact ⟨rfl, _, _, (leads_ren [] (l := [(4, .c (.bool false))]) (st' := []) rfl rfl trivial ⟨.inr rfl, trivial⟩), he⟩
      · have he := ok_f he hb
        have he := ok_rq he
        refine And.intro he.1 ?_
        have he := he.2
        have he := ok_some he
        exact ⟨(i + (1:Int)), he, (leads_ren [] (l := [(1, .c (.imm (.sl .bool) d)), (2, .c (.ptr 10000000 0)), (5, .c (.int .i64 (i + (1:Int))))]) (st' := [(10000000, .rc [.imm (.int .i64) (m_0, m_1).1, .imm (.pair (.int .i64) (.pair (.sl (.int .i64)) (.pair (.sl (.int .i64)) (.pair (.int .i64) (.sl (.sl (.int .i64))))))) (m_0, m_1).2])]) rfl rfl ⟨⟨.inl rfl, .inl rfl, trivial⟩, trivial⟩ ⟨.inl rfl, ⟨⟨rfl, rfl⟩, rfl⟩, rfl, trivial⟩)⟩
    · have he := ok_f he hb
      have he := ok_some he
      exact ⟨rfl, _, _, (leads_ren [] (l := [(4, .c (.bool true))]) (st' := []) rfl rfl trivial ⟨.inr rfl, trivial⟩), he⟩

noncomputable def c_spec_DomainsValid : Con := fun args st => match args, st with
  | [.agg [.imm (.int .i64) m_0, .imm (.pair (.int .i64) (.pair (.sl (.int .i64)) (.pair (.sl (.int .i64)) (.pair (.int .i64) (.sl (.sl (.int .i64))))))) m_1], .c (.imm (.sl .bool) d)], [] => .opt (Bool) (spec_DomainsValid (m_0, m_1) d) (fun r => .ret (.c (.bool r)) [])
  | _, _ => .fail

noncomputable def C_spec_DomainsValid : Cfg := { y := tys, n := 12, h := 0, tab := [(196, c_spec_ModelValid), (221, c_spec_l8Fits)], cut := [], hand := [], good := [], deep := [], sched := [] }

theorem t_spec_DomainsValid : TabOk Try.prog C_spec_DomainsValid := by
  refine tabOk_of ?_
  simp only [C_spec_DomainsValid, List.forall_mem_cons]
  exact ⟨k_spec_ModelValid, k_spec_l8Fits, fun p h => by cases h⟩

theorem k_spec_DomainsValid : Entry Try.prog 137 c_spec_DomainsValid := by
  refine entry_by (C := C_spec_DomainsValid) mixed tys_ok t_spec_DomainsValid (fn := Try.f137) (c := bd Try.f137) (by kernel_rfl) (by kernel_rfl) (by kernel_rfl) (by kernel_rfl) ?_
  intro args st k he
  unfold c_spec_DomainsValid at he
  split at he
  rotate_left
  · exact he.elim
  rename_i m_0 m_1 d
  have he : Ok (spec_DomainsValid (m_0, m_1) d) (fun r => k (.c (.bool r)) []) := he
  refine ⟨rfl, rfl, ?_⟩
  obtain ⟨r1_, hr, he⟩ := ok_bind he
  refine ⟨r1_, hr, ?_⟩
  refine And.intro (fun hb => ?_) (fun hb => ?_)
  · have he := ok_t he hb
    obtain ⟨r2_, hr, he⟩ := ok_bind he
    refine ⟨r2_, hr, ?_⟩
    have he := ok_some he
    exact ⟨rfl, _, _, (leads_ren [] (l := [(4, .c (.bool r2_))]) (st' := []) rfl rfl trivial ⟨.inl rfl, trivial⟩), he⟩
  · have he := ok_f he hb
    have he := ok_some he
    exact ⟨rfl, _, _, (leads_ren [] (l := [(4, .c (.bool false))]) (st' := []) rfl rfl trivial ⟨.inr rfl, trivial⟩), he⟩

noncomputable def c_spec_l8Empty : Con := fun args st => match args, st with
  | [.c (.imm (.sl .bool) d)], [] => .opt (Bool) (spec_l8Empty d) (fun r => .ret (.c (.bool r)) [])
  | _, _ => .fail

noncomputable def C_spec_l8Empty : Cfg := { y := tys, n := 33, h := 0, tab := [], cut := [], hand := [], good := [], deep := [], sched := [] }

theorem t_spec_l8Empty : TabOk Try.prog C_spec_l8Empty := tabOk_of (fun p h => by cases h)

theorem k_spec_l8Empty : Entry Try.prog 138 c_spec_l8Empty := by
  refine entry_by (C := C_spec_l8Empty) mixed tys_ok t_spec_l8Empty (fn := Try.f138) (c := bd Try.f138) (by kernel_rfl) (by kernel_rfl) (by kernel_rfl) (by kernel_rfl) ?_
  intro args st k he
  unfold c_spec_l8Empty at he
  split at he
  rotate_left
  · exact he.elim
  rename_i d
  have he : Ok (spec_l8Empty d) (fun r => k (.c (.bool r)) []) := he
  refine ⟨rfl, rfl, ?_⟩
  refine loop_model mixed tys_ok t_spec_l8Empty (S := Int) (I := (fun i => (envOf [(0, .c (.imm (.sl .bool) d)), (3, .c (.int .i64 i))], []))) (f := spec_l8Empty_l1 d) (K := (fun r => k (.c (.bool r)) [])) he (leads_ren [] (l := [(0, .c (.imm (.sl .bool) d)), (3, .c (.int .i64 (0:Int)))]) (st' := []) rfl rfl trivial ⟨.inl rfl, rfl, trivial⟩) ?_
  rintro i J1 he
  refine And.intro (fun hb => ?_) (fun hb => ?_)
  · have he := ok_t he hb
    refine loop_model mixed tys_ok t_spec_l8Empty (S := Bool × Int) (I := (fun (some_, k_) => (envOf [(0, .c (.imm (.sl .bool) d)), (3, .c (.int .i64 i)), (4, .c (.bool some_)), (5, .c (.int .i64 k_))], []))) (f := spec_l8Empty_l2 d i) (K := (LK J1 (fun r => k (.c (.bool r)) []))) he (leads_ren [] (l := [(0, .c (.imm (.sl .bool) d)), (3, .c (.int .i64 i)), (4, .c (.bool false)), (5, .c (.int .i64 (0:Int)))]) (st' := []) rfl rfl trivial ⟨.inl rfl, rfl, .inr rfl, rfl, trivial⟩) ?_
    rintro ⟨some_, k_⟩ J2 he
    have he := ok_rq he
    refine And.intro he.1 ?_
    have he := he.2
    refine And.intro (fun hb => ?_) (fun hb => ?_)
    · have he := ok_t he hb
      refine And.intro (fun hb => ?_) (fun hb => ?_)
      · have he := ok_f he hb
        have he := ok_rq he
        refine And.intro he.1 ?_
        have he := he.2
        have he := ok_rq he
        refine And.intro he.1 ?_
        have he := he.2
        have he := ok_rq he
        refine And.intro he.1 ?_
        have he := he.2
        have he := ok_some he
        exact ⟨(((d.getD i.toNat []).getD k_.toNat false), (k_ + (1:Int))), he, (leads_ren [] (l := [(0, .c (.imm (.sl .bool) d)), (3, .c (.int .i64 i)), (4, .c (.bool ((d.getD i.toNat []).getD k_.toNat false))), (5, .c (.int .i64 (k_ + (1:Int))))]) (st' := []) rfl rfl trivial ⟨.inl rfl, rfl, .inl rfl, rfl, trivial⟩)⟩
      · have he := ok_t he hb
        have he := ok_rq he
        refine And.intro he.1 ?_
        have he := he.2
        have he := ok_some he
        exact ⟨(true, (k_ + (1:Int))), he, (leads_ren [] (l := [(0, .c (.imm (.sl .bool) d)), (3, .c (.int .i64 i)), (4, .c (.bool true)), (5, .c (.int .i64 (k_ + (1:Int))))]) (st' := []) rfl rfl trivial ⟨.inl rfl, rfl, .inr rfl, rfl, trivial⟩)⟩
    · have he := ok_f he hb
      refine And.intro (fun hb => ?_) (fun hb => ?_)
      · have he := ok_t he hb
        have he := ok_some he
        exact ⟨rfl, _, _, Leads.refl _ _, he⟩
      · have he := ok_f he hb
        have he := ok_rq he
        refine And.intro he.1 ?_
        have he := he.2
        have he := ok_some he
        exact ⟨(i + (1:Int)), he, (leads_ren [] (l := [(0, .c (.imm (.sl .bool) d)), (3, .c (.int .i64 (i + (1:Int))))]) (st' := []) rfl rfl trivial ⟨.inl rfl, rfl, trivial⟩)⟩
  · have he := ok_f he hb
    have he := ok_some he
    exact ⟨rfl, _, _, Leads.refl _ _, he⟩

noncomputable def c_spec_l8Best : Con := fun args st => match args, st with
  | [.c (.int .i64 coef), .c (.imm .bool d)], [] => .opt (Int) (spec_l8Best coef d) (fun r => .ret (.c (.int .i64 r)) [])
  | _, _ => .fail

noncomputable def C_spec_l8Best : Cfg := { y := tys, n := 33, h := 0, tab := [], cut := [], hand := [], good := [], deep := [], sched := [] }

theorem t_spec_l8Best : TabOk Try.prog C_spec_l8Best := tabOk_of (fun p h => by cases h)

theorem k_spec_l8Best : Entry Try.prog 139 c_spec_l8Best := by
  refine entry_by (C := C_spec_l8Best) mixed tys_ok t_spec_l8Best (fn := Try.f139) (c := bd Try.f139) (by kernel_rfl) (by kernel_rfl) (by kernel_rfl) (by kernel_rfl) ?_
  intro args st k he
  unfold c_spec_l8Best at he
  split at he
  rotate_left
  · exact he.elim
  rename_i coef d
  have he : Ok (spec_l8Best coef d) (fun r => k (.c (.int .i64 r)) []) := he
  refine ⟨rfl, rfl, ?_⟩
  refine loop_model mixed tys_ok t_spec_l8Best (S := Int × Bool × Int) (I := (fun (best, seen, k_) => (envOf [(0, .c (.int .i64 coef)), (1, .c (.imm .bool d)), (5, .c (.int .i64 best)), (6, .c (.bool seen)), (7, .c (.int .i64 k_))], []))) (f := spec_l8Best_l1 coef d) (K := (fun r => k (.c (.int .i64 r)) [])) he (leads_ren [] (l := [(0, .c (.int .i64 coef)), (1, .c (.imm .bool d)), (5, .c (.int .i64 (0:Int))), (6, .c (.bool false)), (7, .c (.int .i64 (0:Int)))]) (st' := []) rfl rfl trivial ⟨rfl, .inl rfl, rfl, .inr rfl, rfl, trivial⟩) ?_
  rintro ⟨best, seen, k_⟩ J1 he
  refine And.intro (fun hb => ?_) (fun hb => ?_)
  · have he := ok_t he hb
    have he := ok_rq he
    refine And.intro he.1 ?_
    have he := he.2
    refine And.intro (fun hb => ?_) (fun hb => ?_)
    · have he := ok_t he hb
      refine And.intro (fun hb => ?_) (fun hb => ?_)
      · have he := ok_f he hb
        have he := ok_rq he
        refine And.intro he.1 ?_
        have he := he.2
        refine And.intro (fun hb => ?_) (fun hb => ?_)
        · have he := ok_t he hb
          have he := ok_rq he
          refine And.intro he.1 ?_
          have he := he.2
          have he := ok_rq he
          refine And.intro he.1 ?_
          have he := he.2
          have he := ok_some he
          exact ⟨((coef * k_), true, (k_ + (1:Int))), he, (leads_ren [] (l := [(0, .c (.int .i64 coef)), (1, .c (.imm .bool d)), (5, .c (.int .i64 (coef * k_))), (6, .c (.bool true)), (7, .c (.int .i64 (k_ + (1:Int))))]) (st' := []) rfl rfl trivial ⟨rfl, .inl rfl, rfl, .inr rfl, rfl, trivial⟩)⟩
        · have he := ok_f he hb
          have he := ok_rq he
          refine And.intro he.1 ?_
          have he := he.2
          have he := ok_some he
          exact ⟨(best, seen, (k_ + (1:Int))), he, (leads_ren [] (l := [(0, .c (.int .i64 coef)), (1, .c (.imm .bool d)), (5, .c (.int .i64 best)), (6, .c (.bool seen)), (7, .c (.int .i64 (k_ + (1:Int))))]) (st' := []) rfl rfl trivial ⟨rfl, .inl rfl, rfl, .inl rfl, rfl, trivial⟩)⟩
      · have he := ok_t he hb
        have he := ok_rq he
        refine And.intro he.1 ?_
        have he := he.2
        have he := ok_rq he
        refine And.intro he.1 ?_
        have he := he.2
        have he := ok_some he
        exact ⟨((coef * k_), true, (k_ + (1:Int))), he, (leads_ren [] (l := [(0, .c (.int .i64 coef)), (1, .c (.imm .bool d)), (5, .c (.int .i64 (coef * k_))), (6, .c (.bool true)), (7, .c (.int .i64 (k_ + (1:Int))))]) (st' := []) rfl rfl trivial ⟨rfl, .inl rfl, rfl, .inr rfl, rfl, trivial⟩)⟩
    · have he := ok_f he hb
      have he := ok_rq he
      refine And.intro he.1 ?_
      have he := he.2
      have he := ok_some he
      exact ⟨(best, seen, (k_ + (1:Int))), he, (leads_ren [] (l := [(0, .c (.int .i64 coef)), (1, .c (.imm .bool d)), (5, .c (.int .i64 best)), (6, .c (.bool seen)), (7, .c (.int .i64 (k_ + (1:Int))))]) (st' := []) rfl rfl trivial ⟨rfl, .inl rfl, rfl, .inl rfl, rfl, trivial⟩)⟩
  · have he := ok_f he hb
    have he := ok_some he
    exact ⟨rfl, _, _, Leads.refl _ _, he⟩

noncomputable def c_spec_LowerBound : Con := fun args st => match args, st with
  | [.agg [.imm (.int .i64) m_0, .imm (.pair (.int .i64) (.pair (.sl (.int .i64)) (.pair (.sl (.int .i64)) (.pair (.int .i64) (.sl (.sl (.int .i64))))))) m_1], .c (.imm (.int .i64) coefs), .c (.imm (.sl .bool) d)], [] => .opt (Int × Bool) (spec_LowerBound (m_0, m_1) coefs d) (fun r => .ret (.tup [.c (.int .i64 r.1), .c (.bool r.2)]) [])
  | _, _ => .fail

noncomputable def C_spec_LowerBound : Cfg := { y := tys, n := 43, h := 0, tab := [(104, c_spec_l9Coefs), (137, c_spec_DomainsValid), (138, c_spec_l8Empty), (139, c_spec_l8Best)], cut := [], hand := [], good := [], deep := [], sched := [(7, (.first 0 (.first 1 (.first 2 (.first 3 (.first 4 (.first 5 (.first 6 (.first 7 (.first 8 (.first 9 (.alt 10 (.first 11 (.first 12 .done)) .stop))))))))))))] }

theorem t_spec_LowerBound : TabOk Try.prog C_spec_LowerBound := by
  refine tabOk_of ?_
  simp only [C_spec_LowerBound, List.forall_mem_cons]
  exact ⟨k_spec_l9Coefs, k_spec_DomainsValid, k_spec_l8Empty, k_spec_l8Best, fun p h => by cases h⟩

theorem k_spec_LowerBound : Entry Try.prog 58 c_spec_LowerBound := by
  refine entry_by (C := C_spec_LowerBound) mixed tys_ok t_spec_LowerBound (fn := Try.f58) (c := bd Try.f58) (by kernel_rfl) (by kernel_rfl) (by kernel_rfl) (by kernel_rfl) ?_
  intro args st k he
  unfold c_spec_LowerBound at he
  split at he
  rotate_left
  · exact he.elim
  rename_i m_0 m_1 coefs d
  have he : Ok (spec_LowerBound (m_0, m_1) coefs d) (fun r => k (.tup [.c (.int .i64 r.1), .c (.bool r.2)]) []) := he
  refine ⟨rfl, rfl, ?_⟩
  obtain ⟨r1_, hr, he⟩ := ok_bind he
  refine ⟨r1_, hr, ?_⟩
  refine And.intro (fun hb => ?_) (fun hb => ?_)
  · have he := ok_f he hb
    obtain ⟨r2_, hr, he⟩ := ok_bind he
    refine ⟨r2_, hr, ?_⟩
    refine And.intro (fun hb => ?_) (fun hb => ?_)
    · have he := ok_f he hb
      obtain ⟨r3_, hr, he⟩ := ok_bind he
      refine ⟨r3_, hr, ?_⟩
      refine And.intro (fun hb => ?_) (fun hb => ?_)
      · have he := ok_t he hb
        have he := ok_some he
        exact ⟨rfl, _, _, (leads_ren [] (l := [(6, .c (.int .i64 (0:Int))), (7, .c (.bool false))]) (st' := []) rfl rfl trivial ⟨rfl, .inr rfl, trivial⟩), he⟩
      · have he := ok_f he hb
        refine loop_model mixed tys_ok t_spec_LowerBound (S := Int × Int) (I := (fun (n, i) => (envOf [(1, .c (.imm (.int .i64) coefs)), (2, .c (.imm (.sl .bool) d)), (8, .c (.int .i64 n)), (9, .c (.int .i64 i))], []))) (f := spec_LowerBound_l1 coefs d) (K := (fun r => k (.tup [.c (.int .i64 r.1), .c (.bool r.2)]) [])) he (leads_ren [] (l := [(1, .c (.imm (.int .i64) coefs)), (2, .c (.imm (.sl .bool) d)), (8, .c (.int .i64 (0:Int))), (9, .c (.int .i64 (0:Int)))]) (st' := []) rfl rfl trivial ⟨.inl rfl, .inl rfl, rfl, rfl, trivial⟩) ?_
        rintro ⟨n, i⟩ J1 he
        refine And.intro (fun hb => ?_) (fun hb => ?_)
        · have he := ok_t he hb
          refine And.intro (by kernel_rfl) ?_
          have he := ok_rq he
          refine And.intro he.1 ?_
          have he := he.2
          have he := ok_rq he
          refine And.intro he.1 ?_
          have he := he.2
          have he := ok_rq he
          refine And.intro he.1 ?_
          have he := he.2
          refine And.intro ?_ trivial
          obtain ⟨r5_, hr, he⟩ := ok_bind he
          refine ⟨r5_, hr, ?_⟩
          have he := ok_rq he
          refine And.intro he.1 ?_
          have he := he.2
          have he := ok_rq he
          refine And.intro he.1 ?_
          have he := he.2
          have he := ok_some he
          exact ⟨((n - r5_), (i + (1:Int))), he, (leads_ren [] (l := [(1, .c (.imm (.int .i64) coefs)), (2, .c (.imm (.sl .bool) d)), (8, .c (.int .i64 (n - r5_))), (9, .c (.int .i64 (i + (1:Int))))]) (st' := []) rfl rfl trivial ⟨.inl rfl, .inl rfl, rfl, rfl, trivial⟩)⟩
        · have he := ok_f he hb
          have he := ok_some he
          exact ⟨rfl, _, _, Leads.refl _ _, he⟩
    · have he := ok_t he hb
      have he := ok_some he
      exact ⟨rfl, _, _, (leads_ren [] (l := [(6, .c (.int .i64 (0:Int))), (7, .c (.bool false))]) (st' := []) rfl rfl trivial ⟨rfl, .inr rfl, trivial⟩), he⟩
  · have he := ok_t he hb
    have he := ok_some he
    exact ⟨rfl, _, _, (leads_ren [] (l := [(6, .c (.int .i64 (0:Int))), (7, .c (.bool false))]) (st' := []) rfl rfl trivial ⟨rfl, .inr rfl, trivial⟩), he⟩

noncomputable def c_impl_CellsValid : Con := fun args st => match args, st with
  | [.agg [.imm (.int .i64) m_0, .imm (.pair (.int .i64) (.pair (.sl (.int .i64)) (.pair (.sl (.int .i64)) (.pair (.int .i64) (.sl (.sl (.int .i64))))))) m_1], .c (.imm (.int .i64) cells)], [] => .opt (Bool) (impl_CellsValid (m_0, m_1) cells) (fun r => .ret (.c (.bool r)) [])
  | _, _ => .fail

noncomputable def C_impl_CellsValid : Cfg := { y := tys, n := 34, h := 0, tab := [(39, c_impl_ModelValid), (101, c_impl_within)], cut := [], hand := [], good := [], deep := [], sched := [] }

theorem t_impl_CellsValid : TabOk Try.prog C_impl_CellsValid := by
  refine tabOk_of ?_
  simp only [C_impl_CellsValid, List.forall_mem_cons]
  exact ⟨k_impl_ModelValid, k_impl_within, fun p h => by cases h⟩

theorem k_impl_CellsValid : Entry Try.prog 108 c_impl_CellsValid := by
  refine entry_by (C := C_impl_CellsValid) mixed tys_ok t_impl_CellsValid (fn := Try.f108) (c := bd Try.f108) (by kernel_rfl) (by kernel_rfl) (by kernel_rfl) (by kernel_rfl) ?_
  intro args st k he
  unfold c_impl_CellsValid at he
  split at he
  rotate_left
  · exact he.elim
  rename_i m_0 m_1 cells
  have he : Ok (impl_CellsValid (m_0, m_1) cells) (fun r => k (.c (.bool r)) []) := he
  refine ⟨rfl, rfl, ?_⟩
  obtain ⟨r1_, hr, he⟩ := ok_bind he
  refine ⟨r1_, hr, ?_⟩
  refine And.intro (fun hb => ?_) (fun hb => ?_)
  · have he := ok_f he hb
    refine And.intro (fun hb => ?_) (fun hb => ?_)
    · have he := ok_t he hb
      have he := ok_some he
      exact ⟨rfl, _, _, (leads_ren [] (l := [(4, .c (.bool false))]) (st' := []) rfl rfl trivial ⟨.inr rfl, trivial⟩), he⟩
    · have he := ok_f he hb
      refine loop_model mixed tys_ok t_impl_CellsValid (S := Int) (I := (fun i => (envOf [(2, .c (.ptr 10000000 0)), (18, .c (.imm (.int .i64) cells)), (19, .c (.int .i64 (cells.length:Int))), (20, .c (.int .i64 i))], [(10000000, .rc [.imm (.int .i64) (m_0, m_1).1, .imm (.pair (.int .i64) (.pair (.sl (.int .i64)) (.pair (.sl (.int .i64)) (.pair (.int .i64) (.sl (.sl (.int .i64))))))) (m_0, m_1).2])]))) (f := impl_CellsValid_l1 (m_0, m_1) cells) (K := (fun r => k (.c (.bool r)) [])) he (leads_ren [(10000000, 2)] (l := [(2, .c (.ptr 10000000 0)), (18, .c (.imm (.int .i64) cells)), (19, .c (.int .i64 (cells.length:Int))), (20, .c (.int .i64 (0:Int)))]) (st' := [(10000000, .rc [.imm (.int .i64) (m_0, m_1).1, .imm (.pair (.int .i64) (.pair (.sl (.int .i64)) (.pair (.sl (.int .i64)) (.pair (.int .i64) (.sl (.sl (.int .i64))))))) (m_0, m_1).2])]) rfl rfl ⟨⟨.inl rfl, .inl rfl, trivial⟩, trivial⟩ ⟨⟨⟨rfl, rfl⟩, rfl⟩, .inl rfl, rfl, rfl, trivial⟩) ?_
      rintro i J1 he
      refine And.intro (fun hb => ?_) (fun hb => ?_)
      · have he := ok_t he hb
        have he := ok_rq he
        refine And.intro he.1 ?_
        have he := he.2
        have he := ok_rq he
        refine And.intro he.1 ?_
        have he := he.2
        obtain ⟨r2_, hr, he⟩ := ok_bind he
        refine ⟨r2_, hr, ?_⟩
        refine And.intro (fun hb => ?_) (fun hb => ?_)
        · have he := ok_t he hb
          have he := ok_some he
          exact ⟨rfl, _, _, (leads_ren [] (l := [(4, .c (.bool false))]) (st' := []) rfl rfl trivial ⟨.inr rfl, trivial⟩), he⟩
        · have he := ok_f he hb
          have he := ok_rq he
          refine And.intro he.1 ?_
          have he := he.2
          have he := ok_some he
          exact ⟨(i + (1:Int)), he, (leads_ren [] (l := [(2, .c (.ptr 10000000 0)), (18, .c (.imm (.int .i64) cells)), (19, .c (.int .i64 (cells.length:Int))), (20, .c (.int .i64 (i + (1:Int))))]) (st' := [(10000000, .rc [.imm (.int .i64) (m_0, m_1).1, .imm (.pair (.int .i64) (.pair (.sl (.int .i64)) (.pair (.sl (.int .i64)) (.pair (.int .i64) (.sl (.sl (.int .i64))))))) (m_0, m_1).2])]) rfl rfl ⟨⟨.inl rfl, .inl rfl, trivial⟩, trivial⟩ ⟨⟨⟨rfl, rfl⟩, rfl⟩, .inl rfl, rfl, rfl, trivial⟩)⟩
      · have he := ok_f he hb
        have he := ok_some he
        exact ⟨rfl, _, _, (leads_ren [] (l := [(4, .c (.bool true))]) (st' := []) rfl rfl trivial ⟨.inr rfl, trivial⟩), he⟩
  · have he := ok_t he hb
    have he := ok_some he
    exact ⟨rfl, _, _, (leads_ren [] (l := [(4, .c (.bool false))]) (st' := []) rfl rfl trivial ⟨.inr rfl, trivial⟩), he⟩

noncomputable def c_slices_Clone_int : Con := fun args st => match args, st with
  | [.c (.imm (.int .i64) s_)], [] => .opt ((List Int)) (slices_Clone_int s_) (fun r => .ret (.c (.own 900 false)) [(900, .sl 3 (.int .i64) r .shallow)])
  | _, _ => .fail

noncomputable def C_slices_Clone_int : Cfg := { y := tys, n := 8, h := 0, tab := [], cut := [], hand := [], good := [], deep := [], sched := [] }

theorem t_slices_Clone_int : TabOk Try.prog C_slices_Clone_int := tabOk_of (fun p h => by cases h)

theorem k_slices_Clone_int : Entry Try.prog 150 c_slices_Clone_int := by
  refine entry_by (C := C_slices_Clone_int) mixed tys_ok t_slices_Clone_int (fn := Try.f150) (c := bd Try.f150) (by kernel_rfl) (by kernel_rfl) (by kernel_rfl) (by kernel_rfl) ?_
  intro args st k he
  unfold c_slices_Clone_int at he
  split at he
  rotate_left
  · exact he.elim
  rename_i s_
  have he : Ok (slices_Clone_int s_) (fun r => k (.c (.own 900 false)) [(900, .sl 3 (.int .i64) r .shallow)]) := he
  refine ⟨rfl, rfl, ?_⟩
  refine fun b1_ hb1_ => ?_
  have he := ok_nt he hb1_
  refine And.intro (fun hb => ?_) (fun hb => ?_)
  · have he := ok_t he hb
    have he := ok_some he
    exact ⟨rfl, _, _, (leads_ren [] (l := [(2, .c (.own 900 false))]) (st' := [(900, .sl 3 (.int .i64) ([] : List Int) .shallow)]) rfl rfl ⟨trivial, trivial⟩ ⟨⟨rfl, trivial⟩, trivial⟩), he⟩
  · have he := ok_f he hb
    have he := ok_rq he
    refine And.intro he.1 ?_
    have he := he.2
    have he := ok_some he
    exact ⟨rfl, _, _, (leads_ren [(900, 7)] (l := [(2, .c (.own 900 false))]) (st' := [(900, .sl 3 (.int .i64) (([] : List Int) ++ s_) .shallow)]) rfl rfl ⟨⟨rfl, rfl⟩, trivial⟩ ⟨⟨⟨rfl, rfl⟩, trivial⟩, trivial⟩), he⟩

noncomputable def c_slices_Equal_int : Con := fun args st => match args, st with
  | [.c (.imm (.int .i64) s1_), .c (.imm (.int .i64) s2_)], [] => .opt (Bool) (slices_Equal_int s1_ s2_) (fun r => .ret (.c (.bool r)) [])
  | _, _ => .fail

noncomputable def C_slices_Equal_int : Cfg := { y := tys, n := 26, h := 0, tab := [], cut := [], hand := [], good := [], deep := [], sched := [] }

theorem t_slices_Equal_int : TabOk Try.prog C_slices_Equal_int := tabOk_of (fun p h => by cases h)

theorem k_slices_Equal_int : Entry Try.prog 127 c_slices_Equal_int := by
  refine entry_by (C := C_slices_Equal_int) mixed tys_ok t_slices_Equal_int (fn := Try.f127) (c := bd Try.f127) (by kernel_rfl) (by kernel_rfl) (by kernel_rfl) (by kernel_rfl) ?_
  intro args st k he
  unfold c_slices_Equal_int at he
  split at he
  rotate_left
  · exact he.elim
  rename_i s1_ s2_
  have he : Ok (slices_Equal_int s1_ s2_) (fun r => k (.c (.bool r)) []) := he
  refine ⟨rfl, rfl, ?_⟩
  refine And.intro (fun hb => ?_) (fun hb => ?_)
  · have he := ok_t he hb
    have he := ok_some he
    exact ⟨rfl, _, _, Leads.refl _ _, he⟩
  · have he := ok_f he hb
    refine loop_model mixed tys_ok t_slices_Equal_int (S := Int) (I := (fun i => (envOf [(0, .c (.imm (.int .i64) s1_)), (1, .c (.imm (.int .i64) s2_)), (12, .c (.int .i64 (s1_.length:Int))), (13, .c (.int .i64 i))], []))) (f := slices_Equal_int_l1 s1_ s2_) (K := (fun r => k (.c (.bool r)) [])) he (leads_ren [] (l := [(0, .c (.imm (.int .i64) s1_)), (1, .c (.imm (.int .i64) s2_)), (12, .c (.int .i64 (s1_.length:Int))), (13, .c (.int .i64 (0:Int)))]) (st' := []) rfl rfl trivial ⟨.inl rfl, .inl rfl, rfl, rfl, trivial⟩) ?_
    rintro i J1 he
    refine And.intro (fun hb => ?_) (fun hb => ?_)
    · have he := ok_t he hb
      refine And.intro (by kernel_rfl) ?_
      have he := ok_rq he
      refine And.intro he.1 ?_
      have he := he.2
      have he := ok_rq he
      refine And.intro he.1 ?_
      have he := he.2
      refine And.intro (fun hb => ?_) (fun hb => ?_)
      · have he := ok_t he hb
        have he := ok_some he
        exact ⟨rfl, _, _, Leads.refl _ _, he⟩
      · have he := ok_f he hb
        have he := ok_rq he
        refine And.intro he.1 ?_
        have he := he.2
        have he := ok_some he
        exact ⟨(i + (1:Int)), he, (leads_ren [] (l := [(0, .c (.imm (.int .i64) s1_)), (1, .c (.imm (.int .i64) s2_)), (12, .c (.int .i64 (s1_.length:Int))), (13, .c (.int .i64 (i + (1:Int))))]) (st' := []) rfl rfl trivial ⟨.inl rfl, .inl rfl, rfl, rfl, trivial⟩)⟩
    · have he := ok_f he hb
      have he := ok_some he
      exact ⟨rfl, _, _, Leads.refl _ _, he⟩

noncomputable def c_impl_Rule_holds_1 : Con := fun args st => match args, st with
  | [.c (.imm (.int .i64) row), .c (.ptr 0 0)], [(0, .rc [.imm (.int .i64) o0])] => .opt (Bool) (impl_Rule_holds_1 row o0) (fun r => .ret (.c (.bool r)) [(0, .rc [.imm (.int .i64) o0])])
  | _, _ => .fail

noncomputable def C_impl_Rule_holds_1 : Cfg := { y := tys, n := 7, h := 1, tab := [(127, c_slices_Equal_int)], cut := [], hand := [], good := [], deep := [], sched := [] }

theorem t_impl_Rule_holds_1 : TabOk Try.prog C_impl_Rule_holds_1 := by
  refine tabOk_of ?_
  simp only [C_impl_Rule_holds_1, List.forall_mem_cons]
  exact ⟨k_slices_Equal_int, fun p h => by cases h⟩

theorem k_impl_Rule_holds_1 : Entry Try.prog 282 c_impl_Rule_holds_1 := by
  refine entry_by (C := C_impl_Rule_holds_1) mixed tys_ok t_impl_Rule_holds_1 (fn := Try.f282) (c := bd Try.f282) (by kernel_rfl) (by kernel_rfl) (by kernel_rfl) (by kernel_rfl) ?_
  intro args st k he
  unfold c_impl_Rule_holds_1 at he
  split at he
  rotate_left
  · exact he.elim
  rename_i row o0
  have he : Ok (impl_Rule_holds_1 row o0) (fun r => k (.c (.bool r)) [(0, .rc [.imm (.int .i64) o0])]) := he
  refine ⟨rfl, rfl, ?_⟩
  obtain ⟨r1_, hr, he⟩ := ok_bind he
  refine ⟨r1_, hr, ?_⟩
  have he := ok_some he
  exact ⟨rfl, _, _, (leads_ren [] (l := [(3, .c (.bool r1_))]) (st' := [(0, .rc [.imm (.int .i64) o0])]) rfl rfl ⟨⟨.inl rfl, trivial⟩, trivial⟩ ⟨.inl rfl, trivial⟩), he⟩

noncomputable def c_slices_IndexFunc_s_int__impl_Rule_holds_1 : Con := fun args st => match args, st with
  | [.c (.imm (.sl (.int .i64)) s_), .c (.fn 282 [0])], [(0, .rc [.imm (.int .i64) o0])] => .opt (Int) (slices_IndexFunc_s_int__impl_Rule_holds_1 s_ o0) (fun r => .ret (.c (.int .i64 r)) [(0, .rc [.imm (.int .i64) o0])])
  | _, _ => .fail

noncomputable def C_slices_IndexFunc_s_int__impl_Rule_holds_1 : Cfg := { y := tys, n := 19, h := 1, tab := [(282, c_impl_Rule_holds_1)], cut := [], hand := [], good := [], deep := [], sched := [] }

theorem t_slices_IndexFunc_s_int__impl_Rule_holds_1 : TabOk Try.prog C_slices_IndexFunc_s_int__impl_Rule_holds_1 := by
  refine tabOk_of ?_
  simp only [C_slices_IndexFunc_s_int__impl_Rule_holds_1, List.forall_mem_cons]
  exact ⟨k_impl_Rule_holds_1, fun p h => by cases h⟩

theorem k_slices_IndexFunc_s_int__impl_Rule_holds_1 : Entry Try.prog 263 c_slices_IndexFunc_s_int__impl_Rule_holds_1 := by
  refine entry_by (C := C_slices_IndexFunc_s_int__impl_Rule_holds_1) mixed tys_ok t_slices_IndexFunc_s_int__impl_Rule_holds_1 (fn := Try.f263) (c := bd Try.f263) (by kernel_rfl) (by kernel_rfl) (by kernel_rfl) (by kernel_rfl) ?_
  intro args st k he
  unfold c_slices_IndexFunc_s_int__impl_Rule_holds_1 at he
  split at he
  rotate_left
  · exact he.elim
  rename_i s_ o0
  have he : Ok (slices_IndexFunc_s_int__impl_Rule_holds_1 s_ o0) (fun r => k (.c (.int .i64 r)) [(0, .rc [.imm (.int .i64) o0])]) := he
  refine ⟨rfl, rfl, ?_⟩
  refine loop_model mixed tys_ok t_slices_IndexFunc_s_int__impl_Rule_holds_1 (S := Int) (I := (fun i => (envOf [(0, .c (.imm (.sl (.int .i64)) s_)), (1, .c (.fn 282 [0])), (7, .c (.int .i64 (s_.length:Int))), (8, .c (.int .i64 i))], [(0, .rc [.imm (.int .i64) o0])]))) (f := slices_IndexFunc_s_int__impl_Rule_holds_1_l1 s_ o0) (K := (fun r => k (.c (.int .i64 r)) [(0, .rc [.imm (.int .i64) o0])])) he (leads_ren [] (l := [(0, .c (.imm (.sl (.int .i64)) s_)), (1, .c (.fn 282 [0])), (7, .c (.int .i64 (s_.length:Int))), (8, .c (.int .i64 (0:Int)))]) (st' := [(0, .rc [.imm (.int .i64) o0])]) rfl rfl ⟨⟨.inl rfl, trivial⟩, trivial⟩ ⟨.inl rfl, ⟨rfl, ⟨⟨rfl, rfl⟩, trivial⟩⟩, rfl, rfl, trivial⟩) ?_
  rintro i J1 he
  refine And.intro (fun hb => ?_) (fun hb => ?_)
  · have he := ok_t he hb
    have he := ok_rq he
    refine And.intro he.1 ?_
    have he := he.2
    obtain ⟨r1_, hr, he⟩ := ok_bind he
    refine ⟨r1_, hr, ?_⟩
    refine And.intro (fun hb => ?_) (fun hb => ?_)
    · have he := ok_t he hb
      have he := ok_some he
      exact ⟨rfl, _, _, (leads_ren [] (l := [(4, .c (.int .i64 i))]) (st' := [(0, .rc [.imm (.int .i64) o0])]) rfl rfl ⟨⟨.inl rfl, trivial⟩, trivial⟩ ⟨rfl, trivial⟩), he⟩
    · have he := ok_f he hb
      have he := ok_rq he
      refine And.intro he.1 ?_
      have he := he.2
      have he := ok_some he
      exact ⟨(i + (1:Int)), he, (leads_ren [] (l := [(0, .c (.imm (.sl (.int .i64)) s_)), (1, .c (.fn 282 [0])), (7, .c (.int .i64 (s_.length:Int))), (8, .c (.int .i64 (i + (1:Int))))]) (st' := [(0, .rc [.imm (.int .i64) o0])]) rfl rfl ⟨⟨.inl rfl, trivial⟩, trivial⟩ ⟨.inl rfl, ⟨rfl, ⟨⟨rfl, rfl⟩, trivial⟩⟩, rfl, rfl, trivial⟩)⟩
  · have he := ok_f he hb
    have he := ok_some he
    exact ⟨rfl, _, _, (leads_ren [] (l := [(4, .c (.int .i64 (-1:Int)))]) (st' := [(0, .rc [.imm (.int .i64) o0])]) rfl rfl ⟨⟨.inl rfl, trivial⟩, trivial⟩ ⟨rfl, trivial⟩), he⟩

noncomputable def c_slices_ContainsFunc_s_int__impl_Rule_holds_1 : Con := fun args st => match args, st with
  | [.c (.imm (.sl (.int .i64)) s_), .c (.fn 282 [0])], [(0, .rc [.imm (.int .i64) o0])] => .opt (Bool) (slices_ContainsFunc_s_int__impl_Rule_holds_1 s_ o0) (fun r => .ret (.c (.bool r)) [(0, .rc [.imm (.int .i64) o0])])
  | _, _ => .fail

noncomputable def C_slices_ContainsFunc_s_int__impl_Rule_holds_1 : Cfg := { y := tys, n := 9, h := 1, tab := [(263, c_slices_IndexFunc_s_int__impl_Rule_holds_1)], cut := [], hand := [], good := [], deep := [], sched := [] }

theorem t_slices_ContainsFunc_s_int__impl_Rule_holds_1 : TabOk Try.prog C_slices_ContainsFunc_s_int__impl_Rule_holds_1 := by
  refine tabOk_of ?_
  simp only [C_slices_ContainsFunc_s_int__impl_Rule_holds_1, List.forall_mem_cons]
  exact ⟨k_slices_IndexFunc_s_int__impl_Rule_holds_1, fun p h => by cases h⟩

theorem k_slices_ContainsFunc_s_int__impl_Rule_holds_1 : Entry Try.prog 217 c_slices_ContainsFunc_s_int__impl_Rule_holds_1 := by
  refine entry_by (C := C_slices_ContainsFunc_s_int__impl_Rule_holds_1) mixed tys_ok t_slices_ContainsFunc_s_int__impl_Rule_holds_1 (fn := Try.f217) (c := bd Try.f217) (by kernel_rfl) (by kernel_rfl) (by kernel_rfl) (by kernel_rfl) ?_
  intro args st k he
  unfold c_slices_ContainsFunc_s_int__impl_Rule_holds_1 at he
  split at he
  rotate_left
  · exact he.elim
  rename_i s_ o0
  have he : Ok (slices_ContainsFunc_s_int__impl_Rule_holds_1 s_ o0) (fun r => k (.c (.bool r)) [(0, .rc [.imm (.int .i64) o0])]) := he
  refine ⟨rfl, rfl, ?_⟩
  obtain ⟨r1_, hr, he⟩ := ok_bind he
  refine ⟨r1_, hr, ?_⟩
  have he := ok_some he
  exact ⟨rfl, _, _, (leads_ren [] (l := [(4, .c (.bool (decide ((0:Int) ≤ r1_))))]) (st' := [(0, .rc [.imm (.int .i64) o0])]) rfl rfl ⟨⟨.inl rfl, trivial⟩, trivial⟩ ⟨.inl rfl, trivial⟩), he⟩

noncomputable def c_impl_Rule_holds : Con := fun args st => match args, st with
  | [.agg [.int .i64 r__0, .imm (.int .i64) r__1, .imm (.int .i64) r__2, .int .i64 r__3, .imm (.sl (.int .i64)) r__4], .c (.imm (.int .i64) vals)], [] => .opt (Bool) (impl_Rule_holds (r__0, (r__1, (r__2, (r__3, r__4)))) vals) (fun r => .ret (.c (.bool r)) [])
  | _, _ => .fail

noncomputable def C_impl_Rule_holds : Cfg := { y := tys, n := 63, h := 0, tab := [(211, c_slices_Contains_int), (217, c_slices_ContainsFunc_s_int__impl_Rule_holds_1)], cut := [], hand := [], good := [], deep := [], sched := [] }

theorem t_impl_Rule_holds : TabOk Try.prog C_impl_Rule_holds := by
  refine tabOk_of ?_
  simp only [C_impl_Rule_holds, List.forall_mem_cons]
  exact ⟨k_slices_Contains_int, k_slices_ContainsFunc_s_int__impl_Rule_holds_1, fun p h => by cases h⟩

theorem k_impl_Rule_holds : Entry Try.prog 258 c_impl_Rule_holds := by
  refine entry_by (C := C_impl_Rule_holds) mixed tys_ok t_impl_Rule_holds (fn := Try.f258) (c := bd Try.f258) (by kernel_rfl) (by kernel_rfl) (by kernel_rfl) (by kernel_rfl) ?_
  intro args st k he
  unfold c_impl_Rule_holds at he
  split at he
  rotate_left
  · exact he.elim
  rename_i r__0 r__1 r__2 r__3 r__4 vals
  have he : Ok (impl_Rule_holds (r__0, (r__1, (r__2, (r__3, r__4)))) vals) (fun r => k (.c (.bool r)) []) := he
  refine ⟨rfl, rfl, ?_⟩
  refine And.intro (fun hb => ?_) (fun hb => ?_)
  · have he := ok_t he hb
    refine loop_model mixed tys_ok t_impl_Rule_holds (S := Int × Int) (I := (fun (sum, i) => (envOf [(2, .c (.ptr 10000000 0)), (5, .c (.int .i64 sum)), (14, .c (.imm (.int .i64) vals)), (15, .c (.int .i64 (vals.length:Int))), (16, .c (.int .i64 i))], [(10000000, .rc [.int .i64 (r__0, (r__1, (r__2, (r__3, r__4)))).1, .imm (.int .i64) (r__0, (r__1, (r__2, (r__3, r__4)))).2.1, .imm (.int .i64) (r__0, (r__1, (r__2, (r__3, r__4)))).2.2.1, .int .i64 (r__0, (r__1, (r__2, (r__3, r__4)))).2.2.2.1, .imm (.sl (.int .i64)) (r__0, (r__1, (r__2, (r__3, r__4)))).2.2.2.2])]))) (f := impl_Rule_holds_l1 (r__0, (r__1, (r__2, (r__3, r__4)))) vals) (K := (fun r => k (.c (.bool r)) [])) he (leads_ren [(10000000, 2)] (l := [(2, .c (.ptr 10000000 0)), (5, .c (.int .i64 (0:Int))), (14, .c (.imm (.int .i64) vals)), (15, .c (.int .i64 (vals.length:Int))), (16, .c (.int .i64 (0:Int)))]) (st' := [(10000000, .rc [.int .i64 (r__0, (r__1, (r__2, (r__3, r__4)))).1, .imm (.int .i64) (r__0, (r__1, (r__2, (r__3, r__4)))).2.1, .imm (.int .i64) (r__0, (r__1, (r__2, (r__3, r__4)))).2.2.1, .int .i64 (r__0, (r__1, (r__2, (r__3, r__4)))).2.2.2.1, .imm (.sl (.int .i64)) (r__0, (r__1, (r__2, (r__3, r__4)))).2.2.2.2])]) rfl rfl ⟨⟨rfl, .inl rfl, .inl rfl, rfl, .inl rfl, trivial⟩, trivial⟩ ⟨⟨⟨rfl, rfl⟩, rfl⟩, rfl, .inl rfl, rfl, rfl, trivial⟩) ?_
    rintro ⟨sum, i⟩ J1 he
    refine And.intro (fun hb => ?_) (fun hb => ?_)
    · have he := ok_t he hb
      have he := ok_rq he
      refine And.intro he.1 ?_
      have he := he.2
      have he := ok_rq he
      refine And.intro he.1 ?_
      have he := he.2
      have he := ok_rq he
      refine And.intro he.1 ?_
      have he := he.2
      have he := ok_rq he
      refine And.intro he.1 ?_
      have he := he.2
      have he := ok_rq he
      refine And.intro he.1 ?_
      have he := he.2
      have he := ok_some he
      exact ⟨((sum + (((r__0, (r__1, (r__2, (r__3, r__4)))).2.2.1.getD i.toNat 0) * (vals.getD i.toNat 0))), (i + (1:Int))), he, (leads_ren [] (l := [(2, .c (.ptr 10000000 0)), (5, .c (.int .i64 (sum + (((r__0, (r__1, (r__2, (r__3, r__4)))).2.2.1.getD i.toNat 0) * (vals.getD i.toNat 0))))), (14, .c (.imm (.int .i64) vals)), (15, .c (.int .i64 (vals.length:Int))), (16, .c (.int .i64 (i + (1:Int))))]) (st' := [(10000000, .rc [.int .i64 (r__0, (r__1, (r__2, (r__3, r__4)))).1, .imm (.int .i64) (r__0, (r__1, (r__2, (r__3, r__4)))).2.1, .imm (.int .i64) (r__0, (r__1, (r__2, (r__3, r__4)))).2.2.1, .int .i64 (r__0, (r__1, (r__2, (r__3, r__4)))).2.2.2.1, .imm (.sl (.int .i64)) (r__0, (r__1, (r__2, (r__3, r__4)))).2.2.2.2])]) rfl rfl ⟨⟨rfl, .inl rfl, .inl rfl, rfl, .inl rfl, trivial⟩, trivial⟩ ⟨⟨⟨rfl, rfl⟩, rfl⟩, rfl, .inl rfl, rfl, rfl, trivial⟩)⟩
    · have he := ok_f he hb
      have he := ok_some he
      exact ⟨rfl, _, _, (leads_ren [] (l := [(4, .c (.bool (decide ((r__0, (r__1, (r__2, (r__3, r__4)))).2.2.2.1 ≤ sum))))]) (st' := []) rfl rfl trivial ⟨.inl rfl, trivial⟩), he⟩
  · have he := ok_f he hb
    refine And.intro (fun hb => ?_) (fun hb => ?_)
    · have he := ok_t he hb
      refine loop_model mixed tys_ok t_impl_Rule_holds (S := Int) (I := (fun i1 => (envOf [(3, .c (.ptr 10001000 0)), (37, .c (.imm (.int .i64) vals)), (38, .c (.int .i64 (vals.length:Int))), (39, .c (.int .i64 i1))], [(10001000, .rc [.imm (.int .i64) vals])]))) (f := impl_Rule_holds_l2 vals) (K := (fun r => k (.c (.bool r)) [])) he (leads_ren [(10001000, 3)] (l := [(3, .c (.ptr 10001000 0)), (37, .c (.imm (.int .i64) vals)), (38, .c (.int .i64 (vals.length:Int))), (39, .c (.int .i64 (0:Int)))]) (st' := [(10001000, .rc [.imm (.int .i64) vals])]) rfl rfl ⟨⟨.inl rfl, trivial⟩, trivial⟩ ⟨⟨⟨rfl, rfl⟩, rfl⟩, .inl rfl, rfl, rfl, trivial⟩) ?_
      rintro i1 J1 he
      refine And.intro (fun hb => ?_) (fun hb => ?_)
      · have he := ok_t he hb
        have he := ok_rq he
        refine And.intro he.1 ?_
        have he := he.2
        have he := ok_rq he
        refine And.intro he.1 ?_
        have he := he.2
        obtain ⟨r1_, hr, he⟩ := ok_bind he
        refine ⟨r1_, hr, ?_⟩
        refine And.intro (fun hb => ?_) (fun hb => ?_)
        · have he := ok_t he hb
          have he := ok_some he
          exact ⟨rfl, _, _, (leads_ren [] (l := [(4, .c (.bool false))]) (st' := []) rfl rfl trivial ⟨.inr rfl, trivial⟩), he⟩
        · have he := ok_f he hb
          have he := ok_rq he
          refine And.intro he.1 ?_
          have he := he.2
          have he := ok_some he
          exact ⟨(i1 + (1:Int)), he, (leads_ren [] (l := [(3, .c (.ptr 10001000 0)), (37, .c (.imm (.int .i64) vals)), (38, .c (.int .i64 (vals.length:Int))), (39, .c (.int .i64 (i1 + (1:Int))))]) (st' := [(10001000, .rc [.imm (.int .i64) vals])]) rfl rfl ⟨⟨.inl rfl, trivial⟩, trivial⟩ ⟨⟨⟨rfl, rfl⟩, rfl⟩, .inl rfl, rfl, rfl, trivial⟩)⟩
      · have he := ok_f he hb
        have he := ok_some he
        exact ⟨rfl, _, _, (leads_ren [] (l := [(4, .c (.bool true))]) (st' := []) rfl rfl trivial ⟨.inr rfl, trivial⟩), he⟩
    · have he := ok_f he hb
      refine And.intro (fun hb => ?_) (fun hb => ?_)
      · have he := ok_t he hb
        obtain ⟨r2_, hr, he⟩ := ok_bind he
        refine ⟨r2_, hr, ?_⟩
        have he := ok_some he
        exact ⟨rfl, _, _, (leads_ren [] (l := [(4, .c (.bool r2_))]) (st' := []) rfl rfl trivial ⟨.inl rfl, trivial⟩), he⟩
      · have he := ok_f he hb
        refine And.intro (by kernel_rfl) ?_
        have he := ok_rq he
        refine And.intro he.1 ?_
        have he := he.2
        have he := ok_rq he
        refine And.intro he.1 ?_
        have he := he.2
        have he := ok_some he
        exact ⟨rfl, _, _, (leads_ren [] (l := [(4, .c (.bool (decide ((vals.getD (0:Int).toNat 0) < (vals.getD (1:Int).toNat 0)))))]) (st' := []) rfl rfl trivial ⟨.inl rfl, trivial⟩), he⟩

end Go.AE.Y
