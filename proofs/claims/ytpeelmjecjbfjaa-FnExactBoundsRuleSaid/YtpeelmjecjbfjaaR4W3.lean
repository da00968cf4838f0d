/-
  Walks: each function keeps the contract that its model gives. No conditions.
-/
import Derived.Test.YtpeelmjecjbfjaaR4Tab
import Derived.Test.YtpeelmjecjbfjaaR4W2
namespace Go.AE.Y
open Go Go.AE Go.Proofs
set_option linter.unusedVariables false
set_option maxHeartbeats 2000000
set_option maxRecDepth 100000

noncomputable def c_slices_ContainsFunc_impl_Rule__impl_ModelValid_1 : Con := fun args st => match args, st with
  | [.c (.imm (.pair (.int .i64) (.pair (.sl (.int .i64)) (.pair (.sl (.int .i64)) (.pair (.int .i64) (.sl (.sl (.int .i64))))))) s_), .c (.fn 131 [0])], [(0, .rc [.imm (.int .i64) o0_0, .imm (.pair (.int .i64) (.pair (.sl (.int .i64)) (.pair (.sl (.int .i64)) (.pair (.int .i64) (.sl (.sl (.int .i64))))))) o0_1])] => .opt (Bool) (slices_ContainsFunc_impl_Rule__impl_ModelValid_1 s_ (o0_0, o0_1)) (fun r => .ret (.c (.bool r)) [(0, .rc [.imm (.int .i64) o0_0, .imm (.pair (.int .i64) (.pair (.sl (.int .i64)) (.pair (.sl (.int .i64)) (.pair (.int .i64) (.sl (.sl (.int .i64))))))) o0_1])])
  | _, _ => .fail

noncomputable def C_slices_ContainsFunc_impl_Rule__impl_ModelValid_1 : Cfg := { y := tys, n := 9, h := 1, tab := [(215, c_slices_IndexFunc_impl_Rule__impl_ModelValid_1)], cut := [], hand := [], good := [], deep := [], sched := [] }

theorem t_slices_ContainsFunc_impl_Rule__impl_ModelValid_1 : TabOk Try.prog C_slices_ContainsFunc_impl_Rule__impl_ModelValid_1 := by
  refine tabOk_of ?_
  simp only [C_slices_ContainsFunc_impl_Rule__impl_ModelValid_1, List.forall_mem_cons]
  exact ⟨k_slices_IndexFunc_impl_Rule__impl_ModelValid_1, fun p h => by cases h⟩

theorem k_slices_ContainsFunc_impl_Rule__impl_ModelValid_1 : Entry Try.prog 130 c_slices_ContainsFunc_impl_Rule__impl_ModelValid_1 := by
  refine entry_by (C := C_slices_ContainsFunc_impl_Rule__impl_ModelValid_1) mixed tys_ok t_slices_ContainsFunc_impl_Rule__impl_ModelValid_1 (fn := Try.f130) (c := bd Try.f130) (by kernel_rfl) (by kernel_rfl) (by kernel_rfl) (by kernel_rfl) ?_
  intro args st k he
  unfold c_slices_ContainsFunc_impl_Rule__impl_ModelValid_1 at he
  split at he
  rotate_left
  · exact he.elim
  rename_i s_ o0_0 o0_1
  have he : Ok (slices_ContainsFunc_impl_Rule__impl_ModelValid_1 s_ (o0_0, o0_1)) (fun r => k (.c (.bool r)) [(0, .rc [.imm (.int .i64) o0_0, .imm (.pair (.int .i64) (.pair (.sl (.int .i64)) (.pair (.sl (.int .i64)) (.pair (.int .i64) (.sl (.sl (.int .i64))))))) o0_1])]) := he
  refine ⟨rfl, rfl, ?_⟩
  obtain ⟨r1_, hr, he⟩ := ok_bind he
  refine ⟨r1_, hr, ?_⟩
  have he := ok_some he
  exact ⟨rfl, _, _, (leads_ren [] (l := [(4, .c (.bool (decide ((0:Int) ≤ r1_))))]) (st' := [(0, .rc [.imm (.int .i64) o0_0, .imm (.pair (.int .i64) (.pair (.sl (.int .i64)) (.pair (.sl (.int .i64)) (.pair (.int .i64) (.sl (.sl (.int .i64))))))) o0_1])]) rfl rfl ⟨⟨.inl rfl, .inl rfl, trivial⟩, trivial⟩ ⟨.inl rfl, trivial⟩), he⟩

noncomputable def c_impl_ModelValid : Con := fun args st => match args, st with
  | [.agg [.imm (.int .i64) m_0, .imm (.pair (.int .i64) (.pair (.sl (.int .i64)) (.pair (.sl (.int .i64)) (.pair (.int .i64) (.sl (.sl (.int .i64))))))) m_1]], [] => .opt (Bool) (impl_ModelValid (m_0, m_1)) (fun r => .ret (.c (.bool r)) [])
  | _, _ => .fail

noncomputable def C_impl_ModelValid : Cfg := { y := tys, n := 41, h := 0, tab := [(101, c_impl_within), (130, c_slices_ContainsFunc_impl_Rule__impl_ModelValid_1)], cut := [], hand := [], good := [], deep := [], sched := [] }

theorem t_impl_ModelValid : TabOk Try.prog C_impl_ModelValid := by
  refine tabOk_of ?_
  simp only [C_impl_ModelValid, List.forall_mem_cons]
  exact ⟨k_impl_within, k_slices_ContainsFunc_impl_Rule__impl_ModelValid_1, fun p h => by cases h⟩

theorem k_impl_ModelValid : Entry Try.prog 39 c_impl_ModelValid := by
  refine entry_by (C := C_impl_ModelValid) mixed tys_ok t_impl_ModelValid (fn := Try.f39) (c := bd Try.f39) (by kernel_rfl) (by kernel_rfl) (by kernel_rfl) (by kernel_rfl) ?_
  intro args st k he
  unfold c_impl_ModelValid at he
  split at he
  rotate_left
  · exact he.elim
  rename_i m_0 m_1
  have he : Ok (impl_ModelValid (m_0, m_1)) (fun r => k (.c (.bool r)) []) := he
  refine ⟨rfl, rfl, ?_⟩
  obtain ⟨r1_, hr, he⟩ := ok_bind he
  refine ⟨r1_, hr, ?_⟩
  refine And.intro (fun hb => ?_) (fun hb => ?_)
  · have he := ok_f he hb
    refine And.intro (fun hb => ?_) (fun hb => ?_)
    · have he := ok_t he hb
      have he := ok_some he
      exact ⟨rfl, _, _, (leads_ren [] (l := [(2, .c (.bool false))]) (st' := []) rfl rfl trivial ⟨.inr rfl, trivial⟩), he⟩
    · have he := ok_f he hb
      refine loop_model mixed tys_ok t_impl_ModelValid (S := Int × Int) (I := (fun (count, i) => (envOf [(1, .c (.ptr 10000000 0)), (3, .c (.int .i64 count)), (18, .c (.imm (.int .i64) (m_0, m_1).1)), (19, .c (.int .i64 ((m_0, m_1).1.length:Int))), (20, .c (.int .i64 i))], [(10000000, .rc [.imm (.int .i64) (m_0, m_1).1, .imm (.pair (.int .i64) (.pair (.sl (.int .i64)) (.pair (.sl (.int .i64)) (.pair (.int .i64) (.sl (.sl (.int .i64))))))) (m_0, m_1).2])]))) (f := impl_ModelValid_l1 (m_0, m_1)) (K := (fun r => k (.c (.bool r)) [])) he (leads_ren [(10000000, 1)] (l := [(1, .c (.ptr 10000000 0)), (3, .c (.int .i64 (0:Int))), (18, .c (.imm (.int .i64) (m_0, m_1).1)), (19, .c (.int .i64 ((m_0, m_1).1.length:Int))), (20, .c (.int .i64 (0:Int)))]) (st' := [(10000000, .rc [.imm (.int .i64) (m_0, m_1).1, .imm (.pair (.int .i64) (.pair (.sl (.int .i64)) (.pair (.sl (.int .i64)) (.pair (.int .i64) (.sl (.sl (.int .i64))))))) (m_0, m_1).2])]) rfl rfl ⟨⟨.inl rfl, .inl rfl, trivial⟩, trivial⟩ ⟨⟨⟨rfl, rfl⟩, rfl⟩, rfl, .inl rfl, rfl, rfl, trivial⟩) ?_
      rintro ⟨count, i⟩ J1 he
      refine And.intro (fun hb => ?_) (fun hb => ?_)
      · have he := ok_t he hb
        have he := ok_rq he
        refine And.intro he.1 ?_
        have he := he.2
        obtain ⟨r2_, hr, he⟩ := ok_bind he
        refine ⟨r2_, hr, ?_⟩
        refine And.intro (fun hb => ?_) (fun hb => ?_)
        · have he := ok_t he hb
          have he := ok_some he
          exact ⟨rfl, _, _, (leads_ren [] (l := [(2, .c (.bool false))]) (st' := []) rfl rfl trivial ⟨.inr rfl, trivial⟩), he⟩
        · have he := ok_f he hb
          have he := ok_rq he
          refine And.intro he.1 ?_
          have he := he.2
          have he := ok_rq he
          refine And.intro he.1 ?_
          have he := he.2
          have he := ok_rq he
          refine And.intro he.1 ?_
          have he := he.2
          have he := ok_some he
          exact ⟨((count + (((m_0, m_1).1.getD i.toNat 0) + (1:Int))), (i + (1:Int))), he, (leads_ren [] (l := [(1, .c (.ptr 10000000 0)), (3, .c (.int .i64 (count + (((m_0, m_1).1.getD i.toNat 0) + (1:Int))))), (18, .c (.imm (.int .i64) (m_0, m_1).1)), (19, .c (.int .i64 ((m_0, m_1).1.length:Int))), (20, .c (.int .i64 (i + (1:Int))))]) (st' := [(10000000, .rc [.imm (.int .i64) (m_0, m_1).1, .imm (.pair (.int .i64) (.pair (.sl (.int .i64)) (.pair (.sl (.int .i64)) (.pair (.int .i64) (.sl (.sl (.int .i64))))))) (m_0, m_1).2])]) rfl rfl ⟨⟨.inl rfl, .inl rfl, trivial⟩, trivial⟩ ⟨⟨⟨rfl, rfl⟩, rfl⟩, rfl, .inl rfl, rfl, rfl, trivial⟩)⟩
      · have he := ok_f he hb
        refine And.intro (fun hb => ?_) (fun hb => ?_)
        · have he := ok_t he hb
          obtain ⟨r3_, hr, he⟩ := ok_bind he
          refine ⟨r3_, hr, ?_⟩
          have he := ok_some he
          exact ⟨rfl, _, _, (leads_ren [] (l := [(2, .c (.bool (!r3_)))]) (st' := []) rfl rfl trivial ⟨.inl rfl, trivial⟩), he⟩
        · have he := ok_f he hb
          have he := ok_some he
          exact ⟨rfl, _, _, (leads_ren [] (l := [(2, .c (.bool false))]) (st' := []) rfl rfl trivial ⟨.inr rfl, trivial⟩), he⟩
  · have he := ok_t he hb
    have he := ok_some he
    exact ⟨rfl, _, _, (leads_ren [] (l := [(2, .c (.bool false))]) (st' := []) rfl rfl trivial ⟨.inr rfl, trivial⟩), he⟩

noncomputable def c_impl_DomainsValid : Con := fun args st => match args, st with
  | [.agg [.imm (.int .i64) m_0, .imm (.pair (.int .i64) (.pair (.sl (.int .i64)) (.pair (.sl (.int .i64)) (.pair (.int .i64) (.sl (.sl (.int .i64))))))) m_1], .c (.imm (.sl .bool) d)], [] => .opt (Bool) (impl_DomainsValid (m_0, m_1) d) (fun r => .ret (.c (.bool r)) [])
  | _, _ => .fail

noncomputable def C_impl_DomainsValid : Cfg := { y := tys, n := 35, h := 0, tab := [(39, c_impl_ModelValid)], cut := [], hand := [], good := [], deep := [], sched := [] }

theorem t_impl_DomainsValid : TabOk Try.prog C_impl_DomainsValid := by
  refine tabOk_of ?_
  simp only [C_impl_DomainsValid, List.forall_mem_cons]
  exact ⟨k_impl_ModelValid, fun p h => by cases h⟩

theorem k_impl_DomainsValid : Entry Try.prog 142 c_impl_DomainsValid := by
  refine entry_by (C := C_impl_DomainsValid) mixed tys_ok t_impl_DomainsValid (fn := Try.f142) (c := bd Try.f142) (by kernel_rfl) (by kernel_rfl) (by kernel_rfl) (by kernel_rfl) ?_
  intro args st k he
  unfold c_impl_DomainsValid at he
  split at he
  rotate_left
  · exact he.elim
  rename_i m_0 m_1 d
  have he : Ok (impl_DomainsValid (m_0, m_1) d) (fun r => k (.c (.bool r)) []) := he
  refine ⟨rfl, rfl, ?_⟩
  obtain ⟨r1_, hr, he⟩ := ok_bind he
  refine ⟨r1_, hr, ?_⟩
  refine And.intro (fun hb => ?_) (fun hb => ?_)
  · have he := ok_f he hb
    refine And.intro (fun hb => ?_) (fun hb => ?_)
    · have he := ok_t he hb
      have he := ok_some he
      exact ⟨rfl, _, _, (leads_ren [] (l := [(4, .c (.bool false))]) (st' := []) rfl rfl trivial ⟨.inr rfl, trivial⟩), he⟩
    · have he := ok_f he hb
      refine loop_model mixed tys_ok t_impl_DomainsValid (S := Int) (I := (fun i => (envOf [(1, .c (.imm (.sl .bool) d)), (19, .c (.imm (.int .i64) (m_0, m_1).1)), (20, .c (.int .i64 ((m_0, m_1).1.length:Int))), (21, .c (.int .i64 i))], []))) (f := impl_DomainsValid_l1 (m_0, m_1) d) (K := (fun r => k (.c (.bool r)) [])) he (leads_ren [] (l := [(1, .c (.imm (.sl .bool) d)), (19, .c (.imm (.int .i64) (m_0, m_1).1)), (20, .c (.int .i64 ((m_0, m_1).1.length:Int))), (21, .c (.int .i64 (0:Int)))]) (st' := []) rfl rfl trivial ⟨.inl rfl, .inl rfl, rfl, rfl, trivial⟩) ?_
      rintro i J1 he
      refine And.intro (fun hb => ?_) (fun hb => ?_)
      · have he := ok_t he hb
        have he := ok_rq he
        refine And.intro he.1 ?_
        have he := he.2
        have he := ok_rq he
        refine And.intro he.1 ?_
        have he := he.2
        have he := ok_rq he
        refine And.intro he.1 ?_
        have he := he.2
        refine And.intro (fun hb => ?_) (fun hb => ?_)
        · have he := ok_t he hb
          have he := ok_some he
          exact ⟨rfl, _, _, Leads.refl _ _, he⟩
        · have he := ok_f he hb
          have he := ok_rq he
          refine And.intro he.1 ?_
          have he := he.2
          have he := ok_some he
          exact ⟨(i + (1:Int)), he, (leads_ren [] (l := [(1, .c (.imm (.sl .bool) d)), (19, .c (.imm (.int .i64) (m_0, m_1).1)), (20, .c (.int .i64 ((m_0, m_1).1.length:Int))), (21, .c (.int .i64 (i + (1:Int))))]) (st' := []) rfl rfl trivial ⟨.inl rfl, .inl rfl, rfl, rfl, trivial⟩)⟩
      · have he := ok_f he hb
        have he := ok_some he
        exact ⟨rfl, _, _, Leads.refl _ _, he⟩
  · have he := ok_t he hb
    have he := ok_some he
    exact ⟨rfl, _, _, (leads_ren [] (l := [(4, .c (.bool false))]) (st' := []) rfl rfl trivial ⟨.inr rfl, trivial⟩), he⟩

noncomputable def c_slices_Index_bool : Con := fun args st => match args, st with
  | [.c (.imm .bool s_), .c (.bool v)], [] => .opt (Int) (slices_Index_bool s_ v) (fun r => .ret (.c (.int .i64 r)) [])
  | _, _ => .fail

noncomputable def C_slices_Index_bool : Cfg := { y := tys, n := 19, h := 0, tab := [], cut := [], hand := [], good := [], deep := [], sched := [] }

theorem t_slices_Index_bool : TabOk Try.prog C_slices_Index_bool := tabOk_of (fun p h => by cases h)

theorem k_slices_Index_bool : Entry Try.prog 265 c_slices_Index_bool := by
  refine entry_by (C := C_slices_Index_bool) mixed tys_ok t_slices_Index_bool (fn := Try.f265) (c := bd Try.f265) (by kernel_rfl) (by kernel_rfl) (by kernel_rfl) (by kernel_rfl) ?_
  intro args st k he
  unfold c_slices_Index_bool at he
  split at he
  rotate_left
  · exact he.elim
  rename_i s_ v
  have he : Ok (slices_Index_bool s_ v) (fun r => k (.c (.int .i64 r)) []) := he
  refine ⟨rfl, rfl, ?_⟩
  refine loop_model mixed tys_ok t_slices_Index_bool (S := Int) (I := (fun i => (envOf [(0, .c (.imm .bool s_)), (1, .c (.bool v)), (7, .c (.int .i64 (s_.length:Int))), (8, .c (.int .i64 i))], []))) (f := slices_Index_bool_l1 s_ v) (K := (fun r => k (.c (.int .i64 r)) [])) he (leads_ren [] (l := [(0, .c (.imm .bool s_)), (1, .c (.bool v)), (7, .c (.int .i64 (s_.length:Int))), (8, .c (.int .i64 (0:Int)))]) (st' := []) rfl rfl trivial ⟨.inl rfl, .inl rfl, rfl, rfl, trivial⟩) ?_
  rintro i J1 he
  refine And.intro (fun hb => ?_) (fun hb => ?_)
  · have he := ok_t he hb
    have he := ok_rq he
    refine And.intro he.1 ?_
    have he := he.2
    refine And.intro (fun hb => ?_) (fun hb => ?_)
    · have he := ok_t he hb
      have he := ok_some he
      exact ⟨rfl, _, _, Leads.refl _ _, he⟩
    · have he := ok_f he hb
      have he := ok_rq he
      refine And.intro he.1 ?_
      have he := he.2
      have he := ok_some he
      exact ⟨(i + (1:Int)), he, (leads_ren [] (l := [(0, .c (.imm .bool s_)), (1, .c (.bool v)), (7, .c (.int .i64 (s_.length:Int))), (8, .c (.int .i64 (i + (1:Int))))]) (st' := []) rfl rfl trivial ⟨.inl rfl, .inl rfl, rfl, rfl, trivial⟩)⟩
  · have he := ok_f he hb
    have he := ok_some he
    exact ⟨rfl, _, _, Leads.refl _ _, he⟩

noncomputable def c_slices_Contains_bool : Con := fun args st => match args, st with
  | [.c (.imm .bool s_), .c (.bool v)], [] => .opt (Bool) (slices_Contains_bool s_ v) (fun r => .ret (.c (.bool r)) [])
  | _, _ => .fail

noncomputable def C_slices_Contains_bool : Cfg := { y := tys, n := 9, h := 0, tab := [(265, c_slices_Index_bool)], cut := [], hand := [], good := [], deep := [], sched := [] }

theorem t_slices_Contains_bool : TabOk Try.prog C_slices_Contains_bool := by
  refine tabOk_of ?_
  simp only [C_slices_Contains_bool, List.forall_mem_cons]
  exact ⟨k_slices_Index_bool, fun p h => by cases h⟩

theorem k_slices_Contains_bool : Entry Try.prog 224 c_slices_Contains_bool := by
  refine entry_by (C := C_slices_Contains_bool) mixed tys_ok t_slices_Contains_bool (fn := Try.f224) (c := bd Try.f224) (by kernel_rfl) (by kernel_rfl) (by kernel_rfl) (by kernel_rfl) ?_
  intro args st k he
  unfold c_slices_Contains_bool at he
  split at he
  rotate_left
  · exact he.elim
  rename_i s_ v
  have he : Ok (slices_Contains_bool s_ v) (fun r => k (.c (.bool r)) []) := he
  refine ⟨rfl, rfl, ?_⟩
  obtain ⟨r1_, hr, he⟩ := ok_bind he
  refine ⟨r1_, hr, ?_⟩
  have he := ok_some he
  exact ⟨rfl, _, _, Leads.refl _ _, he⟩

noncomputable def c_impl_DomainsEmpty_1 : Con := fun args st => match args, st with
  | [.c (.imm .bool row)], [] => .opt (Bool) (impl_DomainsEmpty_1 row) (fun r => .ret (.c (.bool r)) [])
  | _, _ => .fail

noncomputable def C_impl_DomainsEmpty_1 : Cfg := { y := tys, n := 6, h := 0, tab := [(224, c_slices_Contains_bool)], cut := [], hand := [], good := [], deep := [], sched := [] }

theorem t_impl_DomainsEmpty_1 : TabOk Try.prog C_impl_DomainsEmpty_1 := by
  refine tabOk_of ?_
  simp only [C_impl_DomainsEmpty_1, List.forall_mem_cons]
  exact ⟨k_slices_Contains_bool, fun p h => by cases h⟩

theorem k_impl_DomainsEmpty_1 : Entry Try.prog 223 c_impl_DomainsEmpty_1 := by
  refine entry_by (C := C_impl_DomainsEmpty_1) mixed tys_ok t_impl_DomainsEmpty_1 (fn := Try.f223) (c := bd Try.f223) (by kernel_rfl) (by kernel_rfl) (by kernel_rfl) (by kernel_rfl) ?_
  intro args st k he
  unfold c_impl_DomainsEmpty_1 at he
  split at he
  rotate_left
  · exact he.elim
  rename_i row
  have he : Ok (impl_DomainsEmpty_1 row) (fun r => k (.c (.bool r)) []) := he
  refine ⟨rfl, rfl, ?_⟩
  obtain ⟨r1_, hr, he⟩ := ok_bind he
  refine ⟨r1_, hr, ?_⟩
  have he := ok_some he
  exact ⟨rfl, _, _, Leads.refl _ _, he⟩

noncomputable def c_slices_IndexFunc_s_bool__impl_DomainsEmpty_1 : Con := fun args st => match args, st with
  | [.c (.imm (.sl .bool) s_), .c (.fn 223 [])], [] => .opt (Int) (slices_IndexFunc_s_bool__impl_DomainsEmpty_1 s_) (fun r => .ret (.c (.int .i64 r)) [])
  | _, _ => .fail

noncomputable def C_slices_IndexFunc_s_bool__impl_DomainsEmpty_1 : Cfg := { y := tys, n := 19, h := 0, tab := [(223, c_impl_DomainsEmpty_1)], cut := [], hand := [], good := [], deep := [], sched := [] }

theorem t_slices_IndexFunc_s_bool__impl_DomainsEmpty_1 : TabOk Try.prog C_slices_IndexFunc_s_bool__impl_DomainsEmpty_1 := by
  refine tabOk_of ?_
  simp only [C_slices_IndexFunc_s_bool__impl_DomainsEmpty_1, List.forall_mem_cons]
  exact ⟨k_impl_DomainsEmpty_1, fun p h => by cases h⟩

theorem k_slices_IndexFunc_s_bool__impl_DomainsEmpty_1 : Entry Try.prog 264 c_slices_IndexFunc_s_bool__impl_DomainsEmpty_1 := by
  refine entry_by (C := C_slices_IndexFunc_s_bool__impl_DomainsEmpty_1) mixed tys_ok t_slices_IndexFunc_s_bool__impl_DomainsEmpty_1 (fn := Try.f264) (c := bd Try.f264) (by kernel_rfl) (by kernel_rfl) (by kernel_rfl) (by kernel_rfl) ?_
  intro args st k he
  unfold c_slices_IndexFunc_s_bool__impl_DomainsEmpty_1 at he
  split at he
  rotate_left
  · exact he.elim
  rename_i s_
  have he : Ok (slices_IndexFunc_s_bool__impl_DomainsEmpty_1 s_) (fun r => k (.c (.int .i64 r)) []) := he
  refine ⟨rfl, rfl, ?_⟩
  refine loop_model mixed tys_ok t_slices_IndexFunc_s_bool__impl_DomainsEmpty_1 (S := Int) (I := (fun i => (envOf [(0, .c (.imm (.sl .bool) s_)), (1, .c (.fn 223 [])), (7, .c (.int .i64 (s_.length:Int))), (8, .c (.int .i64 i))], []))) (f := slices_IndexFunc_s_bool__impl_DomainsEmpty_1_l1 s_) (K := (fun r => k (.c (.int .i64 r)) [])) he (leads_ren [] (l := [(0, .c (.imm (.sl .bool) s_)), (1, .c (.fn 223 [])), (7, .c (.int .i64 (s_.length:Int))), (8, .c (.int .i64 (0:Int)))]) (st' := []) rfl rfl trivial ⟨.inl rfl, ⟨rfl, trivial⟩, rfl, rfl, trivial⟩) ?_
  rintro i J1 he
  refine And.intro (fun hb => ?_) (fun hb => ?_)
  · have he := ok_t he hb
    have he := ok_rq he
    refine And.intro he.1 ?_
    have he := he.2
    obtain ⟨r1_, hr, he⟩ := ok_bind he
    refine ⟨r1_, hr, ?_⟩
    refine And.intro (fun hb => ?_) (fun hb => ?_)
    · have he := ok_t he hb
      have he := ok_some he
      exact ⟨rfl, _, _, Leads.refl _ _, he⟩
    · have he := ok_f he hb
      have he := ok_rq he
      refine And.intro he.1 ?_
      have he := he.2
      have he := ok_some he
      exact ⟨(i + (1:Int)), he, (leads_ren [] (l := [(0, .c (.imm (.sl .bool) s_)), (1, .c (.fn 223 [])), (7, .c (.int .i64 (s_.length:Int))), (8, .c (.int .i64 (i + (1:Int))))]) (st' := []) rfl rfl trivial ⟨.inl rfl, ⟨rfl, trivial⟩, rfl, rfl, trivial⟩)⟩
  · have he := ok_f he hb
    have he := ok_some he
    exact ⟨rfl, _, _, Leads.refl _ _, he⟩

noncomputable def c_slices_ContainsFunc_s_bool__impl_DomainsEmpty_1 : Con := fun args st => match args, st with
  | [.c (.imm (.sl .bool) s_), .c (.fn 223 [])], [] => .opt (Bool) (slices_ContainsFunc_s_bool__impl_DomainsEmpty_1 s_) (fun r => .ret (.c (.bool r)) [])
  | _, _ => .fail

noncomputable def C_slices_ContainsFunc_s_bool__impl_DomainsEmpty_1 : Cfg := { y := tys, n := 9, h := 0, tab := [(264, c_slices_IndexFunc_s_bool__impl_DomainsEmpty_1)], cut := [], hand := [], good := [], deep := [], sched := [] }

theorem t_slices_ContainsFunc_s_bool__impl_DomainsEmpty_1 : TabOk Try.prog C_slices_ContainsFunc_s_bool__impl_DomainsEmpty_1 := by
  refine tabOk_of ?_
  simp only [C_slices_ContainsFunc_s_bool__impl_DomainsEmpty_1, List.forall_mem_cons]
  exact ⟨k_slices_IndexFunc_s_bool__impl_DomainsEmpty_1, fun p h => by cases h⟩

theorem k_slices_ContainsFunc_s_bool__impl_DomainsEmpty_1 : Entry Try.prog 222 c_slices_ContainsFunc_s_bool__impl_DomainsEmpty_1 := by
  refine entry_by (C := C_slices_ContainsFunc_s_bool__impl_DomainsEmpty_1) mixed tys_ok t_slices_ContainsFunc_s_bool__impl_DomainsEmpty_1 (fn := Try.f222) (c := bd Try.f222) (by kernel_rfl) (by kernel_rfl) (by kernel_rfl) (by kernel_rfl) ?_
  intro args st k he
  unfold c_slices_ContainsFunc_s_bool__impl_DomainsEmpty_1 at he
  split at he
  rotate_left
  · exact he.elim
  rename_i s_
  have he : Ok (slices_ContainsFunc_s_bool__impl_DomainsEmpty_1 s_) (fun r => k (.c (.bool r)) []) := he
  refine ⟨rfl, rfl, ?_⟩
  obtain ⟨r1_, hr, he⟩ := ok_bind he
  refine ⟨r1_, hr, ?_⟩
  have he := ok_some he
  exact ⟨rfl, _, _, Leads.refl _ _, he⟩

noncomputable def c_impl_DomainsEmpty : Con := fun args st => match args, st with
  | [.agg [.imm (.int .i64) m_0, .imm (.pair (.int .i64) (.pair (.sl (.int .i64)) (.pair (.sl (.int .i64)) (.pair (.int .i64) (.sl (.sl (.int .i64))))))) m_1], .c (.imm (.sl .bool) d)], [] => .opt (Bool) (impl_DomainsEmpty (m_0, m_1) d) (fun r => .ret (.c (.bool r)) [])
  | _, _ => .fail

noncomputable def C_impl_DomainsEmpty : Cfg := { y := tys, n := 12, h := 0, tab := [(142, c_impl_DomainsValid), (222, c_slices_ContainsFunc_s_bool__impl_DomainsEmpty_1)], cut := [], hand := [], good := [], deep := [], sched := [] }

theorem t_impl_DomainsEmpty : TabOk Try.prog C_impl_DomainsEmpty := by
  refine tabOk_of ?_
  simp only [C_impl_DomainsEmpty, List.forall_mem_cons]
  exact ⟨k_impl_DomainsValid, k_slices_ContainsFunc_s_bool__impl_DomainsEmpty_1, fun p h => by cases h⟩

theorem k_impl_DomainsEmpty : Entry Try.prog 143 c_impl_DomainsEmpty := by
  refine entry_by (C := C_impl_DomainsEmpty) mixed tys_ok t_impl_DomainsEmpty (fn := Try.f143) (c := bd Try.f143) (by kernel_rfl) (by kernel_rfl) (by kernel_rfl) (by kernel_rfl) ?_
  intro args st k he
  unfold c_impl_DomainsEmpty at he
  split at he
  rotate_left
  · exact he.elim
  rename_i m_0 m_1 d
  have he : Ok (impl_DomainsEmpty (m_0, m_1) d) (fun r => k (.c (.bool r)) []) := he
  refine ⟨rfl, rfl, ?_⟩
  obtain ⟨r1_, hr, he⟩ := ok_bind he
  refine ⟨r1_, hr, ?_⟩
  refine And.intro (fun hb => ?_) (fun hb => ?_)
  · have he := ok_t he hb
    obtain ⟨r2_, hr, he⟩ := ok_bind he
    refine ⟨r2_, hr, ?_⟩
    have he := ok_some he
    exact ⟨rfl, _, _, (leads_ren [] (l := [(4, .c (.bool r2_))]) (st' := []) rfl rfl trivial ⟨.inl rfl, trivial⟩), he⟩
  · have he := ok_f he hb
    have he := ok_some he
    exact ⟨rfl, _, _, (leads_ren [] (l := [(4, .c (.bool false))]) (st' := []) rfl rfl trivial ⟨.inr rfl, trivial⟩), he⟩

noncomputable def c_impl_isRule : Con := fun args st => match args, st with
  | [.agg [.imm (.int .i64) m_0, .imm (.pair (.int .i64) (.pair (.sl (.int .i64)) (.pair (.sl (.int .i64)) (.pair (.int .i64) (.sl (.sl (.int .i64))))))) m_1], .c (.int .i64 rule)], [] => .opt (Bool) (impl_isRule (m_0, m_1) rule) (fun r => .ret (.c (.bool r)) [])
  | _, _ => .fail

noncomputable def C_impl_isRule : Cfg := { y := tys, n := 11, h := 0, tab := [(101, c_impl_within)], cut := [], hand := [], good := [], deep := [], sched := [] }

theorem t_impl_isRule : TabOk Try.prog C_impl_isRule := by
  refine tabOk_of ?_
  simp only [C_impl_isRule, List.forall_mem_cons]
  exact ⟨k_impl_within, fun p h => by cases h⟩

theorem k_impl_isRule : Entry Try.prog 144 c_impl_isRule := by
  refine entry_by (C := C_impl_isRule) mixed tys_ok t_impl_isRule (fn := Try.f144) (c := bd Try.f144) (by kernel_rfl) (by kernel_rfl) (by kernel_rfl) (by kernel_rfl) ?_
  intro args st k he
  unfold c_impl_isRule at he
  split at he
  rotate_left
  · exact he.elim
  rename_i m_0 m_1 rule
  have he : Ok (impl_isRule (m_0, m_1) rule) (fun r => k (.c (.bool r)) []) := he
  refine ⟨rfl, rfl, ?_⟩
  have he := ok_rq he
  refine And.intro he.1 ?_
  have he := he.2
  obtain ⟨r1_, hr, he⟩ := ok_bind he
  refine ⟨r1_, hr, ?_⟩
  have he := ok_some he
  exact ⟨rfl, _, _, (leads_ren [] (l := [(4, .c (.bool r1_))]) (st' := []) rfl rfl trivial ⟨.inl rfl, trivial⟩), he⟩

noncomputable def c_slices_Clone_bool : Con := fun args st => match args, st with
  | [.c (.imm .bool s_)], [] => .opt ((List Bool)) (slices_Clone_bool s_) (fun r => .ret (.c (.own 900 false)) [(900, .sl 4 .bool r .shallow)])
  | _, _ => .fail

noncomputable def C_slices_Clone_bool : Cfg := { y := tys, n := 8, h := 0, tab := [], cut := [], hand := [], good := [], deep := [], sched := [] }

theorem t_slices_Clone_bool : TabOk Try.prog C_slices_Clone_bool := tabOk_of (fun p h => by cases h)

theorem k_slices_Clone_bool : Entry Try.prog 225 c_slices_Clone_bool := by
  refine entry_by (C := C_slices_Clone_bool) mixed tys_ok t_slices_Clone_bool (fn := Try.f225) (c := bd Try.f225) (by kernel_rfl) (by kernel_rfl) (by kernel_rfl) (by kernel_rfl) ?_
  intro args st k he
  unfold c_slices_Clone_bool at he
  split at he
  rotate_left
  · exact he.elim
  rename_i s_
  have he : Ok (slices_Clone_bool s_) (fun r => k (.c (.own 900 false)) [(900, .sl 4 .bool r .shallow)]) := he
  refine ⟨rfl, rfl, ?_⟩
  refine fun b1_ hb1_ => ?_
  have he := ok_nt he hb1_
  refine And.intro (fun hb => ?_) (fun hb => ?_)
  · have he := ok_t he hb
    have he := ok_some he
    exact ⟨rfl, _, _, (leads_ren [] (l := [(2, .c (.own 900 false))]) (st' := [(900, .sl 4 .bool ([] : List Bool) .shallow)]) rfl rfl ⟨trivial, trivial⟩ ⟨⟨rfl, trivial⟩, trivial⟩), he⟩
  · have he := ok_f he hb
    have he := ok_rq he
    refine And.intro he.1 ?_
    have he := he.2
    have he := ok_some he
    exact ⟨rfl, _, _, (leads_ren [(900, 7)] (l := [(2, .c (.own 900 false))]) (st' := [(900, .sl 4 .bool (([] : List Bool) ++ s_) .shallow)]) rfl rfl ⟨⟨rfl, rfl⟩, trivial⟩ ⟨⟨⟨rfl, rfl⟩, trivial⟩, trivial⟩), he⟩

noncomputable def c_impl_ownDomains : Con := fun args st => match args, st with
  | [.c (.imm (.sl .bool) d)], [] => .opt ((List (List Bool))) (impl_ownDomains d) (fun r => .ret (.c (.own 900 false)) [(900, .sl 37 (.sl .bool) r (.deep true .no))])
  | _, _ => .fail

noncomputable def C_impl_ownDomains : Cfg := { y := tys, n := 19, h := 0, tab := [(225, c_slices_Clone_bool)], cut := [], hand := [], good := [], deep := [15], sched := [] }

theorem t_impl_ownDomains : TabOk Try.prog C_impl_ownDomains := by
  refine tabOk_of ?_
  simp only [C_impl_ownDomains, List.forall_mem_cons]
  exact ⟨k_slices_Clone_bool, fun p h => by cases h⟩

theorem k_impl_ownDomains : Entry Try.prog 145 c_impl_ownDomains := by
  refine entry_by (C := C_impl_ownDomains) mixed tys_ok t_impl_ownDomains (fn := Try.f145) (c := bd Try.f145) (by kernel_rfl) (by kernel_rfl) (by kernel_rfl) (by kernel_rfl) ?_
  intro args st k he
  unfold c_impl_ownDomains at he
  split at he
  rotate_left
  · exact he.elim
  rename_i d
  have he : Ok (impl_ownDomains d) (fun r => k (.c (.own 900 false)) [(900, .sl 37 (.sl .bool) r (.deep true .no))]) := he
  refine ⟨rfl, rfl, ?_⟩
  refine loop_model mixed tys_ok t_impl_ownDomains (S := Int × (List (List Bool))) (I := (fun (i, out) => (envOf [(3, .c (.own 10000000 false)), (6, .c (.imm (.sl .bool) d)), (7, .c (.int .i64 (d.length:Int))), (8, .c (.int .i64 i))], [(10000000, .sl 37 (.sl .bool) out (.deep true .no))]))) (f := impl_ownDomains_l1 d) (K := (fun r => k (.c (.own 900 false)) [(900, .sl 37 (.sl .bool) r (.deep true .no))])) he (leads_ren [] (l := [(3, .c (.own 10000000 false)), (6, .c (.imm (.sl .bool) d)), (7, .c (.int .i64 (d.length:Int))), (8, .c (.int .i64 (0:Int)))]) (st' := [(10000000, .sl 37 (.sl .bool) ([] : List (List Bool)) (.deep true .no))]) rfl rfl ⟨trivial, trivial⟩ ⟨⟨rfl, trivial⟩, .inl rfl, rfl, rfl, trivial⟩) ?_
  rintro ⟨i, out⟩ J1 he
  refine And.intro (fun hb => ?_) (fun hb => ?_)
  · have he := ok_t he hb
    have he := ok_rq he
    refine And.intro he.1 ?_
    have he := he.2
    obtain ⟨r2_, hr, he⟩ := ok_bind he
    refine ⟨r2_, hr, ?_⟩
    have he := ok_rq he
    refine And.intro he.1 ?_
    have he := he.2
    have he := ok_rq he
    refine And.intro he.1 ?_
    have he := he.2
    have he := ok_some he
    exact ⟨((i + (1:Int)), (out ++ [r2_])), he, (leads_ren [(10000000, 16)] (l := [(3, .c (.own 10000000 false)), (6, .c (.imm (.sl .bool) d)), (7, .c (.int .i64 (d.length:Int))), (8, .c (.int .i64 (i + (1:Int))))]) (st' := [(10000000, .sl 37 (.sl .bool) (out ++ [r2_]) (.deep true .no))]) rfl rfl ⟨⟨rfl, rfl⟩, trivial⟩ ⟨⟨⟨rfl, rfl⟩, trivial⟩, .inl rfl, rfl, rfl, trivial⟩)⟩
  · have he := ok_f he hb
    have he := ok_some he
    exact ⟨rfl, _, _, (leads_ren [(900, 10000000)] (l := [(2, .c (.own 900 false))]) (st' := [(900, .sl 37 (.sl .bool) out (.deep true .no))]) rfl rfl ⟨⟨rfl, rfl⟩, trivial⟩ ⟨⟨⟨rfl, rfl⟩, trivial⟩, trivial⟩), he⟩

noncomputable def c_impl_BoundsRule : Con := fun args st => match args, st with
  | [.agg [.imm (.int .i64) a0_0, .imm (.pair (.int .i64) (.pair (.sl (.int .i64)) (.pair (.sl (.int .i64)) (.pair (.int .i64) (.sl (.sl (.int .i64))))))) a0_1], .c (.int .i64 a1), .c (.imm (.sl .bool) a2)], [] => .opt (Bool × (List (List Bool))) (impl_BoundsRule (a0_0, a0_1) a1 a2) (fun r => .ret (.tup [.c (.own 900 false), .c (.bool r.1)]) [(900, .sl 37 (.sl .bool) r.2 (.deep true .no))])
  | _, _ => .fail

noncomputable def C_impl_BoundsRule : Cfg := { y := tys, n := 140, h := 0, tab := [(142, c_impl_DomainsValid), (143, c_impl_DomainsEmpty), (144, c_impl_isRule), (145, c_impl_ownDomains)], cut := [20], hand := [], good := [], deep := [], sched := [] }

theorem t_impl_BoundsRule : TabOk Try.prog C_impl_BoundsRule := by
  refine tabOk_of ?_
  simp only [C_impl_BoundsRule, List.forall_mem_cons]
  exact ⟨k_impl_DomainsValid, k_impl_DomainsEmpty, k_impl_isRule, k_impl_ownDomains, fun p h => by cases h⟩

theorem k_impl_BoundsRule : Entry Try.prog 45 c_impl_BoundsRule := by
  refine entry_by (C := C_impl_BoundsRule) mixed tys_ok t_impl_BoundsRule (fn := Try.f45) (c := bd Try.f45) (by kernel_rfl) (by kernel_rfl) (by kernel_rfl) (by kernel_rfl) ?_
  intro args st k he
  unfold c_impl_BoundsRule at he
  split at he
  rotate_left
  · exact he.elim
  rename_i a0_0 a0_1 a1 a2
  have he : Ok (impl_BoundsRule (a0_0, a0_1) a1 a2) (fun r => k (.tup [.c (.own 900 false), .c (.bool r.1)]) [(900, .sl 37 (.sl .bool) r.2 (.deep true .no))]) := he
  refine ⟨rfl, rfl, ?_⟩
  obtain ⟨r1_, hr, he⟩ := ok_bind he
  refine ⟨r1_, hr, ?_⟩
  refine And.intro (fun hb => ?_) (fun hb => ?_)
  · have he := ok_f he hb
    obtain ⟨r2_, hr, he⟩ := ok_bind he
    refine ⟨r2_, hr, ?_⟩
    refine And.intro (fun hb => ?_) (fun hb => ?_)
    · have he := ok_f he hb
      obtain ⟨r3_, hr, he⟩ := ok_bind he
      refine ⟨r3_, hr, ?_⟩
      refine And.intro (fun hb => ?_) (fun hb => ?_)
      · have he := ok_f he hb
        have he := ok_rq he
        refine And.intro he.1 ?_
        have he := he.2
        refine And.intro (fun hb => ?_) (fun hb => ?_)
        · have he := ok_t he hb
          have he := ok_some he
          exact ⟨rfl, _, _, (leads_ren [] (l := [(6, .c (.own 900 false)), (7, .c (.bool false))]) (st' := [(900, .sl 37 (.sl .bool) ([] : List (List Bool)) (.deep true .no))]) rfl rfl ⟨trivial, trivial⟩ ⟨⟨rfl, trivial⟩, .inr rfl, trivial⟩), he⟩
        · have he := ok_f he hb
          have he := ok_rq he
          refine And.intro he.1 ?_
          have he := he.2
          refine seq_model mixed tys_ok t_impl_BoundsRule (S := Int × (List Int)) (I := (fun (i9, i10) => (envOf [(2, .c (.imm (.sl .bool) a2)), (8, .c (.ptr 10003000 0)), (9, .c (.own 10003001 false)), (10, .c (.int .i64 i9))], [(10003000, .rc [.int .i64 ((a0_0, a0_1).2.getD a1.toNat (0, ([], ([], (0, []))))).1, .imm (.int .i64) ((a0_0, a0_1).2.getD a1.toNat (0, ([], ([], (0, []))))).2.1, .imm (.int .i64) ((a0_0, a0_1).2.getD a1.toNat (0, ([], ([], (0, []))))).2.2.1, .int .i64 ((a0_0, a0_1).2.getD a1.toNat (0, ([], ([], (0, []))))).2.2.2.1, .imm (.sl (.int .i64)) ((a0_0, a0_1).2.getD a1.toNat (0, ([], ([], (0, []))))).2.2.2.2]), (10003001, .sl 3 (.int .i64) i10 .shallow)]))) (B := fun s => Ok (impl_BoundsRule_j1 (a0_0, a0_1) a1 a2 s) (fun r => k (.tup [.c (.own 900 false), .c (.bool r.1)]) [(900, .sl 37 (.sl .bool) r.2 (.deep true .no))])) ?_ ?_
          · rintro ⟨i9, i10⟩ he
            obtain ⟨r4_, hr, he⟩ := ok_bind he
            refine ⟨r4_, hr, ?_⟩
            refine loop_model mixed tys_ok t_impl_BoundsRule (S := Int × (List (List Bool))) (I := (fun (i11, i14) => (envOf [(8, .c (.ptr 10004000 0)), (9, .c (.own 10004001 false)), (10, .c (.int .i64 i9)), (18, .c (.own 10004002 false)), (99, .c (.imm (.int .i64) ((a0_0, a0_1).2.getD a1.toNat (0, ([], ([], (0, []))))).2.1)), (100, .c (.int .i64 (((a0_0, a0_1).2.getD a1.toNat (0, ([], ([], (0, []))))).2.1.length:Int))), (101, .c (.int .i64 i11))], [(10004000, .rc [.int .i64 ((a0_0, a0_1).2.getD a1.toNat (0, ([], ([], (0, []))))).1, .imm (.int .i64) ((a0_0, a0_1).2.getD a1.toNat (0, ([], ([], (0, []))))).2.1, .imm (.int .i64) ((a0_0, a0_1).2.getD a1.toNat (0, ([], ([], (0, []))))).2.2.1, .int .i64 ((a0_0, a0_1).2.getD a1.toNat (0, ([], ([], (0, []))))).2.2.2.1, .imm (.sl (.int .i64)) ((a0_0, a0_1).2.getD a1.toNat (0, ([], ([], (0, []))))).2.2.2.2]), (10004001, .sl 3 (.int .i64) i10 .shallow), (10004002, .sl 37 (.sl .bool) i14 (.deep true .no))]))) (f := impl_BoundsRule_l1 (a0_0, a0_1) a1 i9 i10) (K := (fun r => k (.tup [.c (.own 900 false), .c (.bool r.1)]) [(900, .sl 37 (.sl .bool) r.2 (.deep true .no))])) he (leads_ren [(10004000, 10003000), (10004001, 10003001), (10004002, 98900)] (l := [(8, .c (.ptr 10004000 0)), (9, .c (.own 10004001 false)), (10, .c (.int .i64 i9)), (18, .c (.own 10004002 false)), (99, .c (.imm (.int .i64) ((a0_0, a0_1).2.getD a1.toNat (0, ([], ([], (0, []))))).2.1)), (100, .c (.int .i64 (((a0_0, a0_1).2.getD a1.toNat (0, ([], ([], (0, []))))).2.1.length:Int))), (101, .c (.int .i64 (0:Int)))]) (st' := [(10004000, .rc [.int .i64 ((a0_0, a0_1).2.getD a1.toNat (0, ([], ([], (0, []))))).1, .imm (.int .i64) ((a0_0, a0_1).2.getD a1.toNat (0, ([], ([], (0, []))))).2.1, .imm (.int .i64) ((a0_0, a0_1).2.getD a1.toNat (0, ([], ([], (0, []))))).2.2.1, .int .i64 ((a0_0, a0_1).2.getD a1.toNat (0, ([], ([], (0, []))))).2.2.2.1, .imm (.sl (.int .i64)) ((a0_0, a0_1).2.getD a1.toNat (0, ([], ([], (0, []))))).2.2.2.2]), (10004001, .sl 3 (.int .i64) i10 .shallow), (10004002, .sl 37 (.sl .bool) r4_ (.deep true .no))]) rfl rfl ⟨⟨rfl, .inl rfl, .inl rfl, rfl, .inl rfl, trivial⟩, ⟨rfl, rfl⟩, ⟨rfl, rfl⟩, trivial⟩ ⟨⟨⟨rfl, rfl⟩, rfl⟩, ⟨⟨rfl, rfl⟩, trivial⟩, rfl, ⟨⟨rfl, rfl⟩, trivial⟩, .inl rfl, rfl, rfl, trivial⟩) ?_
            rintro ⟨i11, i14⟩ J1 he
            refine And.intro (fun hb => ?_) (fun hb => ?_)
            · have he := ok_t he hb
              have he := ok_rq he
              refine And.intro he.1 ?_
              have he := he.2
              have he := ok_rq he
              refine And.intro he.1 ?_
              have he := he.2
              refine loop_model mixed tys_ok t_impl_BoundsRule (S := Int × (List (List Bool))) (I := (fun (i15, i16) => (envOf [(8, .c (.ptr 10006000 0)), (9, .c (.own 10006001 false)), (10, .c (.int .i64 i9)), (18, .c (.own 10006002 false)), (19, .c (.int .i64 i11)), (20, .c (.int .i64 (((a0_0, a0_1).2.getD a1.toNat (0, ([], ([], (0, []))))).2.1.getD i11.toNat 0))), (99, .c (.imm (.int .i64) ((a0_0, a0_1).2.getD a1.toNat (0, ([], ([], (0, []))))).2.1)), (100, .c (.int .i64 (((a0_0, a0_1).2.getD a1.toNat (0, ([], ([], (0, []))))).2.1.length:Int))), (101, .c (.int .i64 i11)), (110, .c (.int .i64 ((i14.getD (((a0_0, a0_1).2.getD a1.toNat (0, ([], ([], (0, []))))).2.1.getD i11.toNat 0).toNat []).length:Int))), (111, .c (.int .i64 i15))], [(10006000, .rc [.int .i64 ((a0_0, a0_1).2.getD a1.toNat (0, ([], ([], (0, []))))).1, .imm (.int .i64) ((a0_0, a0_1).2.getD a1.toNat (0, ([], ([], (0, []))))).2.1, .imm (.int .i64) ((a0_0, a0_1).2.getD a1.toNat (0, ([], ([], (0, []))))).2.2.1, .int .i64 ((a0_0, a0_1).2.getD a1.toNat (0, ([], ([], (0, []))))).2.2.2.1, .imm (.sl (.int .i64)) ((a0_0, a0_1).2.getD a1.toNat (0, ([], ([], (0, []))))).2.2.2.2]), (10006001, .sl 3 (.int .i64) i10 .shallow), (10006002, .sl 37 (.sl .bool) i16 (.deep true .no))]))) (f := impl_BoundsRule_l2 (a0_0, a0_1) a1 i9 i10 i11 i14) (K := (LK J1 (fun r => k (.tup [.c (.own 900 false), .c (.bool r.1)]) [(900, .sl 37 (.sl .bool) r.2 (.deep true .no))]))) he ((leads_close [10004002] rfl).trans (leads_ren [(10006000, 10004000), (10006001, 10004001), (10006002, 10004002)] (l := [(8, .c (.ptr 10006000 0)), (9, .c (.own 10006001 false)), (10, .c (.int .i64 i9)), (18, .c (.own 10006002 false)), (19, .c (.int .i64 i11)), (20, .c (.int .i64 (((a0_0, a0_1).2.getD a1.toNat (0, ([], ([], (0, []))))).2.1.getD i11.toNat 0))), (99, .c (.imm (.int .i64) ((a0_0, a0_1).2.getD a1.toNat (0, ([], ([], (0, []))))).2.1)), (100, .c (.int .i64 (((a0_0, a0_1).2.getD a1.toNat (0, ([], ([], (0, []))))).2.1.length:Int))), (101, .c (.int .i64 i11)), (110, .c (.int .i64 ((i14.getD (((a0_0, a0_1).2.getD a1.toNat (0, ([], ([], (0, []))))).2.1.getD i11.toNat 0).toNat []).length:Int))), (111, .c (.int .i64 (0:Int)))]) (st' := [(10006000, .rc [.int .i64 ((a0_0, a0_1).2.getD a1.toNat (0, ([], ([], (0, []))))).1, .imm (.int .i64) ((a0_0, a0_1).2.getD a1.toNat (0, ([], ([], (0, []))))).2.1, .imm (.int .i64) ((a0_0, a0_1).2.getD a1.toNat (0, ([], ([], (0, []))))).2.2.1, .int .i64 ((a0_0, a0_1).2.getD a1.toNat (0, ([], ([], (0, []))))).2.2.2.1, .imm (.sl (.int .i64)) ((a0_0, a0_1).2.getD a1.toNat (0, ([], ([], (0, []))))).2.2.2.2]), (10006001, .sl 3 (.int .i64) i10 .shallow), (10006002, .sl 37 (.sl .bool) (i14.set (((a0_0, a0_1).2.getD a1.toNat (0, ([], ([], (0, []))))).2.1.getD i11.toNat 0).toNat (i14.getD (((a0_0, a0_1).2.getD a1.toNat (0, ([], ([], (0, []))))).2.1.getD i11.toNat 0).toNat [])) (.deep true .no))]) rfl rfl (by exact ⟨⟨rfl, .inl rfl, .inl rfl, rfl, .inl rfl, trivial⟩, ⟨rfl, rfl⟩, ⟨rfl, rfl⟩, trivial⟩) (by exact ⟨⟨⟨rfl, rfl⟩, rfl⟩, ⟨⟨rfl, rfl⟩, trivial⟩, rfl, ⟨⟨rfl, rfl⟩, trivial⟩, rfl, rfl, .inl rfl, rfl, rfl, rfl, rfl, trivial⟩))) ?_
              rintro ⟨i15, i16⟩ J2 he
              refine And.intro (fun hb => ?_) (fun hb => ?_)
              · have he := ok_t he hb
                refine And.intro (by kernel_rfl) ?_
                have he := ok_rq he
                refine And.intro he.1 ?_
                have he := he.2
                have he := ok_rq he
                refine And.intro he.1 ?_
                have he := he.2
                have he := ok_rq he
                refine And.intro he.1 ?_
                have he := he.2
                have he := ok_rq he
                refine And.intro he.1 ?_
                have he := he.2
                have he := ok_rq he
                refine And.intro he.1 ?_
                have he := he.2
                refine And.intro (fun hb => ?_) (fun hb => ?_)
                · have he := ok_t he hb
                  have he := ok_rq he
                  refine And.intro he.1 ?_
                  have he := he.2
                  have he := ok_rq he
                  refine And.intro he.1 ?_
                  have he := he.2
                  have he := ok_rq he
                  refine And.intro he.1 ?_
                  have he := he.2
                  have he := ok_some he
                  exact ⟨((i15 + (1:Int)), (i16.set (((a0_0, a0_1).2.getD a1.toNat (0, ([], ([], (0, []))))).2.1.getD i11.toNat 0).toNat ((i16.getD (((a0_0, a0_1).2.getD a1.toNat (0, ([], ([], (0, []))))).2.1.getD i11.toNat 0).toNat []).set i15.toNat false))), he, ((leads_close [10006002] rfl).trans (leads_ren [] (l := [(8, .c (.ptr 10006000 0)), (9, .c (.own 10006001 false)), (10, .c (.int .i64 i9)), (18, .c (.own 10006002 false)), (19, .c (.int .i64 i11)), (20, .c (.int .i64 (((a0_0, a0_1).2.getD a1.toNat (0, ([], ([], (0, []))))).2.1.getD i11.toNat 0))), (99, .c (.imm (.int .i64) ((a0_0, a0_1).2.getD a1.toNat (0, ([], ([], (0, []))))).2.1)), (100, .c (.int .i64 (((a0_0, a0_1).2.getD a1.toNat (0, ([], ([], (0, []))))).2.1.length:Int))), (101, .c (.int .i64 i11)), (110, .c (.int .i64 ((i14.getD (((a0_0, a0_1).2.getD a1.toNat (0, ([], ([], (0, []))))).2.1.getD i11.toNat 0).toNat []).length:Int))), (111, .c (.int .i64 (i15 + (1:Int))))]) (st' := [(10006000, .rc [.int .i64 ((a0_0, a0_1).2.getD a1.toNat (0, ([], ([], (0, []))))).1, .imm (.int .i64) ((a0_0, a0_1).2.getD a1.toNat (0, ([], ([], (0, []))))).2.1, .imm (.int .i64) ((a0_0, a0_1).2.getD a1.toNat (0, ([], ([], (0, []))))).2.2.1, .int .i64 ((a0_0, a0_1).2.getD a1.toNat (0, ([], ([], (0, []))))).2.2.2.1, .imm (.sl (.int .i64)) ((a0_0, a0_1).2.getD a1.toNat (0, ([], ([], (0, []))))).2.2.2.2]), (10006001, .sl 3 (.int .i64) i10 .shallow), (10006002, .sl 37 (.sl .bool) (i16.set (((a0_0, a0_1).2.getD a1.toNat (0, ([], ([], (0, []))))).2.1.getD i11.toNat 0).toNat ((i16.getD (((a0_0, a0_1).2.getD a1.toNat (0, ([], ([], (0, []))))).2.1.getD i11.toNat 0).toNat []).set i15.toNat false)) (.deep true .no))]) rfl rfl (by exact ⟨⟨rfl, .inl rfl, .inl rfl, rfl, .inl rfl, trivial⟩, ⟨rfl, rfl⟩, ⟨rfl, rfl⟩, trivial⟩) (by exact ⟨⟨⟨rfl, rfl⟩, rfl⟩, ⟨⟨rfl, rfl⟩, trivial⟩, rfl, ⟨⟨rfl, rfl⟩, trivial⟩, rfl, rfl, .inl rfl, rfl, rfl, rfl, rfl, trivial⟩)))⟩
                · have he := ok_f he hb
                  have he := ok_rq he
                  refine And.intro he.1 ?_
                  have he := he.2
                  have he := ok_some he
                  exact ⟨((i15 + (1:Int)), i16), he, (leads_ren [] (l := [(8, .c (.ptr 10006000 0)), (9, .c (.own 10006001 false)), (10, .c (.int .i64 i9)), (18, .c (.own 10006002 false)), (19, .c (.int .i64 i11)), (20, .c (.int .i64 (((a0_0, a0_1).2.getD a1.toNat (0, ([], ([], (0, []))))).2.1.getD i11.toNat 0))), (99, .c (.imm (.int .i64) ((a0_0, a0_1).2.getD a1.toNat (0, ([], ([], (0, []))))).2.1)), (100, .c (.int .i64 (((a0_0, a0_1).2.getD a1.toNat (0, ([], ([], (0, []))))).2.1.length:Int))), (101, .c (.int .i64 i11)), (110, .c (.int .i64 ((i14.getD (((a0_0, a0_1).2.getD a1.toNat (0, ([], ([], (0, []))))).2.1.getD i11.toNat 0).toNat []).length:Int))), (111, .c (.int .i64 (i15 + (1:Int))))]) (st' := [(10006000, .rc [.int .i64 ((a0_0, a0_1).2.getD a1.toNat (0, ([], ([], (0, []))))).1, .imm (.int .i64) ((a0_0, a0_1).2.getD a1.toNat (0, ([], ([], (0, []))))).2.1, .imm (.int .i64) ((a0_0, a0_1).2.getD a1.toNat (0, ([], ([], (0, []))))).2.2.1, .int .i64 ((a0_0, a0_1).2.getD a1.toNat (0, ([], ([], (0, []))))).2.2.2.1, .imm (.sl (.int .i64)) ((a0_0, a0_1).2.getD a1.toNat (0, ([], ([], (0, []))))).2.2.2.2]), (10006001, .sl 3 (.int .i64) i10 .shallow), (10006002, .sl 37 (.sl .bool) i16 (.deep true .no))]) rfl rfl ⟨⟨rfl, .inl rfl, .inl rfl, rfl, .inl rfl, trivial⟩, ⟨rfl, rfl⟩, ⟨rfl, rfl⟩, trivial⟩ ⟨⟨⟨rfl, rfl⟩, rfl⟩, ⟨⟨rfl, rfl⟩, trivial⟩, rfl, ⟨⟨rfl, rfl⟩, trivial⟩, rfl, rfl, .inl rfl, rfl, rfl, rfl, rfl, trivial⟩)⟩
              · have he := ok_f he hb
                have he := ok_rq he
                refine And.intro he.1 ?_
                have he := he.2
                have he := ok_some he
                exact ⟨((i11 + (1:Int)), i16), he, (leads_ren [(10004000, 10006000), (10004001, 10006001), (10004002, 10006002)] (l := [(8, .c (.ptr 10004000 0)), (9, .c (.own 10004001 false)), (10, .c (.int .i64 i9)), (18, .c (.own 10004002 false)), (99, .c (.imm (.int .i64) ((a0_0, a0_1).2.getD a1.toNat (0, ([], ([], (0, []))))).2.1)), (100, .c (.int .i64 (((a0_0, a0_1).2.getD a1.toNat (0, ([], ([], (0, []))))).2.1.length:Int))), (101, .c (.int .i64 (i11 + (1:Int))))]) (st' := [(10004000, .rc [.int .i64 ((a0_0, a0_1).2.getD a1.toNat (0, ([], ([], (0, []))))).1, .imm (.int .i64) ((a0_0, a0_1).2.getD a1.toNat (0, ([], ([], (0, []))))).2.1, .imm (.int .i64) ((a0_0, a0_1).2.getD a1.toNat (0, ([], ([], (0, []))))).2.2.1, .int .i64 ((a0_0, a0_1).2.getD a1.toNat (0, ([], ([], (0, []))))).2.2.2.1, .imm (.sl (.int .i64)) ((a0_0, a0_1).2.getD a1.toNat (0, ([], ([], (0, []))))).2.2.2.2]), (10004001, .sl 3 (.int .i64) i10 .shallow), (10004002, .sl 37 (.sl .bool) i16 (.deep true .no))]) rfl rfl ⟨⟨rfl, .inl rfl, .inl rfl, rfl, .inl rfl, trivial⟩, ⟨rfl, rfl⟩, ⟨rfl, rfl⟩, trivial⟩ ⟨⟨⟨rfl, rfl⟩, rfl⟩, ⟨⟨rfl, rfl⟩, trivial⟩, rfl, ⟨⟨rfl, rfl⟩, trivial⟩, .inl rfl, rfl, rfl, trivial⟩)⟩
            · have he := ok_f he hb
              have he := ok_some he
              exact ⟨rfl, _, _, (leads_ren [(900, 10004002)] (l := [(6, .c (.own 900 false)), (7, .c (.bool true))]) (st' := [(900, .sl 37 (.sl .bool) i14 (.deep true .no))]) rfl rfl ⟨⟨rfl, rfl⟩, trivial⟩ ⟨⟨⟨rfl, rfl⟩, trivial⟩, .inr rfl, trivial⟩), he⟩
          · skip
            refine loop_model mixed tys_ok t_impl_BoundsRule (S := Int × Int × (List Int)) (I := (fun (i, i1, i5) => (envOf [(2, .c (.imm (.sl .bool) a2)), (8, .c (.ptr 10000000 0)), (9, .c (.own 10000001 false)), (10, .c (.int .i64 i)), (52, .c (.imm (.int .i64) ((a0_0, a0_1).2.getD a1.toNat (0, ([], ([], (0, []))))).2.1)), (53, .c (.int .i64 (((a0_0, a0_1).2.getD a1.toNat (0, ([], ([], (0, []))))).2.1.length:Int))), (54, .c (.int .i64 i1))], [(10000000, .rc [.int .i64 ((a0_0, a0_1).2.getD a1.toNat (0, ([], ([], (0, []))))).1, .imm (.int .i64) ((a0_0, a0_1).2.getD a1.toNat (0, ([], ([], (0, []))))).2.1, .imm (.int .i64) ((a0_0, a0_1).2.getD a1.toNat (0, ([], ([], (0, []))))).2.2.1, .int .i64 ((a0_0, a0_1).2.getD a1.toNat (0, ([], ([], (0, []))))).2.2.2.1, .imm (.sl (.int .i64)) ((a0_0, a0_1).2.getD a1.toNat (0, ([], ([], (0, []))))).2.2.2.2]), (10000001, .sl 3 (.int .i64) i5 .shallow)]))) (f := impl_BoundsRule_l3 (a0_0, a0_1) a1 a2) (K := (fun r => k (.tup [.c (.own 900 false), .c (.bool r.1)]) [(900, .sl 37 (.sl .bool) r.2 (.deep true .no))])) he (leads_ren [(10000000, 8)] (l := [(2, .c (.imm (.sl .bool) a2)), (8, .c (.ptr 10000000 0)), (9, .c (.own 10000001 false)), (10, .c (.int .i64 (0:Int))), (52, .c (.imm (.int .i64) ((a0_0, a0_1).2.getD a1.toNat (0, ([], ([], (0, []))))).2.1)), (53, .c (.int .i64 (((a0_0, a0_1).2.getD a1.toNat (0, ([], ([], (0, []))))).2.1.length:Int))), (54, .c (.int .i64 (0:Int)))]) (st' := [(10000000, .rc [.int .i64 ((a0_0, a0_1).2.getD a1.toNat (0, ([], ([], (0, []))))).1, .imm (.int .i64) ((a0_0, a0_1).2.getD a1.toNat (0, ([], ([], (0, []))))).2.1, .imm (.int .i64) ((a0_0, a0_1).2.getD a1.toNat (0, ([], ([], (0, []))))).2.2.1, .int .i64 ((a0_0, a0_1).2.getD a1.toNat (0, ([], ([], (0, []))))).2.2.2.1, .imm (.sl (.int .i64)) ((a0_0, a0_1).2.getD a1.toNat (0, ([], ([], (0, []))))).2.2.2.2]), (10000001, .sl 3 (.int .i64) ([] : List Int) .shallow)]) rfl rfl ⟨⟨rfl, .inl rfl, .inl rfl, rfl, .inl rfl, trivial⟩, trivial, trivial⟩ ⟨.inl rfl, ⟨⟨rfl, rfl⟩, rfl⟩, ⟨rfl, trivial⟩, rfl, .inl rfl, rfl, rfl, trivial⟩) ?_
            rintro ⟨i, i1, i5⟩ J1 he
            refine And.intro (fun hb => ?_) (fun hb => ?_)
            · have he := ok_t he hb
              have he := ok_rq he
              refine And.intro he.1 ?_
              have he := he.2
              have he := ok_rq he
              refine And.intro he.1 ?_
              have he := he.2
              refine loop_model mixed tys_ok t_impl_BoundsRule (S := Int × Bool × Int) (I := (fun (i6, i7, i8) => (envOf [(2, .c (.imm (.sl .bool) a2)), (8, .c (.ptr 10002000 0)), (9, .c (.own 10002001 false)), (10, .c (.int .i64 i)), (11, .c (.int .i64 i1)), (13, .c (.int .i64 i6)), (14, .c (.bool i7)), (52, .c (.imm (.int .i64) ((a0_0, a0_1).2.getD a1.toNat (0, ([], ([], (0, []))))).2.1)), (53, .c (.int .i64 (((a0_0, a0_1).2.getD a1.toNat (0, ([], ([], (0, []))))).2.1.length:Int))), (54, .c (.int .i64 i1)), (62, .c (.imm .bool (a2.getD (((a0_0, a0_1).2.getD a1.toNat (0, ([], ([], (0, []))))).2.1.getD i1.toNat 0).toNat []))), (63, .c (.int .i64 ((a2.getD (((a0_0, a0_1).2.getD a1.toNat (0, ([], ([], (0, []))))).2.1.getD i1.toNat 0).toNat []).length:Int))), (64, .c (.int .i64 i8))], [(10002000, .rc [.int .i64 ((a0_0, a0_1).2.getD a1.toNat (0, ([], ([], (0, []))))).1, .imm (.int .i64) ((a0_0, a0_1).2.getD a1.toNat (0, ([], ([], (0, []))))).2.1, .imm (.int .i64) ((a0_0, a0_1).2.getD a1.toNat (0, ([], ([], (0, []))))).2.2.1, .int .i64 ((a0_0, a0_1).2.getD a1.toNat (0, ([], ([], (0, []))))).2.2.2.1, .imm (.sl (.int .i64)) ((a0_0, a0_1).2.getD a1.toNat (0, ([], ([], (0, []))))).2.2.2.2]), (10002001, .sl 3 (.int .i64) i5 .shallow)]))) (f := impl_BoundsRule_l4 (a0_0, a0_1) a1 a2 i i1 i5) (K := (LK J1 (fun r => k (.tup [.c (.own 900 false), .c (.bool r.1)]) [(900, .sl 37 (.sl .bool) r.2 (.deep true .no))]))) he (leads_ren [(10002000, 10000000), (10002001, 10000001)] (l := [(2, .c (.imm (.sl .bool) a2)), (8, .c (.ptr 10002000 0)), (9, .c (.own 10002001 false)), (10, .c (.int .i64 i)), (11, .c (.int .i64 i1)), (13, .c (.int .i64 (0:Int))), (14, .c (.bool false)), (52, .c (.imm (.int .i64) ((a0_0, a0_1).2.getD a1.toNat (0, ([], ([], (0, []))))).2.1)), (53, .c (.int .i64 (((a0_0, a0_1).2.getD a1.toNat (0, ([], ([], (0, []))))).2.1.length:Int))), (54, .c (.int .i64 i1)), (62, .c (.imm .bool (a2.getD (((a0_0, a0_1).2.getD a1.toNat (0, ([], ([], (0, []))))).2.1.getD i1.toNat 0).toNat []))), (63, .c (.int .i64 ((a2.getD (((a0_0, a0_1).2.getD a1.toNat (0, ([], ([], (0, []))))).2.1.getD i1.toNat 0).toNat []).length:Int))), (64, .c (.int .i64 (0:Int)))]) (st' := [(10002000, .rc [.int .i64 ((a0_0, a0_1).2.getD a1.toNat (0, ([], ([], (0, []))))).1, .imm (.int .i64) ((a0_0, a0_1).2.getD a1.toNat (0, ([], ([], (0, []))))).2.1, .imm (.int .i64) ((a0_0, a0_1).2.getD a1.toNat (0, ([], ([], (0, []))))).2.2.1, .int .i64 ((a0_0, a0_1).2.getD a1.toNat (0, ([], ([], (0, []))))).2.2.2.1, .imm (.sl (.int .i64)) ((a0_0, a0_1).2.getD a1.toNat (0, ([], ([], (0, []))))).2.2.2.2]), (10002001, .sl 3 (.int .i64) i5 .shallow)]) rfl rfl ⟨⟨rfl, .inl rfl, .inl rfl, rfl, .inl rfl, trivial⟩, ⟨rfl, rfl⟩, trivial⟩ ⟨.inl rfl, ⟨⟨rfl, rfl⟩, rfl⟩, ⟨⟨rfl, rfl⟩, trivial⟩, rfl, rfl, rfl, .inr rfl, .inl rfl, rfl, rfl, .inl rfl, rfl, rfl, trivial⟩) ?_
              rintro ⟨i6, i7, i8⟩ J2 he
              refine And.intro (fun hb => ?_) (fun hb => ?_)
              · have he := ok_t he hb
                have he := ok_rq he
                refine And.intro he.1 ?_
                have he := he.2
                have he := ok_rq he
                refine And.intro he.1 ?_
                have he := he.2
                have he := ok_rq he
                refine And.intro he.1 ?_
                have he := he.2
                refine And.intro (fun hb => ?_) (fun hb => ?_)
                · have he := ok_t he hb
                  refine And.intro (fun hb => ?_) (fun hb => ?_)
                  · have he := ok_f he hb
                    refine And.intro (fun hb => ?_) (fun hb => ?_)
                    · have he := ok_t he hb
                      have he := ok_rq he
                      refine And.intro he.1 ?_
                      have he := he.2
                      have he := ok_some he
                      exact ⟨(((((a0_0, a0_1).2.getD a1.toNat (0, ([], ([], (0, []))))).2.2.1.getD i1.toNat 0) * i8), true, (i8 + (1:Int))), he, (leads_ren [] (l := [(2, .c (.imm (.sl .bool) a2)), (8, .c (.ptr 10002000 0)), (9, .c (.own 10002001 false)), (10, .c (.int .i64 i)), (11, .c (.int .i64 i1)), (13, .c (.int .i64 ((((a0_0, a0_1).2.getD a1.toNat (0, ([], ([], (0, []))))).2.2.1.getD i1.toNat 0) * i8))), (14, .c (.bool true)), (52, .c (.imm (.int .i64) ((a0_0, a0_1).2.getD a1.toNat (0, ([], ([], (0, []))))).2.1)), (53, .c (.int .i64 (((a0_0, a0_1).2.getD a1.toNat (0, ([], ([], (0, []))))).2.1.length:Int))), (54, .c (.int .i64 i1)), (62, .c (.imm .bool (a2.getD (((a0_0, a0_1).2.getD a1.toNat (0, ([], ([], (0, []))))).2.1.getD i1.toNat 0).toNat []))), (63, .c (.int .i64 ((a2.getD (((a0_0, a0_1).2.getD a1.toNat (0, ([], ([], (0, []))))).2.1.getD i1.toNat 0).toNat []).length:Int))), (64, .c (.int .i64 (i8 + (1:Int))))]) (st' := [(10002000, .rc [.int .i64 ((a0_0, a0_1).2.getD a1.toNat (0, ([], ([], (0, []))))).1, .imm (.int .i64) ((a0_0, a0_1).2.getD a1.toNat (0, ([], ([], (0, []))))).2.1, .imm (.int .i64) ((a0_0, a0_1).2.getD a1.toNat (0, ([], ([], (0, []))))).2.2.1, .int .i64 ((a0_0, a0_1).2.getD a1.toNat (0, ([], ([], (0, []))))).2.2.2.1, .imm (.sl (.int .i64)) ((a0_0, a0_1).2.getD a1.toNat (0, ([], ([], (0, []))))).2.2.2.2]), (10002001, .sl 3 (.int .i64) i5 .shallow)]) rfl rfl ⟨⟨rfl, .inl rfl, .inl rfl, rfl, .inl rfl, trivial⟩, ⟨rfl, rfl⟩, trivial⟩ ⟨.inl rfl, ⟨⟨rfl, rfl⟩, rfl⟩, ⟨⟨rfl, rfl⟩, trivial⟩, rfl, rfl, rfl, .inr rfl, .inl rfl, rfl, rfl, .inl rfl, rfl, rfl, trivial⟩)⟩
                    · have he := ok_f he hb
                      have he := ok_rq he
                      refine And.intro he.1 ?_
                      have he := he.2
                      have he := ok_some he
                      exact ⟨(i6, i7, (i8 + (1:Int))), he, (leads_ren [] (l := [(2, .c (.imm (.sl .bool) a2)), (8, .c (.ptr 10002000 0)), (9, .c (.own 10002001 false)), (10, .c (.int .i64 i)), (11, .c (.int .i64 i1)), (13, .c (.int .i64 i6)), (14, .c (.bool i7)), (52, .c (.imm (.int .i64) ((a0_0, a0_1).2.getD a1.toNat (0, ([], ([], (0, []))))).2.1)), (53, .c (.int .i64 (((a0_0, a0_1).2.getD a1.toNat (0, ([], ([], (0, []))))).2.1.length:Int))), (54, .c (.int .i64 i1)), (62, .c (.imm .bool (a2.getD (((a0_0, a0_1).2.getD a1.toNat (0, ([], ([], (0, []))))).2.1.getD i1.toNat 0).toNat []))), (63, .c (.int .i64 ((a2.getD (((a0_0, a0_1).2.getD a1.toNat (0, ([], ([], (0, []))))).2.1.getD i1.toNat 0).toNat []).length:Int))), (64, .c (.int .i64 (i8 + (1:Int))))]) (st' := [(10002000, .rc [.int .i64 ((a0_0, a0_1).2.getD a1.toNat (0, ([], ([], (0, []))))).1, .imm (.int .i64) ((a0_0, a0_1).2.getD a1.toNat (0, ([], ([], (0, []))))).2.1, .imm (.int .i64) ((a0_0, a0_1).2.getD a1.toNat (0, ([], ([], (0, []))))).2.2.1, .int .i64 ((a0_0, a0_1).2.getD a1.toNat (0, ([], ([], (0, []))))).2.2.2.1, .imm (.sl (.int .i64)) ((a0_0, a0_1).2.getD a1.toNat (0, ([], ([], (0, []))))).2.2.2.2]), (10002001, .sl 3 (.int .i64) i5 .shallow)]) rfl rfl ⟨⟨rfl, .inl rfl, .inl rfl, rfl, .inl rfl, trivial⟩, ⟨rfl, rfl⟩, trivial⟩ ⟨.inl rfl, ⟨⟨rfl, rfl⟩, rfl⟩, ⟨⟨rfl, rfl⟩, trivial⟩, rfl, rfl, rfl, .inl rfl, .inl rfl, rfl, rfl, .inl rfl, rfl, rfl, trivial⟩)⟩
                  · have he := ok_t he hb
                    have he := ok_rq he
                    refine And.intro he.1 ?_
                    have he := he.2
                    have he := ok_some he
                    exact ⟨(((((a0_0, a0_1).2.getD a1.toNat (0, ([], ([], (0, []))))).2.2.1.getD i1.toNat 0) * i8), true, (i8 + (1:Int))), he, (leads_ren [] (l := [(2, .c (.imm (.sl .bool) a2)), (8, .c (.ptr 10002000 0)), (9, .c (.own 10002001 false)), (10, .c (.int .i64 i)), (11, .c (.int .i64 i1)), (13, .c (.int .i64 ((((a0_0, a0_1).2.getD a1.toNat (0, ([], ([], (0, []))))).2.2.1.getD i1.toNat 0) * i8))), (14, .c (.bool true)), (52, .c (.imm (.int .i64) ((a0_0, a0_1).2.getD a1.toNat (0, ([], ([], (0, []))))).2.1)), (53, .c (.int .i64 (((a0_0, a0_1).2.getD a1.toNat (0, ([], ([], (0, []))))).2.1.length:Int))), (54, .c (.int .i64 i1)), (62, .c (.imm .bool (a2.getD (((a0_0, a0_1).2.getD a1.toNat (0, ([], ([], (0, []))))).2.1.getD i1.toNat 0).toNat []))), (63, .c (.int .i64 ((a2.getD (((a0_0, a0_1).2.getD a1.toNat (0, ([], ([], (0, []))))).2.1.getD i1.toNat 0).toNat []).length:Int))), (64, .c (.int .i64 (i8 + (1:Int))))]) (st' := [(10002000, .rc [.int .i64 ((a0_0, a0_1).2.getD a1.toNat (0, ([], ([], (0, []))))).1, .imm (.int .i64) ((a0_0, a0_1).2.getD a1.toNat (0, ([], ([], (0, []))))).2.1, .imm (.int .i64) ((a0_0, a0_1).2.getD a1.toNat (0, ([], ([], (0, []))))).2.2.1, .int .i64 ((a0_0, a0_1).2.getD a1.toNat (0, ([], ([], (0, []))))).2.2.2.1, .imm (.sl (.int .i64)) ((a0_0, a0_1).2.getD a1.toNat (0, ([], ([], (0, []))))).2.2.2.2]), (10002001, .sl 3 (.int .i64) i5 .shallow)]) rfl rfl ⟨⟨rfl, .inl rfl, .inl rfl, rfl, .inl rfl, trivial⟩, ⟨rfl, rfl⟩, trivial⟩ ⟨.inl rfl, ⟨⟨rfl, rfl⟩, rfl⟩, ⟨⟨rfl, rfl⟩, trivial⟩, rfl, rfl, rfl, .inr rfl, .inl rfl, rfl, rfl, .inl rfl, rfl, rfl, trivial⟩)⟩
                · have he := ok_f he hb
                  have he := ok_rq he
                  refine And.intro he.1 ?_
                  have he := he.2
                  have he := ok_some he
                  exact ⟨(i6, i7, (i8 + (1:Int))), he, (leads_ren [] (l := [(2, .c (.imm (.sl .bool) a2)), (8, .c (.ptr 10002000 0)), (9, .c (.own 10002001 false)), (10, .c (.int .i64 i)), (11, .c (.int .i64 i1)), (13, .c (.int .i64 i6)), (14, .c (.bool i7)), (52, .c (.imm (.int .i64) ((a0_0, a0_1).2.getD a1.toNat (0, ([], ([], (0, []))))).2.1)), (53, .c (.int .i64 (((a0_0, a0_1).2.getD a1.toNat (0, ([], ([], (0, []))))).2.1.length:Int))), (54, .c (.int .i64 i1)), (62, .c (.imm .bool (a2.getD (((a0_0, a0_1).2.getD a1.toNat (0, ([], ([], (0, []))))).2.1.getD i1.toNat 0).toNat []))), (63, .c (.int .i64 ((a2.getD (((a0_0, a0_1).2.getD a1.toNat (0, ([], ([], (0, []))))).2.1.getD i1.toNat 0).toNat []).length:Int))), (64, .c (.int .i64 (i8 + (1:Int))))]) (st' := [(10002000, .rc [.int .i64 ((a0_0, a0_1).2.getD a1.toNat (0, ([], ([], (0, []))))).1, .imm (.int .i64) ((a0_0, a0_1).2.getD a1.toNat (0, ([], ([], (0, []))))).2.1, .imm (.int .i64) ((a0_0, a0_1).2.getD a1.toNat (0, ([], ([], (0, []))))).2.2.1, .int .i64 ((a0_0, a0_1).2.getD a1.toNat (0, ([], ([], (0, []))))).2.2.2.1, .imm (.sl (.int .i64)) ((a0_0, a0_1).2.getD a1.toNat (0, ([], ([], (0, []))))).2.2.2.2]), (10002001, .sl 3 (.int .i64) i5 .shallow)]) rfl rfl ⟨⟨rfl, .inl rfl, .inl rfl, rfl, .inl rfl, trivial⟩, ⟨rfl, rfl⟩, trivial⟩ ⟨.inl rfl, ⟨⟨rfl, rfl⟩, rfl⟩, ⟨⟨rfl, rfl⟩, trivial⟩, rfl, rfl, rfl, .inl rfl, .inl rfl, rfl, rfl, .inl rfl, rfl, rfl, trivial⟩)⟩
              · have he := ok_f he hb
                have he := ok_rq he
                refine And.intro he.1 ?_
                have he := he.2
                have he := ok_rq he
                refine And.intro he.1 ?_
                have he := he.2
                have he := ok_rq he
                refine And.intro he.1 ?_
                have he := he.2
                have he := ok_some he
                exact ⟨((i + i6), (i1 + (1:Int)), (i5 ++ [i6])), he, (leads_ren [(10000000, 10002000), (10000001, 91)] (l := [(2, .c (.imm (.sl .bool) a2)), (8, .c (.ptr 10000000 0)), (9, .c (.own 10000001 false)), (10, .c (.int .i64 (i + i6))), (52, .c (.imm (.int .i64) ((a0_0, a0_1).2.getD a1.toNat (0, ([], ([], (0, []))))).2.1)), (53, .c (.int .i64 (((a0_0, a0_1).2.getD a1.toNat (0, ([], ([], (0, []))))).2.1.length:Int))), (54, .c (.int .i64 (i1 + (1:Int))))]) (st' := [(10000000, .rc [.int .i64 ((a0_0, a0_1).2.getD a1.toNat (0, ([], ([], (0, []))))).1, .imm (.int .i64) ((a0_0, a0_1).2.getD a1.toNat (0, ([], ([], (0, []))))).2.1, .imm (.int .i64) ((a0_0, a0_1).2.getD a1.toNat (0, ([], ([], (0, []))))).2.2.1, .int .i64 ((a0_0, a0_1).2.getD a1.toNat (0, ([], ([], (0, []))))).2.2.2.1, .imm (.sl (.int .i64)) ((a0_0, a0_1).2.getD a1.toNat (0, ([], ([], (0, []))))).2.2.2.2]), (10000001, .sl 3 (.int .i64) (i5 ++ [i6]) .shallow)]) rfl rfl ⟨⟨rfl, .inl rfl, .inl rfl, rfl, .inl rfl, trivial⟩, ⟨rfl, rfl⟩, trivial⟩ ⟨.inl rfl, ⟨⟨rfl, rfl⟩, rfl⟩, ⟨⟨rfl, rfl⟩, trivial⟩, rfl, .inl rfl, rfl, rfl, trivial⟩)⟩
            · have he := ok_f he hb
              exact ⟨(i, i5), ok_up he, (leads_ren [(10003000, 10000000), (10003001, 10000001)] (l := [(2, .c (.imm (.sl .bool) a2)), (8, .c (.ptr 10003000 0)), (9, .c (.own 10003001 false)), (10, .c (.int .i64 i))]) (st' := [(10003000, .rc [.int .i64 ((a0_0, a0_1).2.getD a1.toNat (0, ([], ([], (0, []))))).1, .imm (.int .i64) ((a0_0, a0_1).2.getD a1.toNat (0, ([], ([], (0, []))))).2.1, .imm (.int .i64) ((a0_0, a0_1).2.getD a1.toNat (0, ([], ([], (0, []))))).2.2.1, .int .i64 ((a0_0, a0_1).2.getD a1.toNat (0, ([], ([], (0, []))))).2.2.2.1, .imm (.sl (.int .i64)) ((a0_0, a0_1).2.getD a1.toNat (0, ([], ([], (0, []))))).2.2.2.2]), (10003001, .sl 3 (.int .i64) i5 .shallow)]) rfl rfl ⟨⟨rfl, .inl rfl, .inl rfl, rfl, .inl rfl, trivial⟩, ⟨rfl, rfl⟩, trivial⟩ ⟨.inl rfl, ⟨⟨rfl, rfl⟩, rfl⟩, ⟨⟨rfl, rfl⟩, trivial⟩, rfl, trivial⟩)⟩
      · have he := ok_t he hb
        have he := ok_some he
        exact ⟨rfl, _, _, (leads_ren [] (l := [(6, .c (.own 900 false)), (7, .c (.bool false))]) (st' := [(900, .sl 37 (.sl .bool) ([] : List (List Bool)) (.deep true .no))]) rfl rfl ⟨trivial, trivial⟩ ⟨⟨rfl, trivial⟩, .inr rfl, trivial⟩), he⟩
    · have he := ok_t he hb
      have he := ok_some he
      exact ⟨rfl, _, _, (leads_ren [] (l := [(6, .c (.own 900 false)), (7, .c (.bool false))]) (st' := [(900, .sl 37 (.sl .bool) ([] : List (List Bool)) (.deep true .no))]) rfl rfl ⟨trivial, trivial⟩ ⟨⟨rfl, trivial⟩, .inr rfl, trivial⟩), he⟩
  · have he := ok_t he hb
    have he := ok_some he
    exact ⟨rfl, _, _, (leads_ren [] (l := [(6, .c (.own 900 false)), (7, .c (.bool false))]) (st' := [(900, .sl 37 (.sl .bool) ([] : List (List Bool)) (.deep true .no))]) rfl rfl ⟨trivial, trivial⟩ ⟨⟨rfl, trivial⟩, .inr rfl, trivial⟩), he⟩

noncomputable def c_laws_eqBoolS : Con := fun args st => match args, st with
  | [.c (.imm .bool a), .c (.imm .bool b)], [] => .opt (Bool) (laws_eqBoolS a b) (fun r => .ret (.c (.bool r)) [])
  | _, _ => .fail

noncomputable def C_laws_eqBoolS : Cfg := { y := tys, n := 26, h := 0, tab := [], cut := [], hand := [], good := [], deep := [], sched := [] }

theorem t_laws_eqBoolS : TabOk Try.prog C_laws_eqBoolS := tabOk_of (fun p h => by cases h)

theorem k_laws_eqBoolS : Entry Try.prog 146 c_laws_eqBoolS := by
  refine entry_by (C := C_laws_eqBoolS) mixed tys_ok t_laws_eqBoolS (fn := Try.f146) (c := bd Try.f146) (by kernel_rfl) (by kernel_rfl) (by kernel_rfl) (by kernel_rfl) ?_
  intro args st k he
  unfold c_laws_eqBoolS at he
  split at he
  rotate_left
  · exact he.elim
  rename_i a b
  have he : Ok (laws_eqBoolS a b) (fun r => k (.c (.bool r)) []) := he
  refine ⟨rfl, rfl, ?_⟩
  refine And.intro (fun hb => ?_) (fun hb => ?_)
  · have he := ok_t he hb
    have he := ok_some he
    exact ⟨rfl, _, _, Leads.refl _ _, he⟩
  · have he := ok_f he hb
    refine loop_model mixed tys_ok t_laws_eqBoolS (S := Int) (I := (fun i => (envOf [(0, .c (.imm .bool a)), (1, .c (.imm .bool b)), (5, .c (.int .i64 i))], []))) (f := laws_eqBoolS_l1 a b) (K := (fun r => k (.c (.bool r)) [])) he (leads_ren [] (l := [(0, .c (.imm .bool a)), (1, .c (.imm .bool b)), (5, .c (.int .i64 (0:Int)))]) (st' := []) rfl rfl trivial ⟨.inl rfl, .inl rfl, rfl, trivial⟩) ?_
    rintro i J1 he
    refine And.intro (fun hb => ?_) (fun hb => ?_)
    · have he := ok_t he hb
      refine And.intro (by kernel_rfl) ?_
      have he := ok_rq he
      refine And.intro he.1 ?_
      have he := he.2
      have he := ok_rq he
      refine And.intro he.1 ?_
      have he := he.2
      refine And.intro (fun hb => ?_) (fun hb => ?_)
      · have he := ok_t he hb
        have he := ok_some he
        exact ⟨rfl, _, _, Leads.refl _ _, he⟩
      · have he := ok_f he hb
        have he := ok_rq he
        refine And.intro he.1 ?_
        have he := he.2
        have he := ok_some he
        exact ⟨(i + (1:Int)), he, (leads_ren [] (l := [(0, .c (.imm .bool a)), (1, .c (.imm .bool b)), (5, .c (.int .i64 (i + (1:Int))))]) (st' := []) rfl rfl trivial ⟨.inl rfl, .inl rfl, rfl, trivial⟩)⟩
    · have he := ok_f he hb
      have he := ok_some he
      exact ⟨rfl, _, _, Leads.refl _ _, he⟩

noncomputable def c_laws_eqBoolSS : Con := fun args st => match args, st with
  | [.c (.imm (.sl .bool) a), .c (.imm (.sl .bool) b)], [] => .opt (Bool) (laws_eqBoolSS a b) (fun r => .ret (.c (.bool r)) [])
  | _, _ => .fail

noncomputable def C_laws_eqBoolSS : Cfg := { y := tys, n := 27, h := 0, tab := [(146, c_laws_eqBoolS)], cut := [], hand := [], good := [], deep := [], sched := [(6, (.first 0 (.first 1 (.first 2 (.first 3 (.first 4 (.first 5 (.first 6 (.first 7 (.alt 8 (.first 9 .done) .stop))))))))))] }

theorem t_laws_eqBoolSS : TabOk Try.prog C_laws_eqBoolSS := by
  refine tabOk_of ?_
  simp only [C_laws_eqBoolSS, List.forall_mem_cons]
  exact ⟨k_laws_eqBoolS, fun p h => by cases h⟩

theorem k_laws_eqBoolSS : Entry Try.prog 46 c_laws_eqBoolSS := by
  refine entry_by (C := C_laws_eqBoolSS) mixed tys_ok t_laws_eqBoolSS (fn := Try.f46) (c := bd Try.f46) (by kernel_rfl) (by kernel_rfl) (by kernel_rfl) (by kernel_rfl) ?_
  intro args st k he
  unfold c_laws_eqBoolSS at he
  split at he
  rotate_left
  · exact he.elim
  rename_i a b
  have he : Ok (laws_eqBoolSS a b) (fun r => k (.c (.bool r)) []) := he
  refine ⟨rfl, rfl, ?_⟩
  refine And.intro (fun hb => ?_) (fun hb => ?_)
  · have he := ok_t he hb
    have he := ok_some he
    exact ⟨rfl, _, _, Leads.refl _ _, he⟩
  · have he := ok_f he hb
    refine loop_model mixed tys_ok t_laws_eqBoolSS (S := Int) (I := (fun i => (envOf [(0, .c (.imm (.sl .bool) a)), (1, .c (.imm (.sl .bool) b)), (5, .c (.int .i64 i))], []))) (f := laws_eqBoolSS_l1 a b) (K := (fun r => k (.c (.bool r)) [])) he (leads_ren [] (l := [(0, .c (.imm (.sl .bool) a)), (1, .c (.imm (.sl .bool) b)), (5, .c (.int .i64 (0:Int)))]) (st' := []) rfl rfl trivial ⟨.inl rfl, .inl rfl, rfl, trivial⟩) ?_
    rintro i J1 he
    refine And.intro (fun hb => ?_) (fun hb => ?_)
    · have he := ok_t he hb
      refine And.intro (by kernel_rfl) ?_
      have he := ok_rq he
      refine And.intro he.1 ?_
      have he := he.2
      have he := ok_rq he
      refine And.intro he.1 ?_
      have he := he.2
      refine And.intro ?_ trivial
      obtain ⟨r2_, hr, he⟩ := ok_bind he
      refine ⟨r2_, hr, ?_⟩
      refine And.intro (fun hb => ?_) (fun hb => ?_)
      · have he := ok_t he hb
        have he := ok_some he
        exact ⟨rfl, _, _, Leads.refl _ _, he⟩
      · have he := ok_f he hb
        have he := ok_rq he
        refine And.intro he.1 ?_
        have he := he.2
        have he := ok_some he
        exact ⟨(i + (1:Int)), he, (leads_ren [] (l := [(0, .c (.imm (.sl .bool) a)), (1, .c (.imm (.sl .bool) b)), (5, .c (.int .i64 (i + (1:Int))))]) (st' := []) rfl rfl trivial ⟨.inl rfl, .inl rfl, rfl, trivial⟩)⟩
    · have he := ok_f he hb
      have he := ok_some he
      exact ⟨rfl, _, _, Leads.refl _ _, he⟩

noncomputable def c_laws_eqIntS : Con := fun args st => match args, st with
  | [.c (.imm (.int .i64) a), .c (.imm (.int .i64) b)], [] => .opt (Bool) (laws_eqIntS a b) (fun r => .ret (.c (.bool r)) [])
  | _, _ => .fail

noncomputable def C_laws_eqIntS : Cfg := { y := tys, n := 26, h := 0, tab := [], cut := [], hand := [], good := [], deep := [], sched := [] }

theorem t_laws_eqIntS : TabOk Try.prog C_laws_eqIntS := tabOk_of (fun p h => by cases h)

theorem k_laws_eqIntS : Entry Try.prog 29 c_laws_eqIntS := by
  refine entry_by (C := C_laws_eqIntS) mixed tys_ok t_laws_eqIntS (fn := Try.f29) (c := bd Try.f29) (by kernel_rfl) (by kernel_rfl) (by kernel_rfl) (by kernel_rfl) ?_
  intro args st k he
  unfold c_laws_eqIntS at he
  split at he
  rotate_left
  · exact he.elim
  rename_i a b
  have he : Ok (laws_eqIntS a b) (fun r => k (.c (.bool r)) []) := he
  refine ⟨rfl, rfl, ?_⟩
  refine And.intro (fun hb => ?_) (fun hb => ?_)
  · have he := ok_t he hb
    have he := ok_some he
    exact ⟨rfl, _, _, Leads.refl _ _, he⟩
  · have he := ok_f he hb
    refine loop_model mixed tys_ok t_laws_eqIntS (S := Int) (I := (fun i => (envOf [(0, .c (.imm (.int .i64) a)), (1, .c (.imm (.int .i64) b)), (5, .c (.int .i64 i))], []))) (f := laws_eqIntS_l1 a b) (K := (fun r => k (.c (.bool r)) [])) he (leads_ren [] (l := [(0, .c (.imm (.int .i64) a)), (1, .c (.imm (.int .i64) b)), (5, .c (.int .i64 (0:Int)))]) (st' := []) rfl rfl trivial ⟨.inl rfl, .inl rfl, rfl, trivial⟩) ?_
    rintro i J1 he
    refine And.intro (fun hb => ?_) (fun hb => ?_)
    · have he := ok_t he hb
      refine And.intro (by kernel_rfl) ?_
      have he := ok_rq he
      refine And.intro he.1 ?_
      have he := he.2
      have he := ok_rq he
      refine And.intro he.1 ?_
      have he := he.2
      refine And.intro (fun hb => ?_) (fun hb => ?_)
      · have he := ok_t he hb
        have he := ok_some he
        exact ⟨rfl, _, _, Leads.refl _ _, he⟩
      · have he := ok_f he hb
        have he := ok_rq he
        refine And.intro he.1 ?_
        have he := he.2
        have he := ok_some he
        exact ⟨(i + (1:Int)), he, (leads_ren [] (l := [(0, .c (.imm (.int .i64) a)), (1, .c (.imm (.int .i64) b)), (5, .c (.int .i64 (i + (1:Int))))]) (st' := []) rfl rfl trivial ⟨.inl rfl, .inl rfl, rfl, trivial⟩)⟩
    · have he := ok_f he hb
      have he := ok_some he
      exact ⟨rfl, _, _, Leads.refl _ _, he⟩

noncomputable def c_laws_eqIntSS : Con := fun args st => match args, st with
  | [.c (.imm (.sl (.int .i64)) a), .c (.imm (.sl (.int .i64)) b)], [] => .opt (Bool) (laws_eqIntSS a b) (fun r => .ret (.c (.bool r)) [])
  | _, _ => .fail

noncomputable def C_laws_eqIntSS : Cfg := { y := tys, n := 27, h := 0, tab := [(29, c_laws_eqIntS)], cut := [], hand := [], good := [], deep := [], sched := [(6, (.first 0 (.first 1 (.first 2 (.first 3 (.first 4 (.first 5 (.first 6 (.first 7 (.alt 8 (.first 9 .done) .stop))))))))))] }

theorem t_laws_eqIntSS : TabOk Try.prog C_laws_eqIntSS := by
  refine tabOk_of ?_
  simp only [C_laws_eqIntSS, List.forall_mem_cons]
  exact ⟨k_laws_eqIntS, fun p h => by cases h⟩

theorem k_laws_eqIntSS : Entry Try.prog 199 c_laws_eqIntSS := by
  refine entry_by (C := C_laws_eqIntSS) mixed tys_ok t_laws_eqIntSS (fn := Try.f199) (c := bd Try.f199) (by kernel_rfl) (by kernel_rfl) (by kernel_rfl) (by kernel_rfl) ?_
  intro args st k he
  unfold c_laws_eqIntSS at he
  split at he
  rotate_left
  · exact he.elim
  rename_i a b
  have he : Ok (laws_eqIntSS a b) (fun r => k (.c (.bool r)) []) := he
  refine ⟨rfl, rfl, ?_⟩
  refine And.intro (fun hb => ?_) (fun hb => ?_)
  · have he := ok_t he hb
    have he := ok_some he
    exact ⟨rfl, _, _, Leads.refl _ _, he⟩
  · have he := ok_f he hb
    refine loop_model mixed tys_ok t_laws_eqIntSS (S := Int) (I := (fun i => (envOf [(0, .c (.imm (.sl (.int .i64)) a)), (1, .c (.imm (.sl (.int .i64)) b)), (5, .c (.int .i64 i))], []))) (f := laws_eqIntSS_l1 a b) (K := (fun r => k (.c (.bool r)) [])) he (leads_ren [] (l := [(0, .c (.imm (.sl (.int .i64)) a)), (1, .c (.imm (.sl (.int .i64)) b)), (5, .c (.int .i64 (0:Int)))]) (st' := []) rfl rfl trivial ⟨.inl rfl, .inl rfl, rfl, trivial⟩) ?_
    rintro i J1 he
    refine And.intro (fun hb => ?_) (fun hb => ?_)
    · have he := ok_t he hb
      refine And.intro (by kernel_rfl) ?_
      have he := ok_rq he
      refine And.intro he.1 ?_
      have he := he.2
      have he := ok_rq he
      refine And.intro he.1 ?_
      have he := he.2
      refine And.intro ?_ trivial
      obtain ⟨r2_, hr, he⟩ := ok_bind he
      refine ⟨r2_, hr, ?_⟩
      refine And.intro (fun hb => ?_) (fun hb => ?_)
      · have he := ok_t he hb
        have he := ok_some he
        exact ⟨rfl, _, _, Leads.refl _ _, he⟩
      · have he := ok_f he hb
        have he := ok_rq he
        refine And.intro he.1 ?_
        have he := he.2
        have he := ok_some he
        exact ⟨(i + (1:Int)), he, (leads_ren [] (l := [(0, .c (.imm (.sl (.int .i64)) a)), (1, .c (.imm (.sl (.int .i64)) b)), (5, .c (.int .i64 (i + (1:Int))))]) (st' := []) rfl rfl trivial ⟨.inl rfl, .inl rfl, rfl, trivial⟩)⟩
    · have he := ok_f he hb
      have he := ok_some he
      exact ⟨rfl, _, _, Leads.refl _ _, he⟩

noncomputable def c_laws_eqRule : Con := fun args st => match args, st with
  | [.agg [.int .i64 a_0, .imm (.int .i64) a_1, .imm (.int .i64) a_2, .int .i64 a_3, .imm (.sl (.int .i64)) a_4], .agg [.int .i64 b_0, .imm (.int .i64) b_1, .imm (.int .i64) b_2, .int .i64 b_3, .imm (.sl (.int .i64)) b_4]], [] => .opt (Bool) (laws_eqRule (a_0, (a_1, (a_2, (a_3, a_4)))) (b_0, (b_1, (b_2, (b_3, b_4))))) (fun r => .ret (.c (.bool r)) [])
  | _, _ => .fail

noncomputable def C_laws_eqRule : Cfg := { y := tys, n := 33, h := 0, tab := [(29, c_laws_eqIntS), (199, c_laws_eqIntSS)], cut := [], hand := [], good := [], deep := [], sched := [] }

theorem t_laws_eqRule : TabOk Try.prog C_laws_eqRule := by
  refine tabOk_of ?_
  simp only [C_laws_eqRule, List.forall_mem_cons]
  exact ⟨k_laws_eqIntS, k_laws_eqIntSS, fun p h => by cases h⟩

theorem k_laws_eqRule : Entry Try.prog 91 c_laws_eqRule := by
  refine entry_by (C := C_laws_eqRule) mixed tys_ok t_laws_eqRule (fn := Try.f91) (c := bd Try.f91) (by kernel_rfl) (by kernel_rfl) (by kernel_rfl) (by kernel_rfl) ?_
  intro args st k he
  unfold c_laws_eqRule at he
  split at he
  rotate_left
  · exact he.elim
  rename_i a_0 a_1 a_2 a_3 a_4 b_0 b_1 b_2 b_3 b_4
  have he : Ok (laws_eqRule (a_0, (a_1, (a_2, (a_3, a_4)))) (b_0, (b_1, (b_2, (b_3, b_4))))) (fun r => k (.c (.bool r)) []) := he
  refine ⟨rfl, rfl, ?_⟩
  refine And.intro (fun hb => ?_) (fun hb => ?_)
  · have he := ok_t he hb
    have he := ok_some he
    exact ⟨rfl, _, _, (leads_ren [] (l := [(4, .c (.bool false))]) (st' := []) rfl rfl trivial ⟨.inr rfl, trivial⟩), he⟩
  · have he := ok_f he hb
    obtain ⟨r1_, hr, he⟩ := ok_bind he
    refine ⟨r1_, hr, ?_⟩
    refine And.intro (fun hb => ?_) (fun hb => ?_)
    · have he := ok_t he hb
      have he := ok_some he
      exact ⟨rfl, _, _, (leads_ren [] (l := [(4, .c (.bool false))]) (st' := []) rfl rfl trivial ⟨.inr rfl, trivial⟩), he⟩
    · have he := ok_f he hb
      obtain ⟨r2_, hr, he⟩ := ok_bind he
      refine ⟨r2_, hr, ?_⟩
      refine And.intro (fun hb => ?_) (fun hb => ?_)
      · have he := ok_t he hb
        have he := ok_some he
        exact ⟨rfl, _, _, (leads_ren [] (l := [(4, .c (.bool false))]) (st' := []) rfl rfl trivial ⟨.inr rfl, trivial⟩), he⟩
      · have he := ok_f he hb
        refine And.intro (fun hb => ?_) (fun hb => ?_)
        · have he := ok_t he hb
          have he := ok_some he
          exact ⟨rfl, _, _, (leads_ren [] (l := [(4, .c (.bool false))]) (st' := []) rfl rfl trivial ⟨.inr rfl, trivial⟩), he⟩
        · have he := ok_f he hb
          obtain ⟨r3_, hr, he⟩ := ok_bind he
          refine ⟨r3_, hr, ?_⟩
          refine And.intro (fun hb => ?_) (fun hb => ?_)
          · have he := ok_t he hb
            have he := ok_some he
            exact ⟨rfl, _, _, (leads_ren [] (l := [(4, .c (.bool false))]) (st' := []) rfl rfl trivial ⟨.inr rfl, trivial⟩), he⟩
          · have he := ok_f he hb
            have he := ok_some he
            exact ⟨rfl, _, _, (leads_ren [] (l := [(4, .c (.bool true))]) (st' := []) rfl rfl trivial ⟨.inr rfl, trivial⟩), he⟩

noncomputable def c_laws_eqRuleS : Con := fun args st => match args, st with
  | [.c (.imm (.pair (.int .i64) (.pair (.sl (.int .i64)) (.pair (.sl (.int .i64)) (.pair (.int .i64) (.sl (.sl (.int .i64))))))) a), .c (.imm (.pair (.int .i64) (.pair (.sl (.int .i64)) (.pair (.sl (.int .i64)) (.pair (.int .i64) (.sl (.sl (.int .i64))))))) b)], [] => .opt (Bool) (laws_eqRuleS a b) (fun r => .ret (.c (.bool r)) [])
  | _, _ => .fail

noncomputable def C_laws_eqRuleS : Cfg := { y := tys, n := 27, h := 0, tab := [(91, c_laws_eqRule)], cut := [], hand := [], good := [], deep := [], sched := [(6, (.first 0 (.first 1 (.first 2 (.first 3 (.first 4 (.first 5 (.first 6 (.first 7 (.alt 8 (.first 9 .done) .stop))))))))))] }

theorem t_laws_eqRuleS : TabOk Try.prog C_laws_eqRuleS := by
  refine tabOk_of ?_
  simp only [C_laws_eqRuleS, List.forall_mem_cons]
  exact ⟨k_laws_eqRule, fun p h => by cases h⟩

theorem k_laws_eqRuleS : Entry Try.prog 117 c_laws_eqRuleS := by
  refine entry_by (C := C_laws_eqRuleS) mixed tys_ok t_laws_eqRuleS (fn := Try.f117) (c := bd Try.f117) (by kernel_rfl) (by kernel_rfl) (by kernel_rfl) (by kernel_rfl) ?_
  intro args st k he
  unfold c_laws_eqRuleS at he
  split at he
  rotate_left
  · exact he.elim
  rename_i a b
  have he : Ok (laws_eqRuleS a b) (fun r => k (.c (.bool r)) []) := he
  refine ⟨rfl, rfl, ?_⟩
  refine And.intro (fun hb => ?_) (fun hb => ?_)
  · have he := ok_t he hb
    have he := ok_some he
    exact ⟨rfl, _, _, Leads.refl _ _, he⟩
  · have he := ok_f he hb
    refine loop_model mixed tys_ok t_laws_eqRuleS (S := Int) (I := (fun i => (envOf [(0, .c (.imm (.pair (.int .i64) (.pair (.sl (.int .i64)) (.pair (.sl (.int .i64)) (.pair (.int .i64) (.sl (.sl (.int .i64))))))) a)), (1, .c (.imm (.pair (.int .i64) (.pair (.sl (.int .i64)) (.pair (.sl (.int .i64)) (.pair (.int .i64) (.sl (.sl (.int .i64))))))) b)), (5, .c (.int .i64 i))], []))) (f := laws_eqRuleS_l1 a b) (K := (fun r => k (.c (.bool r)) [])) he (leads_ren [] (l := [(0, .c (.imm (.pair (.int .i64) (.pair (.sl (.int .i64)) (.pair (.sl (.int .i64)) (.pair (.int .i64) (.sl (.sl (.int .i64))))))) a)), (1, .c (.imm (.pair (.int .i64) (.pair (.sl (.int .i64)) (.pair (.sl (.int .i64)) (.pair (.int .i64) (.sl (.sl (.int .i64))))))) b)), (5, .c (.int .i64 (0:Int)))]) (st' := []) rfl rfl trivial ⟨.inl rfl, .inl rfl, rfl, trivial⟩) ?_
    rintro i J1 he
    refine And.intro (fun hb => ?_) (fun hb => ?_)
    · have he := ok_t he hb
      refine And.intro (by kernel_rfl) ?_
      have he := ok_rq he
      refine And.intro he.1 ?_
      have he := he.2
      have he := ok_rq he
      refine And.intro he.1 ?_
      have he := he.2
      refine And.intro ?_ trivial
      obtain ⟨r2_, hr, he⟩ := ok_bind he
      refine ⟨r2_, hr, ?_⟩
      refine And.intro (fun hb => ?_) (fun hb => ?_)
      · have he := ok_t he hb
        have he := ok_some he
        exact ⟨rfl, _, _, Leads.refl _ _, he⟩
      · have he := ok_f he hb
        have he := ok_rq he
        refine And.intro he.1 ?_
        have he := he.2
        have he := ok_some he
        exact ⟨(i + (1:Int)), he, (leads_ren [] (l := [(0, .c (.imm (.pair (.int .i64) (.pair (.sl (.int .i64)) (.pair (.sl (.int .i64)) (.pair (.int .i64) (.sl (.sl (.int .i64))))))) a)), (1, .c (.imm (.pair (.int .i64) (.pair (.sl (.int .i64)) (.pair (.sl (.int .i64)) (.pair (.int .i64) (.sl (.sl (.int .i64))))))) b)), (5, .c (.int .i64 (i + (1:Int))))]) (st' := []) rfl rfl trivial ⟨.inl rfl, .inl rfl, rfl, trivial⟩)⟩
    · have he := ok_f he hb
      have he := ok_some he
      exact ⟨rfl, _, _, Leads.refl _ _, he⟩

noncomputable def c_laws_eqModel : Con := fun args st => match args, st with
  | [.agg [.imm (.int .i64) a_0, .imm (.pair (.int .i64) (.pair (.sl (.int .i64)) (.pair (.sl (.int .i64)) (.pair (.int .i64) (.sl (.sl (.int .i64))))))) a_1], .agg [.imm (.int .i64) b_0, .imm (.pair (.int .i64) (.pair (.sl (.int .i64)) (.pair (.sl (.int .i64)) (.pair (.int .i64) (.sl (.sl (.int .i64))))))) b_1]], [] => .opt (Bool) (laws_eqModel (a_0, a_1) (b_0, b_1)) (fun r => .ret (.c (.bool r)) [])
  | _, _ => .fail

noncomputable def C_laws_eqModel : Cfg := { y := tys, n := 17, h := 0, tab := [(29, c_laws_eqIntS), (117, c_laws_eqRuleS)], cut := [], hand := [], good := [], deep := [], sched := [] }

theorem t_laws_eqModel : TabOk Try.prog C_laws_eqModel := by
  refine tabOk_of ?_
  simp only [C_laws_eqModel, List.forall_mem_cons]
  exact ⟨k_laws_eqIntS, k_laws_eqRuleS, fun p h => by cases h⟩

theorem k_laws_eqModel : Entry Try.prog 28 c_laws_eqModel := by
  refine entry_by (C := C_laws_eqModel) mixed tys_ok t_laws_eqModel (fn := Try.f28) (c := bd Try.f28) (by kernel_rfl) (by kernel_rfl) (by kernel_rfl) (by kernel_rfl) ?_
  intro args st k he
  unfold c_laws_eqModel at he
  split at he
  rotate_left
  · exact he.elim
  rename_i a_0 a_1 b_0 b_1
  have he : Ok (laws_eqModel (a_0, a_1) (b_0, b_1)) (fun r => k (.c (.bool r)) []) := he
  refine ⟨rfl, rfl, ?_⟩
  obtain ⟨r1_, hr, he⟩ := ok_bind he
  refine ⟨r1_, hr, ?_⟩
  refine And.intro (fun hb => ?_) (fun hb => ?_)
  · have he := ok_t he hb
    have he := ok_some he
    exact ⟨rfl, _, _, (leads_ren [] (l := [(4, .c (.bool false))]) (st' := []) rfl rfl trivial ⟨.inr rfl, trivial⟩), he⟩
  · have he := ok_f he hb
    obtain ⟨r2_, hr, he⟩ := ok_bind he
    refine ⟨r2_, hr, ?_⟩
    refine And.intro (fun hb => ?_) (fun hb => ?_)
    · have he := ok_t he hb
      have he := ok_some he
      exact ⟨rfl, _, _, (leads_ren [] (l := [(4, .c (.bool false))]) (st' := []) rfl rfl trivial ⟨.inr rfl, trivial⟩), he⟩
    · have he := ok_f he hb
      have he := ok_some he
      exact ⟨rfl, _, _, (leads_ren [] (l := [(4, .c (.bool true))]) (st' := []) rfl rfl trivial ⟨.inr rfl, trivial⟩), he⟩

end Go.AE.Y
