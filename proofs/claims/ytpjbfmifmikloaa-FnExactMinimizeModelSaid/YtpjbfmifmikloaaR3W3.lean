/-
  Walks: each function keeps the contract that its model gives. No conditions.
-/
import Derived.Test.YtpjbfmifmikloaaR3Tab
import Derived.Test.YtpjbfmifmikloaaR3W2
namespace Go.AE.Y
open Go Go.AE Go.Proofs
set_option linter.unusedVariables false
set_option maxHeartbeats 2000000
set_option maxRecDepth 100000

noncomputable def c_slices_IndexFunc_int__impl_isObjective_1 : Con := fun args st => match args, st with
  | [.c (.imm (.int .i64) s_), .c (.fn 161 [])], [] => .opt (Int) (slices_IndexFunc_int__impl_isObjective_1 s_) (fun r => .ret (.c (.int .i64 r)) [])
  | _, _ => .fail

noncomputable def C_slices_IndexFunc_int__impl_isObjective_1 : Cfg := { y := tys, n := 19, h := 0, tab := [(161, c_impl_isObjective_1)], cut := [], hand := [], good := [], deep := [], sched := [] }

theorem t_slices_IndexFunc_int__impl_isObjective_1 : TabOk Try.prog C_slices_IndexFunc_int__impl_isObjective_1 := by
  refine tabOk_of ?_
  simp only [C_slices_IndexFunc_int__impl_isObjective_1, List.forall_mem_cons]
  exact ⟨k_impl_isObjective_1, fun p h => by cases h⟩

theorem k_slices_IndexFunc_int__impl_isObjective_1 : Entry Try.prog 151 c_slices_IndexFunc_int__impl_isObjective_1 := by
  refine entry_by (C := C_slices_IndexFunc_int__impl_isObjective_1) mixed tys_ok t_slices_IndexFunc_int__impl_isObjective_1 (fn := Try.f151) (c := bd Try.f151) (by kernel_rfl) (by kernel_rfl) (by kernel_rfl) (by kernel_rfl) ?_
  intro args st k he
  unfold c_slices_IndexFunc_int__impl_isObjective_1 at he
  split at he
  rotate_left
  · exact he.elim
  rename_i s_
  have he : Ok (slices_IndexFunc_int__impl_isObjective_1 s_) (fun r => k (.c (.int .i64 r)) []) := he
  refine ⟨rfl, rfl, ?_⟩
  refine loop_model mixed tys_ok t_slices_IndexFunc_int__impl_isObjective_1 (S := Int) (I := (fun i => (envOf [(0, .c (.imm (.int .i64) s_)), (1, .c (.fn 161 [])), (7, .c (.int .i64 (s_.length:Int))), (8, .c (.int .i64 i))], []))) (f := slices_IndexFunc_int__impl_isObjective_1_l1 s_) (K := (fun r => k (.c (.int .i64 r)) [])) he (leads_ren [] (l := [(0, .c (.imm (.int .i64) s_)), (1, .c (.fn 161 [])), (7, .c (.int .i64 (s_.length:Int))), (8, .c (.int .i64 (0:Int)))]) (st' := []) rfl rfl trivial ⟨.inl rfl, ⟨rfl, trivial⟩, rfl, rfl, trivial⟩) ?_
  rintro i J1 he
  refine And.intro (fun hb => ?_) (fun hb => ?_)
  · have he := ok_t he hb
    have he := ok_rq he
    refine And.intro he.1 ?_
    have he := he.2
    obtain ⟨r1_, hr, he⟩ := ok_bind he
    refine ⟨r1_, hr, ?_⟩
    refine And.intro (fun hb => ?_) (fun hb => ?_)
    · have he := ok_t he hb
      have he := ok_some he
      exact ⟨rfl, _, _, Leads.refl _ _, he⟩
    · have he := ok_f he hb
      have he := ok_rq he
      refine And.intro he.1 ?_
      have he := he.2
      have he := ok_some he
      exact ⟨(i + (1:Int)), he, (leads_ren [] (l := [(0, .c (.imm (.int .i64) s_)), (1, .c (.fn 161 [])), (7, .c (.int .i64 (s_.length:Int))), (8, .c (.int .i64 (i + (1:Int))))]) (st' := []) rfl rfl trivial ⟨.inl rfl, ⟨rfl, trivial⟩, rfl, rfl, trivial⟩)⟩
  · have he := ok_f he hb
    have he := ok_some he
    exact ⟨rfl, _, _, Leads.refl _ _, he⟩

noncomputable def c_slices_ContainsFunc_int__impl_isObjective_1 : Con := fun args st => match args, st with
  | [.c (.imm (.int .i64) s_), .c (.fn 161 [])], [] => .opt (Bool) (slices_ContainsFunc_int__impl_isObjective_1 s_) (fun r => .ret (.c (.bool r)) [])
  | _, _ => .fail

noncomputable def C_slices_ContainsFunc_int__impl_isObjective_1 : Cfg := { y := tys, n := 9, h := 0, tab := [(151, c_slices_IndexFunc_int__impl_isObjective_1)], cut := [], hand := [], good := [], deep := [], sched := [] }

theorem t_slices_ContainsFunc_int__impl_isObjective_1 : TabOk Try.prog C_slices_ContainsFunc_int__impl_isObjective_1 := by
  refine tabOk_of ?_
  simp only [C_slices_ContainsFunc_int__impl_isObjective_1, List.forall_mem_cons]
  exact ⟨k_slices_IndexFunc_int__impl_isObjective_1, fun p h => by cases h⟩

theorem k_slices_ContainsFunc_int__impl_isObjective_1 : Entry Try.prog 91 c_slices_ContainsFunc_int__impl_isObjective_1 := by
  refine entry_by (C := C_slices_ContainsFunc_int__impl_isObjective_1) mixed tys_ok t_slices_ContainsFunc_int__impl_isObjective_1 (fn := Try.f91) (c := bd Try.f91) (by kernel_rfl) (by kernel_rfl) (by kernel_rfl) (by kernel_rfl) ?_
  intro args st k he
  unfold c_slices_ContainsFunc_int__impl_isObjective_1 at he
  split at he
  rotate_left
  · exact he.elim
  rename_i s_
  have he : Ok (slices_ContainsFunc_int__impl_isObjective_1 s_) (fun r => k (.c (.bool r)) []) := he
  refine ⟨rfl, rfl, ?_⟩
  obtain ⟨r1_, hr, he⟩ := ok_bind he
  refine ⟨r1_, hr, ?_⟩
  have he := ok_some he
  exact ⟨rfl, _, _, Leads.refl _ _, he⟩

noncomputable def c_impl_isObjective : Con := fun args st => match args, st with
  | [.agg [.imm (.int .i64) m_0, .imm (.pair (.int .i64) (.pair (.sl (.int .i64)) (.pair (.sl (.int .i64)) (.pair (.int .i64) (.sl (.sl (.int .i64))))))) m_1], .c (.imm (.int .i64) coefs)], [] => .opt (Bool) (impl_isObjective (m_0, m_1) coefs) (fun r => .ret (.c (.bool r)) [])
  | _, _ => .fail

noncomputable def C_impl_isObjective : Cfg := { y := tys, n := 16, h := 0, tab := [(91, c_slices_ContainsFunc_int__impl_isObjective_1)], cut := [], hand := [], good := [], deep := [], sched := [] }

theorem t_impl_isObjective : TabOk Try.prog C_impl_isObjective := by
  refine tabOk_of ?_
  simp only [C_impl_isObjective, List.forall_mem_cons]
  exact ⟨k_slices_ContainsFunc_int__impl_isObjective_1, fun p h => by cases h⟩

theorem k_impl_isObjective : Entry Try.prog 109 c_impl_isObjective := by
  refine entry_by (C := C_impl_isObjective) mixed tys_ok t_impl_isObjective (fn := Try.f109) (c := bd Try.f109) (by kernel_rfl) (by kernel_rfl) (by kernel_rfl) (by kernel_rfl) ?_
  intro args st k he
  unfold c_impl_isObjective at he
  split at he
  rotate_left
  · exact he.elim
  rename_i m_0 m_1 coefs
  have he : Ok (impl_isObjective (m_0, m_1) coefs) (fun r => k (.c (.bool r)) []) := he
  refine ⟨rfl, rfl, ?_⟩
  refine And.intro (fun hb => ?_) (fun hb => ?_)
  · have he := ok_t he hb
    obtain ⟨r1_, hr, he⟩ := ok_bind he
    refine ⟨r1_, hr, ?_⟩
    have he := ok_some he
    exact ⟨rfl, _, _, (leads_ren [] (l := [(4, .c (.bool (!r1_)))]) (st' := []) rfl rfl trivial ⟨.inl rfl, trivial⟩), he⟩
  · have he := ok_f he hb
    have he := ok_some he
    exact ⟨rfl, _, _, (leads_ren [] (l := [(4, .c (.bool false))]) (st' := []) rfl rfl trivial ⟨.inr rfl, trivial⟩), he⟩

noncomputable def c_slices_Clone_int : Con := fun args st => match args, st with
  | [.c (.imm (.int .i64) s_)], [] => .opt ((List Int)) (slices_Clone_int s_) (fun r => .ret (.c (.own 900 false)) [(900, .sl 3 (.int .i64) r .shallow)])
  | _, _ => .fail

noncomputable def C_slices_Clone_int : Cfg := { y := tys, n := 8, h := 0, tab := [], cut := [], hand := [], good := [], deep := [], sched := [] }

theorem t_slices_Clone_int : TabOk Try.prog C_slices_Clone_int := tabOk_of (fun p h => by cases h)

theorem k_slices_Clone_int : Entry Try.prog 119 c_slices_Clone_int := by
  refine entry_by (C := C_slices_Clone_int) mixed tys_ok t_slices_Clone_int (fn := Try.f119) (c := bd Try.f119) (by kernel_rfl) (by kernel_rfl) (by kernel_rfl) (by kernel_rfl) ?_
  intro args st k he
  unfold c_slices_Clone_int at he
  split at he
  rotate_left
  · exact he.elim
  rename_i s_
  have he : Ok (slices_Clone_int s_) (fun r => k (.c (.own 900 false)) [(900, .sl 3 (.int .i64) r .shallow)]) := he
  refine ⟨rfl, rfl, ?_⟩
  refine fun b1_ hb1_ => ?_
  have he := ok_nt he hb1_
  refine And.intro (fun hb => ?_) (fun hb => ?_)
  · have he := ok_t he hb
    have he := ok_some he
    exact ⟨rfl, _, _, (leads_ren [] (l := [(2, .c (.own 900 false))]) (st' := [(900, .sl 3 (.int .i64) ([] : List Int) .shallow)]) rfl rfl ⟨trivial, trivial⟩ ⟨⟨rfl, trivial⟩, trivial⟩), he⟩
  · have he := ok_f he hb
    have he := ok_rq he
    refine And.intro he.1 ?_
    have he := he.2
    have he := ok_some he
    exact ⟨rfl, _, _, (leads_ren [(900, 7)] (l := [(2, .c (.own 900 false))]) (st' := [(900, .sl 3 (.int .i64) (([] : List Int) ++ s_) .shallow)]) rfl rfl ⟨⟨rfl, rfl⟩, trivial⟩ ⟨⟨⟨rfl, rfl⟩, trivial⟩, trivial⟩), he⟩

noncomputable def c_slices_Equal_int : Con := fun args st => match args, st with
  | [.c (.imm (.int .i64) s1_), .c (.imm (.int .i64) s2_)], [] => .opt (Bool) (slices_Equal_int s1_ s2_) (fun r => .ret (.c (.bool r)) [])
  | _, _ => .fail

noncomputable def C_slices_Equal_int : Cfg := { y := tys, n := 26, h := 0, tab := [], cut := [], hand := [], good := [], deep := [], sched := [] }

theorem t_slices_Equal_int : TabOk Try.prog C_slices_Equal_int := tabOk_of (fun p h => by cases h)

theorem k_slices_Equal_int : Entry Try.prog 200 c_slices_Equal_int := by
  refine entry_by (C := C_slices_Equal_int) mixed tys_ok t_slices_Equal_int (fn := Try.f200) (c := bd Try.f200) (by kernel_rfl) (by kernel_rfl) (by kernel_rfl) (by kernel_rfl) ?_
  intro args st k he
  unfold c_slices_Equal_int at he
  split at he
  rotate_left
  · exact he.elim
  rename_i s1_ s2_
  have he : Ok (slices_Equal_int s1_ s2_) (fun r => k (.c (.bool r)) []) := he
  refine ⟨rfl, rfl, ?_⟩
  refine And.intro (fun hb => ?_) (fun hb => ?_)
  · have he := ok_t he hb
    have he := ok_some he
    exact ⟨rfl, _, _, Leads.refl _ _, he⟩
  · have he := ok_f he hb
    refine loop_model mixed tys_ok t_slices_Equal_int (S := Int) (I := (fun i => (envOf [(0, .c (.imm (.int .i64) s1_)), (1, .c (.imm (.int .i64) s2_)), (12, .c (.int .i64 (s1_.length:Int))), (13, .c (.int .i64 i))], []))) (f := slices_Equal_int_l1 s1_ s2_) (K := (fun r => k (.c (.bool r)) [])) he (leads_ren [] (l := [(0, .c (.imm (.int .i64) s1_)), (1, .c (.imm (.int .i64) s2_)), (12, .c (.int .i64 (s1_.length:Int))), (13, .c (.int .i64 (0:Int)))]) (st' := []) rfl rfl trivial ⟨.inl rfl, .inl rfl, rfl, rfl, trivial⟩) ?_
    rintro i J1 he
    refine And.intro (fun hb => ?_) (fun hb => ?_)
    · have he := ok_t he hb
      refine And.intro (by kernel_rfl) ?_
      have he := ok_rq he
      refine And.intro he.1 ?_
      have he := he.2
      have he := ok_rq he
      refine And.intro he.1 ?_
      have he := he.2
      refine And.intro (fun hb => ?_) (fun hb => ?_)
      · have he := ok_t he hb
        have he := ok_some he
        exact ⟨rfl, _, _, Leads.refl _ _, he⟩
      · have he := ok_f he hb
        have he := ok_rq he
        refine And.intro he.1 ?_
        have he := he.2
        have he := ok_some he
        exact ⟨(i + (1:Int)), he, (leads_ren [] (l := [(0, .c (.imm (.int .i64) s1_)), (1, .c (.imm (.int .i64) s2_)), (12, .c (.int .i64 (s1_.length:Int))), (13, .c (.int .i64 (i + (1:Int))))]) (st' := []) rfl rfl trivial ⟨.inl rfl, .inl rfl, rfl, rfl, trivial⟩)⟩
    · have he := ok_f he hb
      have he := ok_some he
      exact ⟨rfl, _, _, Leads.refl _ _, he⟩

noncomputable def c_impl_Rule_holds_1 : Con := fun args st => match args, st with
  | [.c (.imm (.int .i64) row), .c (.ptr 0 0)], [(0, .rc [.imm (.int .i64) o0])] => .opt (Bool) (impl_Rule_holds_1 row o0) (fun r => .ret (.c (.bool r)) [(0, .rc [.imm (.int .i64) o0])])
  | _, _ => .fail

noncomputable def C_impl_Rule_holds_1 : Cfg := { y := tys, n := 7, h := 1, tab := [(200, c_slices_Equal_int)], cut := [], hand := [], good := [], deep := [], sched := [] }

theorem t_impl_Rule_holds_1 : TabOk Try.prog C_impl_Rule_holds_1 := by
  refine tabOk_of ?_
  simp only [C_impl_Rule_holds_1, List.forall_mem_cons]
  exact ⟨k_slices_Equal_int, fun p h => by cases h⟩

theorem k_impl_Rule_holds_1 : Entry Try.prog 199 c_impl_Rule_holds_1 := by
  refine entry_by (C := C_impl_Rule_holds_1) mixed tys_ok t_impl_Rule_holds_1 (fn := Try.f199) (c := bd Try.f199) (by kernel_rfl) (by kernel_rfl) (by kernel_rfl) (by kernel_rfl) ?_
  intro args st k he
  unfold c_impl_Rule_holds_1 at he
  split at he
  rotate_left
  · exact he.elim
  rename_i row o0
  have he : Ok (impl_Rule_holds_1 row o0) (fun r => k (.c (.bool r)) [(0, .rc [.imm (.int .i64) o0])]) := he
  refine ⟨rfl, rfl, ?_⟩
  obtain ⟨r1_, hr, he⟩ := ok_bind he
  refine ⟨r1_, hr, ?_⟩
  have he := ok_some he
  exact ⟨rfl, _, _, (leads_ren [] (l := [(3, .c (.bool r1_))]) (st' := [(0, .rc [.imm (.int .i64) o0])]) rfl rfl ⟨⟨.inl rfl, trivial⟩, trivial⟩ ⟨.inl rfl, trivial⟩), he⟩

noncomputable def c_slices_IndexFunc_s_int__impl_Rule_holds_1 : Con := fun args st => match args, st with
  | [.c (.imm (.sl (.int .i64)) s_), .c (.fn 199 [0])], [(0, .rc [.imm (.int .i64) o0])] => .opt (Int) (slices_IndexFunc_s_int__impl_Rule_holds_1 s_ o0) (fun r => .ret (.c (.int .i64 r)) [(0, .rc [.imm (.int .i64) o0])])
  | _, _ => .fail

noncomputable def C_slices_IndexFunc_s_int__impl_Rule_holds_1 : Cfg := { y := tys, n := 19, h := 1, tab := [(199, c_impl_Rule_holds_1)], cut := [], hand := [], good := [], deep := [], sched := [] }

theorem t_slices_IndexFunc_s_int__impl_Rule_holds_1 : TabOk Try.prog C_slices_IndexFunc_s_int__impl_Rule_holds_1 := by
  refine tabOk_of ?_
  simp only [C_slices_IndexFunc_s_int__impl_Rule_holds_1, List.forall_mem_cons]
  exact ⟨k_impl_Rule_holds_1, fun p h => by cases h⟩

theorem k_slices_IndexFunc_s_int__impl_Rule_holds_1 : Entry Try.prog 197 c_slices_IndexFunc_s_int__impl_Rule_holds_1 := by
  refine entry_by (C := C_slices_IndexFunc_s_int__impl_Rule_holds_1) mixed tys_ok t_slices_IndexFunc_s_int__impl_Rule_holds_1 (fn := Try.f197) (c := bd Try.f197) (by kernel_rfl) (by kernel_rfl) (by kernel_rfl) (by kernel_rfl) ?_
  intro args st k he
  unfold c_slices_IndexFunc_s_int__impl_Rule_holds_1 at he
  split at he
  rotate_left
  · exact he.elim
  rename_i s_ o0
  have he : Ok (slices_IndexFunc_s_int__impl_Rule_holds_1 s_ o0) (fun r => k (.c (.int .i64 r)) [(0, .rc [.imm (.int .i64) o0])]) := he
  refine ⟨rfl, rfl, ?_⟩
  refine loop_model mixed tys_ok t_slices_IndexFunc_s_int__impl_Rule_holds_1 (S := Int) (I := (fun i => (envOf [(0, .c (.imm (.sl (.int .i64)) s_)), (1, .c (.fn 199 [0])), (7, .c (.int .i64 (s_.length:Int))), (8, .c (.int .i64 i))], [(0, .rc [.imm (.int .i64) o0])]))) (f := slices_IndexFunc_s_int__impl_Rule_holds_1_l1 s_ o0) (K := (fun r => k (.c (.int .i64 r)) [(0, .rc [.imm (.int .i64) o0])])) he (leads_ren [] (l := [(0, .c (.imm (.sl (.int .i64)) s_)), (1, .c (.fn 199 [0])), (7, .c (.int .i64 (s_.length:Int))), (8, .c (.int .i64 (0:Int)))]) (st' := [(0, .rc [.imm (.int .i64) o0])]) rfl rfl ⟨⟨.inl rfl, trivial⟩, trivial⟩ ⟨.inl rfl, ⟨rfl, ⟨⟨rfl, rfl⟩, trivial⟩⟩, rfl, rfl, trivial⟩) ?_
  rintro i J1 he
  refine And.intro (fun hb => ?_) (fun hb => ?_)
  · have he := ok_t he hb
    have he := ok_rq he
    refine And.intro he.1 ?_
    have he := he.2
    obtain ⟨r1_, hr, he⟩ := ok_bind he
    refine ⟨r1_, hr, ?_⟩
    refine And.intro (fun hb => ?_) (fun hb => ?_)
    · have he := ok_t he hb
      have he := ok_some he
      exact ⟨rfl, _, _, (leads_ren [] (l := [(4, .c (.int .i64 i))]) (st' := [(0, .rc [.imm (.int .i64) o0])]) rfl rfl ⟨⟨.inl rfl, trivial⟩, trivial⟩ ⟨rfl, trivial⟩), he⟩
    · have he := ok_f he hb
      have he := ok_rq he
      refine And.intro he.1 ?_
      have he := he.2
      have he := ok_some he
      exact ⟨(i + (1:Int)), he, (leads_ren [] (l := [(0, .c (.imm (.sl (.int .i64)) s_)), (1, .c (.fn 199 [0])), (7, .c (.int .i64 (s_.length:Int))), (8, .c (.int .i64 (i + (1:Int))))]) (st' := [(0, .rc [.imm (.int .i64) o0])]) rfl rfl ⟨⟨.inl rfl, trivial⟩, trivial⟩ ⟨.inl rfl, ⟨rfl, ⟨⟨rfl, rfl⟩, trivial⟩⟩, rfl, rfl, trivial⟩)⟩
  · have he := ok_f he hb
    have he := ok_some he
    exact ⟨rfl, _, _, (leads_ren [] (l := [(4, .c (.int .i64 (-1:Int)))]) (st' := [(0, .rc [.imm (.int .i64) o0])]) rfl rfl ⟨⟨.inl rfl, trivial⟩, trivial⟩ ⟨rfl, trivial⟩), he⟩

noncomputable def c_slices_ContainsFunc_s_int__impl_Rule_holds_1 : Con := fun args st => match args, st with
  | [.c (.imm (.sl (.int .i64)) s_), .c (.fn 199 [0])], [(0, .rc [.imm (.int .i64) o0])] => .opt (Bool) (slices_ContainsFunc_s_int__impl_Rule_holds_1 s_ o0) (fun r => .ret (.c (.bool r)) [(0, .rc [.imm (.int .i64) o0])])
  | _, _ => .fail

noncomputable def C_slices_ContainsFunc_s_int__impl_Rule_holds_1 : Cfg := { y := tys, n := 9, h := 1, tab := [(197, c_slices_IndexFunc_s_int__impl_Rule_holds_1)], cut := [], hand := [], good := [], deep := [], sched := [] }

theorem t_slices_ContainsFunc_s_int__impl_Rule_holds_1 : TabOk Try.prog C_slices_ContainsFunc_s_int__impl_Rule_holds_1 := by
  refine tabOk_of ?_
  simp only [C_slices_ContainsFunc_s_int__impl_Rule_holds_1, List.forall_mem_cons]
  exact ⟨k_slices_IndexFunc_s_int__impl_Rule_holds_1, fun p h => by cases h⟩

theorem k_slices_ContainsFunc_s_int__impl_Rule_holds_1 : Entry Try.prog 187 c_slices_ContainsFunc_s_int__impl_Rule_holds_1 := by
  refine entry_by (C := C_slices_ContainsFunc_s_int__impl_Rule_holds_1) mixed tys_ok t_slices_ContainsFunc_s_int__impl_Rule_holds_1 (fn := Try.f187) (c := bd Try.f187) (by kernel_rfl) (by kernel_rfl) (by kernel_rfl) (by kernel_rfl) ?_
  intro args st k he
  unfold c_slices_ContainsFunc_s_int__impl_Rule_holds_1 at he
  split at he
  rotate_left
  · exact he.elim
  rename_i s_ o0
  have he : Ok (slices_ContainsFunc_s_int__impl_Rule_holds_1 s_ o0) (fun r => k (.c (.bool r)) [(0, .rc [.imm (.int .i64) o0])]) := he
  refine ⟨rfl, rfl, ?_⟩
  obtain ⟨r1_, hr, he⟩ := ok_bind he
  refine ⟨r1_, hr, ?_⟩
  have he := ok_some he
  exact ⟨rfl, _, _, (leads_ren [] (l := [(4, .c (.bool (decide ((0:Int) ≤ r1_))))]) (st' := [(0, .rc [.imm (.int .i64) o0])]) rfl rfl ⟨⟨.inl rfl, trivial⟩, trivial⟩ ⟨.inl rfl, trivial⟩), he⟩

noncomputable def c_impl_Rule_holds : Con := fun args st => match args, st with
  | [.agg [.int .i64 r__0, .imm (.int .i64) r__1, .imm (.int .i64) r__2, .int .i64 r__3, .imm (.sl (.int .i64)) r__4], .c (.imm (.int .i64) vals)], [] => .opt (Bool) (impl_Rule_holds (r__0, (r__1, (r__2, (r__3, r__4)))) vals) (fun r => .ret (.c (.bool r)) [])
  | _, _ => .fail

noncomputable def C_impl_Rule_holds : Cfg := { y := tys, n := 63, h := 0, tab := [(102, c_slices_Contains_int), (187, c_slices_ContainsFunc_s_int__impl_Rule_holds_1)], cut := [], hand := [], good := [], deep := [], sched := [] }

theorem t_impl_Rule_holds : TabOk Try.prog C_impl_Rule_holds := by
  refine tabOk_of ?_
  simp only [C_impl_Rule_holds, List.forall_mem_cons]
  exact ⟨k_slices_Contains_int, k_slices_ContainsFunc_s_int__impl_Rule_holds_1, fun p h => by cases h⟩

theorem k_impl_Rule_holds : Entry Try.prog 193 c_impl_Rule_holds := by
  refine entry_by (C := C_impl_Rule_holds) mixed tys_ok t_impl_Rule_holds (fn := Try.f193) (c := bd Try.f193) (by kernel_rfl) (by kernel_rfl) (by kernel_rfl) (by kernel_rfl) ?_
  intro args st k he
  unfold c_impl_Rule_holds at he
  split at he
  rotate_left
  · exact he.elim
  rename_i r__0 r__1 r__2 r__3 r__4 vals
  have he : Ok (impl_Rule_holds (r__0, (r__1, (r__2, (r__3, r__4)))) vals) (fun r => k (.c (.bool r)) []) := he
  refine ⟨rfl, rfl, ?_⟩
  refine And.intro (fun hb => ?_) (fun hb => ?_)
  · have he := ok_t he hb
    refine loop_model mixed tys_ok t_impl_Rule_holds (S := Int × Int) (I := (fun (sum, i) => (envOf [(2, .c (.ptr 10000000 0)), (5, .c (.int .i64 sum)), (14, .c (.imm (.int .i64) vals)), (15, .c (.int .i64 (vals.length:Int))), (16, .c (.int .i64 i))], [(10000000, .rc [.int .i64 (r__0, (r__1, (r__2, (r__3, r__4)))).1, .imm (.int .i64) (r__0, (r__1, (r__2, (r__3, r__4)))).2.1, .imm (.int .i64) (r__0, (r__1, (r__2, (r__3, r__4)))).2.2.1, .int .i64 (r__0, (r__1, (r__2, (r__3, r__4)))).2.2.2.1, .imm (.sl (.int .i64)) (r__0, (r__1, (r__2, (r__3, r__4)))).2.2.2.2])]))) (f := impl_Rule_holds_l1 (r__0, (r__1, (r__2, (r__3, r__4)))) vals) (K := (fun r => k (.c (.bool r)) [])) he (leads_ren [(10000000, 2)] (l := [(2, .c (.ptr 10000000 0)), (5, .c (.int .i64 (0:Int))), (14, .c (.imm (.int .i64) vals)), (15, .c (.int .i64 (vals.length:Int))), (16, .c (.int .i64 (0:Int)))]) (st' := [(10000000, .rc [.int .i64 (r__0, (r__1, (r__2, (r__3, r__4)))).1, .imm (.int .i64) (r__0, (r__1, (r__2, (r__3, r__4)))).2.1, .imm (.int .i64) (r__0, (r__1, (r__2, (r__3, r__4)))).2.2.1, .int .i64 (r__0, (r__1, (r__2, (r__3, r__4)))).2.2.2.1, .imm (.sl (.int .i64)) (r__0, (r__1, (r__2, (r__3, r__4)))).2.2.2.2])]) rfl rfl ⟨⟨rfl, .inl rfl, .inl rfl, rfl, .inl rfl, trivial⟩, trivial⟩ ⟨⟨⟨rfl, rfl⟩, rfl⟩, rfl, .inl rfl, rfl, rfl, trivial⟩) ?_
    rintro ⟨sum, i⟩ J1 he
    refine And.intro (fun hb => ?_) (fun hb => ?_)
    · have he := ok_t he hb
      have he := ok_rq he
      refine And.intro he.1 ?_
      have he := he.2
      have he := ok_rq he
      refine And.intro he.1 ?_
      have he := he.2
      have he := ok_rq he
      refine And.intro he.1 ?_
      have he := he.2
      have he := ok_rq he
      refine And.intro he.1 ?_
      have he := he.2
      have he := ok_rq he
      refine And.intro he.1 ?_
      have he := he.2
      have he := ok_some he
      exact ⟨((sum + (((r__0, (r__1, (r__2, (r__3, r__4)))).2.2.1.getD i.toNat 0) * (vals.getD i.toNat 0))), (i + (1:Int))), he, (leads_ren [] (l := [(2, .c (.ptr 10000000 0)), (5, .c (.int .i64 (sum + (((r__0, (r__1, (r__2, (r__3, r__4)))).2.2.1.getD i.toNat 0) * (vals.getD i.toNat 0))))), (14, .c (.imm (.int .i64) vals)), (15, .c (.int .i64 (vals.length:Int))), (16, .c (.int .i64 (i + (1:Int))))]) (st' := [(10000000, .rc [.int .i64 (r__0, (r__1, (r__2, (r__3, r__4)))).1, .imm (.int .i64) (r__0, (r__1, (r__2, (r__3, r__4)))).2.1, .imm (.int .i64) (r__0, (r__1, (r__2, (r__3, r__4)))).2.2.1, .int .i64 (r__0, (r__1, (r__2, (r__3, r__4)))).2.2.2.1, .imm (.sl (.int .i64)) (r__0, (r__1, (r__2, (r__3, r__4)))).2.2.2.2])]) rfl rfl ⟨⟨rfl, .inl rfl, .inl rfl, rfl, .inl rfl, trivial⟩, trivial⟩ ⟨⟨⟨rfl, rfl⟩, rfl⟩, rfl, .inl rfl, rfl, rfl, trivial⟩)⟩
    · have he := ok_f he hb
      have he := ok_some he
      exact ⟨rfl, _, _, (leads_ren [] (l := [(4, .c (.bool (decide ((r__0, (r__1, (r__2, (r__3, r__4)))).2.2.2.1 ≤ sum))))]) (st' := []) rfl rfl trivial ⟨.inl rfl, trivial⟩), he⟩
  · have he := ok_f he hb
    refine And.intro (fun hb => ?_) (fun hb => ?_)
    · have he := ok_t he hb
      refine loop_model mixed tys_ok t_impl_Rule_holds (S := Int) (I := (fun i1 => (envOf [(3, .c (.ptr 10001000 0)), (37, .c (.imm (.int .i64) vals)), (38, .c (.int .i64 (vals.length:Int))), (39, .c (.int .i64 i1))], [(10001000, .rc [.imm (.int .i64) vals])]))) (f := impl_Rule_holds_l2 vals) (K := (fun r => k (.c (.bool r)) [])) he (leads_ren [(10001000, 3)] (l := [(3, .c (.ptr 10001000 0)), (37, .c (.imm (.int .i64) vals)), (38, .c (.int .i64 (vals.length:Int))), (39, .c (.int .i64 (0:Int)))]) (st' := [(10001000, .rc [.imm (.int .i64) vals])]) rfl rfl ⟨⟨.inl rfl, trivial⟩, trivial⟩ ⟨⟨⟨rfl, rfl⟩, rfl⟩, .inl rfl, rfl, rfl, trivial⟩) ?_
      rintro i1 J1 he
      refine And.intro (fun hb => ?_) (fun hb => ?_)
      · have he := ok_t he hb
        have he := ok_rq he
        refine And.intro he.1 ?_
        have he := he.2
        have he := ok_rq he
        refine And.intro he.1 ?_
        have he := he.2
        obtain ⟨r1_, hr, he⟩ := ok_bind he
        refine ⟨r1_, hr, ?_⟩
        refine And.intro (fun hb => ?_) (fun hb => ?_)
        · have he := ok_t he hb
          have he := ok_some he
          exact ⟨rfl, _, _, (leads_ren [] (l := [(4, .c (.bool false))]) (st' := []) rfl rfl trivial ⟨.inr rfl, trivial⟩), he⟩
        · have he := ok_f he hb
          have he := ok_rq he
          refine And.intro he.1 ?_
          have he := he.2
          have he := ok_some he
          exact ⟨(i1 + (1:Int)), he, (leads_ren [] (l := [(3, .c (.ptr 10001000 0)), (37, .c (.imm (.int .i64) vals)), (38, .c (.int .i64 (vals.length:Int))), (39, .c (.int .i64 (i1 + (1:Int))))]) (st' := [(10001000, .rc [.imm (.int .i64) vals])]) rfl rfl ⟨⟨.inl rfl, trivial⟩, trivial⟩ ⟨⟨⟨rfl, rfl⟩, rfl⟩, .inl rfl, rfl, rfl, trivial⟩)⟩
      · have he := ok_f he hb
        have he := ok_some he
        exact ⟨rfl, _, _, (leads_ren [] (l := [(4, .c (.bool true))]) (st' := []) rfl rfl trivial ⟨.inr rfl, trivial⟩), he⟩
    · have he := ok_f he hb
      refine And.intro (fun hb => ?_) (fun hb => ?_)
      · have he := ok_t he hb
        obtain ⟨r2_, hr, he⟩ := ok_bind he
        refine ⟨r2_, hr, ?_⟩
        have he := ok_some he
        exact ⟨rfl, _, _, (leads_ren [] (l := [(4, .c (.bool r2_))]) (st' := []) rfl rfl trivial ⟨.inl rfl, trivial⟩), he⟩
      · have he := ok_f he hb
        refine And.intro (by kernel_rfl) ?_
        have he := ok_rq he
        refine And.intro he.1 ?_
        have he := he.2
        have he := ok_rq he
        refine And.intro he.1 ?_
        have he := he.2
        have he := ok_some he
        exact ⟨rfl, _, _, (leads_ren [] (l := [(4, .c (.bool (decide ((vals.getD (0:Int).toNat 0) < (vals.getD (1:Int).toNat 0)))))]) (st' := []) rfl rfl trivial ⟨.inl rfl, trivial⟩), he⟩

noncomputable def c_impl_Rule_at : Con := fun args st => match args, st with
  | [.agg [.int .i64 r__0, .imm (.int .i64) r__1, .imm (.int .i64) r__2, .int .i64 r__3, .imm (.sl (.int .i64)) r__4], .c (.imm (.int .i64) cells)], [] => .opt (Bool) (impl_Rule_at (r__0, (r__1, (r__2, (r__3, r__4)))) cells) (fun r => .ret (.c (.bool r)) [])
  | _, _ => .fail

noncomputable def C_impl_Rule_at : Cfg := { y := tys, n := 26, h := 0, tab := [(193, c_impl_Rule_holds)], cut := [7], hand := [], good := [], deep := [], sched := [] }

theorem t_impl_Rule_at : TabOk Try.prog C_impl_Rule_at := by
  refine tabOk_of ?_
  simp only [C_impl_Rule_at, List.forall_mem_cons]
  exact ⟨k_impl_Rule_holds, fun p h => by cases h⟩

theorem k_impl_Rule_at : Entry Try.prog 165 c_impl_Rule_at := by
  refine entry_by (C := C_impl_Rule_at) mixed tys_ok t_impl_Rule_at (fn := Try.f165) (c := bd Try.f165) (by kernel_rfl) (by kernel_rfl) (by kernel_rfl) (by kernel_rfl) ?_
  intro args st k he
  unfold c_impl_Rule_at at he
  split at he
  rotate_left
  · exact he.elim
  rename_i r__0 r__1 r__2 r__3 r__4 cells
  have he : Ok (impl_Rule_at (r__0, (r__1, (r__2, (r__3, r__4)))) cells) (fun r => k (.c (.bool r)) []) := he
  refine ⟨rfl, rfl, ?_⟩
  refine seq_model mixed tys_ok t_impl_Rule_at (S := (List Int)) (I := (fun vals1 => (envOf [(2, .c (.ptr 10001000 0)), (5, .c (.own 10001001 false))], [(10001000, .rc [.int .i64 (r__0, (r__1, (r__2, (r__3, r__4)))).1, .imm (.int .i64) (r__0, (r__1, (r__2, (r__3, r__4)))).2.1, .imm (.int .i64) (r__0, (r__1, (r__2, (r__3, r__4)))).2.2.1, .int .i64 (r__0, (r__1, (r__2, (r__3, r__4)))).2.2.2.1, .imm (.sl (.int .i64)) (r__0, (r__1, (r__2, (r__3, r__4)))).2.2.2.2]), (10001001, .sl 3 (.int .i64) vals1 .shallow)]))) (B := fun s => Ok (impl_Rule_at_j1 (r__0, (r__1, (r__2, (r__3, r__4)))) s) (fun r => k (.c (.bool r)) [])) ?_ ?_
  · rintro vals1 he
    obtain ⟨r1_, hr, he⟩ := ok_bind he
    refine ⟨r1_, hr, ?_⟩
    have he := ok_some he
    exact ⟨rfl, _, _, (leads_ren [] (l := [(4, .c (.bool r1_))]) (st' := []) rfl rfl trivial ⟨.inl rfl, trivial⟩), he⟩
  · skip
    refine loop_model mixed tys_ok t_impl_Rule_at (S := Int × (List Int)) (I := (fun (i, vals) => (envOf [(1, .c (.imm (.int .i64) cells)), (2, .c (.ptr 10000000 0)), (5, .c (.own 10000001 false)), (9, .c (.imm (.int .i64) (r__0, (r__1, (r__2, (r__3, r__4)))).2.1)), (10, .c (.int .i64 ((r__0, (r__1, (r__2, (r__3, r__4)))).2.1.length:Int))), (11, .c (.int .i64 i))], [(10000000, .rc [.int .i64 (r__0, (r__1, (r__2, (r__3, r__4)))).1, .imm (.int .i64) (r__0, (r__1, (r__2, (r__3, r__4)))).2.1, .imm (.int .i64) (r__0, (r__1, (r__2, (r__3, r__4)))).2.2.1, .int .i64 (r__0, (r__1, (r__2, (r__3, r__4)))).2.2.2.1, .imm (.sl (.int .i64)) (r__0, (r__1, (r__2, (r__3, r__4)))).2.2.2.2]), (10000001, .sl 3 (.int .i64) vals .shallow)]))) (f := impl_Rule_at_l1 (r__0, (r__1, (r__2, (r__3, r__4)))) cells) (K := (fun r => k (.c (.bool r)) [])) he (leads_ren [(10000000, 2)] (l := [(1, .c (.imm (.int .i64) cells)), (2, .c (.ptr 10000000 0)), (5, .c (.own 10000001 false)), (9, .c (.imm (.int .i64) (r__0, (r__1, (r__2, (r__3, r__4)))).2.1)), (10, .c (.int .i64 ((r__0, (r__1, (r__2, (r__3, r__4)))).2.1.length:Int))), (11, .c (.int .i64 (0:Int)))]) (st' := [(10000000, .rc [.int .i64 (r__0, (r__1, (r__2, (r__3, r__4)))).1, .imm (.int .i64) (r__0, (r__1, (r__2, (r__3, r__4)))).2.1, .imm (.int .i64) (r__0, (r__1, (r__2, (r__3, r__4)))).2.2.1, .int .i64 (r__0, (r__1, (r__2, (r__3, r__4)))).2.2.2.1, .imm (.sl (.int .i64)) (r__0, (r__1, (r__2, (r__3, r__4)))).2.2.2.2]), (10000001, .sl 3 (.int .i64) ([] : List Int) .shallow)]) rfl rfl ⟨⟨rfl, .inl rfl, .inl rfl, rfl, .inl rfl, trivial⟩, trivial, trivial⟩ ⟨.inl rfl, ⟨⟨rfl, rfl⟩, rfl⟩, ⟨rfl, trivial⟩, .inl rfl, rfl, rfl, trivial⟩) ?_
    rintro ⟨i, vals⟩ J1 he
    refine And.intro (fun hb => ?_) (fun hb => ?_)
    · have he := ok_t he hb
      have he := ok_rq he
      refine And.intro he.1 ?_
      have he := he.2
      have he := ok_rq he
      refine And.intro he.1 ?_
      have he := he.2
      have he := ok_rq he
      refine And.intro he.1 ?_
      have he := he.2
      have he := ok_rq he
      refine And.intro he.1 ?_
      have he := he.2
      have he := ok_some he
      exact ⟨((i + (1:Int)), (vals ++ [(cells.getD ((r__0, (r__1, (r__2, (r__3, r__4)))).2.1.getD i.toNat 0).toNat 0)])), he, (leads_ren [(10000001, 21)] (l := [(1, .c (.imm (.int .i64) cells)), (2, .c (.ptr 10000000 0)), (5, .c (.own 10000001 false)), (9, .c (.imm (.int .i64) (r__0, (r__1, (r__2, (r__3, r__4)))).2.1)), (10, .c (.int .i64 ((r__0, (r__1, (r__2, (r__3, r__4)))).2.1.length:Int))), (11, .c (.int .i64 (i + (1:Int))))]) (st' := [(10000000, .rc [.int .i64 (r__0, (r__1, (r__2, (r__3, r__4)))).1, .imm (.int .i64) (r__0, (r__1, (r__2, (r__3, r__4)))).2.1, .imm (.int .i64) (r__0, (r__1, (r__2, (r__3, r__4)))).2.2.1, .int .i64 (r__0, (r__1, (r__2, (r__3, r__4)))).2.2.2.1, .imm (.sl (.int .i64)) (r__0, (r__1, (r__2, (r__3, r__4)))).2.2.2.2]), (10000001, .sl 3 (.int .i64) (vals ++ [(cells.getD ((r__0, (r__1, (r__2, (r__3, r__4)))).2.1.getD i.toNat 0).toNat 0)]) .shallow)]) rfl rfl ⟨⟨rfl, .inl rfl, .inl rfl, rfl, .inl rfl, trivial⟩, ⟨rfl, rfl⟩, trivial⟩ ⟨.inl rfl, ⟨⟨rfl, rfl⟩, rfl⟩, ⟨⟨rfl, rfl⟩, trivial⟩, .inl rfl, rfl, rfl, trivial⟩)⟩
    · have he := ok_f he hb
      exact ⟨vals, ok_up he, (leads_ren [(10001000, 10000000), (10001001, 10000001)] (l := [(2, .c (.ptr 10001000 0)), (5, .c (.own 10001001 false))]) (st' := [(10001000, .rc [.int .i64 (r__0, (r__1, (r__2, (r__3, r__4)))).1, .imm (.int .i64) (r__0, (r__1, (r__2, (r__3, r__4)))).2.1, .imm (.int .i64) (r__0, (r__1, (r__2, (r__3, r__4)))).2.2.1, .int .i64 (r__0, (r__1, (r__2, (r__3, r__4)))).2.2.2.1, .imm (.sl (.int .i64)) (r__0, (r__1, (r__2, (r__3, r__4)))).2.2.2.2]), (10001001, .sl 3 (.int .i64) vals .shallow)]) rfl rfl ⟨⟨rfl, .inl rfl, .inl rfl, rfl, .inl rfl, trivial⟩, ⟨rfl, rfl⟩, trivial⟩ ⟨⟨⟨rfl, rfl⟩, rfl⟩, ⟨⟨rfl, rfl⟩, trivial⟩, trivial⟩)⟩

noncomputable def c_impl_Model_solves_1 : Con := fun args st => match args, st with
  | [.agg [.int .i64 r__0, .imm (.int .i64) r__1, .imm (.int .i64) r__2, .int .i64 r__3, .imm (.sl (.int .i64)) r__4], .c (.ptr 0 0)], [(0, .rc [.imm (.int .i64) o0])] => .opt (Bool) (impl_Model_solves_1 (r__0, (r__1, (r__2, (r__3, r__4)))) o0) (fun r => .ret (.c (.bool r)) [(0, .rc [.imm (.int .i64) o0])])
  | _, _ => .fail

noncomputable def C_impl_Model_solves_1 : Cfg := { y := tys, n := 8, h := 1, tab := [(165, c_impl_Rule_at)], cut := [], hand := [], good := [], deep := [], sched := [] }

theorem t_impl_Model_solves_1 : TabOk Try.prog C_impl_Model_solves_1 := by
  refine tabOk_of ?_
  simp only [C_impl_Model_solves_1, List.forall_mem_cons]
  exact ⟨k_impl_Rule_at, fun p h => by cases h⟩

theorem k_impl_Model_solves_1 : Entry Try.prog 164 c_impl_Model_solves_1 := by
  refine entry_by (C := C_impl_Model_solves_1) mixed tys_ok t_impl_Model_solves_1 (fn := Try.f164) (c := bd Try.f164) (by kernel_rfl) (by kernel_rfl) (by kernel_rfl) (by kernel_rfl) ?_
  intro args st k he
  unfold c_impl_Model_solves_1 at he
  split at he
  rotate_left
  · exact he.elim
  rename_i r__0 r__1 r__2 r__3 r__4 o0
  have he : Ok (impl_Model_solves_1 (r__0, (r__1, (r__2, (r__3, r__4)))) o0) (fun r => k (.c (.bool r)) [(0, .rc [.imm (.int .i64) o0])]) := he
  refine ⟨rfl, rfl, ?_⟩
  obtain ⟨r1_, hr, he⟩ := ok_bind he
  refine ⟨r1_, hr, ?_⟩
  have he := ok_some he
  exact ⟨rfl, _, _, (leads_ren [] (l := [(3, .c (.bool (!r1_)))]) (st' := [(0, .rc [.imm (.int .i64) o0])]) rfl rfl ⟨⟨.inl rfl, trivial⟩, trivial⟩ ⟨.inl rfl, trivial⟩), he⟩

noncomputable def c_slices_IndexFunc_impl_Rule__impl_Model_solves_1 : Con := fun args st => match args, st with
  | [.c (.imm (.pair (.int .i64) (.pair (.sl (.int .i64)) (.pair (.sl (.int .i64)) (.pair (.int .i64) (.sl (.sl (.int .i64))))))) s_), .c (.fn 164 [0])], [(0, .rc [.imm (.int .i64) o0])] => .opt (Int) (slices_IndexFunc_impl_Rule__impl_Model_solves_1 s_ o0) (fun r => .ret (.c (.int .i64 r)) [(0, .rc [.imm (.int .i64) o0])])
  | _, _ => .fail

noncomputable def C_slices_IndexFunc_impl_Rule__impl_Model_solves_1 : Cfg := { y := tys, n := 19, h := 1, tab := [(164, c_impl_Model_solves_1)], cut := [], hand := [], good := [], deep := [], sched := [] }

theorem t_slices_IndexFunc_impl_Rule__impl_Model_solves_1 : TabOk Try.prog C_slices_IndexFunc_impl_Rule__impl_Model_solves_1 := by
  refine tabOk_of ?_
  simp only [C_slices_IndexFunc_impl_Rule__impl_Model_solves_1, List.forall_mem_cons]
  exact ⟨k_impl_Model_solves_1, fun p h => by cases h⟩

theorem k_slices_IndexFunc_impl_Rule__impl_Model_solves_1 : Entry Try.prog 185 c_slices_IndexFunc_impl_Rule__impl_Model_solves_1 := by
  refine entry_by (C := C_slices_IndexFunc_impl_Rule__impl_Model_solves_1) mixed tys_ok t_slices_IndexFunc_impl_Rule__impl_Model_solves_1 (fn := Try.f185) (c := bd Try.f185) (by kernel_rfl) (by kernel_rfl) (by kernel_rfl) (by kernel_rfl) ?_
  intro args st k he
  unfold c_slices_IndexFunc_impl_Rule__impl_Model_solves_1 at he
  split at he
  rotate_left
  · exact he.elim
  rename_i s_ o0
  have he : Ok (slices_IndexFunc_impl_Rule__impl_Model_solves_1 s_ o0) (fun r => k (.c (.int .i64 r)) [(0, .rc [.imm (.int .i64) o0])]) := he
  refine ⟨rfl, rfl, ?_⟩
  refine loop_model mixed tys_ok t_slices_IndexFunc_impl_Rule__impl_Model_solves_1 (S := Int) (I := (fun i => (envOf [(0, .c (.imm (.pair (.int .i64) (.pair (.sl (.int .i64)) (.pair (.sl (.int .i64)) (.pair (.int .i64) (.sl (.sl (.int .i64))))))) s_)), (1, .c (.fn 164 [0])), (7, .c (.int .i64 (s_.length:Int))), (8, .c (.int .i64 i))], [(0, .rc [.imm (.int .i64) o0])]))) (f := slices_IndexFunc_impl_Rule__impl_Model_solves_1_l1 s_ o0) (K := (fun r => k (.c (.int .i64 r)) [(0, .rc [.imm (.int .i64) o0])])) he (leads_ren [] (l := [(0, .c (.imm (.pair (.int .i64) (.pair (.sl (.int .i64)) (.pair (.sl (.int .i64)) (.pair (.int .i64) (.sl (.sl (.int .i64))))))) s_)), (1, .c (.fn 164 [0])), (7, .c (.int .i64 (s_.length:Int))), (8, .c (.int .i64 (0:Int)))]) (st' := [(0, .rc [.imm (.int .i64) o0])]) rfl rfl ⟨⟨.inl rfl, trivial⟩, trivial⟩ ⟨.inl rfl, ⟨rfl, ⟨⟨rfl, rfl⟩, trivial⟩⟩, rfl, rfl, trivial⟩) ?_
  rintro i J1 he
  refine And.intro (fun hb => ?_) (fun hb => ?_)
  · have he := ok_t he hb
    have he := ok_rq he
    refine And.intro he.1 ?_
    have he := he.2
    obtain ⟨r1_, hr, he⟩ := ok_bind he
    refine ⟨r1_, hr, ?_⟩
    refine And.intro (fun hb => ?_) (fun hb => ?_)
    · have he := ok_t he hb
      have he := ok_some he
      exact ⟨rfl, _, _, (leads_ren [] (l := [(4, .c (.int .i64 i))]) (st' := [(0, .rc [.imm (.int .i64) o0])]) rfl rfl ⟨⟨.inl rfl, trivial⟩, trivial⟩ ⟨rfl, trivial⟩), he⟩
    · have he := ok_f he hb
      have he := ok_rq he
      refine And.intro he.1 ?_
      have he := he.2
      have he := ok_some he
      exact ⟨(i + (1:Int)), he, (leads_ren [] (l := [(0, .c (.imm (.pair (.int .i64) (.pair (.sl (.int .i64)) (.pair (.sl (.int .i64)) (.pair (.int .i64) (.sl (.sl (.int .i64))))))) s_)), (1, .c (.fn 164 [0])), (7, .c (.int .i64 (s_.length:Int))), (8, .c (.int .i64 (i + (1:Int))))]) (st' := [(0, .rc [.imm (.int .i64) o0])]) rfl rfl ⟨⟨.inl rfl, trivial⟩, trivial⟩ ⟨.inl rfl, ⟨rfl, ⟨⟨rfl, rfl⟩, trivial⟩⟩, rfl, rfl, trivial⟩)⟩
  · have he := ok_f he hb
    have he := ok_some he
    exact ⟨rfl, _, _, (leads_ren [] (l := [(4, .c (.int .i64 (-1:Int)))]) (st' := [(0, .rc [.imm (.int .i64) o0])]) rfl rfl ⟨⟨.inl rfl, trivial⟩, trivial⟩ ⟨rfl, trivial⟩), he⟩

noncomputable def c_slices_ContainsFunc_impl_Rule__impl_Model_solves_1 : Con := fun args st => match args, st with
  | [.c (.imm (.pair (.int .i64) (.pair (.sl (.int .i64)) (.pair (.sl (.int .i64)) (.pair (.int .i64) (.sl (.sl (.int .i64))))))) s_), .c (.fn 164 [0])], [(0, .rc [.imm (.int .i64) o0])] => .opt (Bool) (slices_ContainsFunc_impl_Rule__impl_Model_solves_1 s_ o0) (fun r => .ret (.c (.bool r)) [(0, .rc [.imm (.int .i64) o0])])
  | _, _ => .fail

noncomputable def C_slices_ContainsFunc_impl_Rule__impl_Model_solves_1 : Cfg := { y := tys, n := 9, h := 1, tab := [(185, c_slices_IndexFunc_impl_Rule__impl_Model_solves_1)], cut := [], hand := [], good := [], deep := [], sched := [] }

theorem t_slices_ContainsFunc_impl_Rule__impl_Model_solves_1 : TabOk Try.prog C_slices_ContainsFunc_impl_Rule__impl_Model_solves_1 := by
  refine tabOk_of ?_
  simp only [C_slices_ContainsFunc_impl_Rule__impl_Model_solves_1, List.forall_mem_cons]
  exact ⟨k_slices_IndexFunc_impl_Rule__impl_Model_solves_1, fun p h => by cases h⟩

theorem k_slices_ContainsFunc_impl_Rule__impl_Model_solves_1 : Entry Try.prog 156 c_slices_ContainsFunc_impl_Rule__impl_Model_solves_1 := by
  refine entry_by (C := C_slices_ContainsFunc_impl_Rule__impl_Model_solves_1) mixed tys_ok t_slices_ContainsFunc_impl_Rule__impl_Model_solves_1 (fn := Try.f156) (c := bd Try.f156) (by kernel_rfl) (by kernel_rfl) (by kernel_rfl) (by kernel_rfl) ?_
  intro args st k he
  unfold c_slices_ContainsFunc_impl_Rule__impl_Model_solves_1 at he
  split at he
  rotate_left
  · exact he.elim
  rename_i s_ o0
  have he : Ok (slices_ContainsFunc_impl_Rule__impl_Model_solves_1 s_ o0) (fun r => k (.c (.bool r)) [(0, .rc [.imm (.int .i64) o0])]) := he
  refine ⟨rfl, rfl, ?_⟩
  obtain ⟨r1_, hr, he⟩ := ok_bind he
  refine ⟨r1_, hr, ?_⟩
  have he := ok_some he
  exact ⟨rfl, _, _, (leads_ren [] (l := [(4, .c (.bool (decide ((0:Int) ≤ r1_))))]) (st' := [(0, .rc [.imm (.int .i64) o0])]) rfl rfl ⟨⟨.inl rfl, trivial⟩, trivial⟩ ⟨.inl rfl, trivial⟩), he⟩

noncomputable def c_impl_Model_solves : Con := fun args st => match args, st with
  | [.agg [.imm (.int .i64) m_0, .imm (.pair (.int .i64) (.pair (.sl (.int .i64)) (.pair (.sl (.int .i64)) (.pair (.int .i64) (.sl (.sl (.int .i64))))))) m_1], .c (.imm (.int .i64) cells)], [] => .opt (Bool) (impl_Model_solves (m_0, m_1) cells) (fun r => .ret (.c (.bool r)) [])
  | _, _ => .fail

noncomputable def C_impl_Model_solves : Cfg := { y := tys, n := 10, h := 0, tab := [(156, c_slices_ContainsFunc_impl_Rule__impl_Model_solves_1)], cut := [], hand := [], good := [], deep := [], sched := [] }

theorem t_impl_Model_solves : TabOk Try.prog C_impl_Model_solves := by
  refine tabOk_of ?_
  simp only [C_impl_Model_solves, List.forall_mem_cons]
  exact ⟨k_slices_ContainsFunc_impl_Rule__impl_Model_solves_1, fun p h => by cases h⟩

theorem k_impl_Model_solves : Entry Try.prog 117 c_impl_Model_solves := by
  refine entry_by (C := C_impl_Model_solves) mixed tys_ok t_impl_Model_solves (fn := Try.f117) (c := bd Try.f117) (by kernel_rfl) (by kernel_rfl) (by kernel_rfl) (by kernel_rfl) ?_
  intro args st k he
  unfold c_impl_Model_solves at he
  split at he
  rotate_left
  · exact he.elim
  rename_i m_0 m_1 cells
  have he : Ok (impl_Model_solves (m_0, m_1) cells) (fun r => k (.c (.bool r)) []) := he
  refine ⟨rfl, rfl, ?_⟩
  obtain ⟨r1_, hr, he⟩ := ok_bind he
  refine ⟨r1_, hr, ?_⟩
  have he := ok_some he
  exact ⟨rfl, _, _, (leads_ren [] (l := [(4, .c (.bool (!r1_)))]) (st' := []) rfl rfl trivial ⟨.inl rfl, trivial⟩), he⟩

noncomputable def c_impl_valueOf : Con := fun args st => match args, st with
  | [.c (.imm (.int .i64) coefs), .c (.imm (.int .i64) cells)], [] => .opt (Int) (impl_valueOf coefs cells) (fun r => .ret (.c (.int .i64 r)) [])
  | _, _ => .fail

noncomputable def C_impl_valueOf : Cfg := { y := tys, n := 25, h := 0, tab := [], cut := [], hand := [], good := [], deep := [], sched := [] }

theorem t_impl_valueOf : TabOk Try.prog C_impl_valueOf := tabOk_of (fun p h => by cases h)

theorem k_impl_valueOf : Entry Try.prog 118 c_impl_valueOf := by
  refine entry_by (C := C_impl_valueOf) mixed tys_ok t_impl_valueOf (fn := Try.f118) (c := bd Try.f118) (by kernel_rfl) (by kernel_rfl) (by kernel_rfl) (by kernel_rfl) ?_
  intro args st k he
  unfold c_impl_valueOf at he
  split at he
  rotate_left
  · exact he.elim
  rename_i coefs cells
  have he : Ok (impl_valueOf coefs cells) (fun r => k (.c (.int .i64 r)) []) := he
  refine ⟨rfl, rfl, ?_⟩
  refine loop_model mixed tys_ok t_impl_valueOf (S := Int × Int) (I := (fun (sum, i) => (envOf [(0, .c (.imm (.int .i64) coefs)), (5, .c (.int .i64 sum)), (8, .c (.imm (.int .i64) cells)), (9, .c (.int .i64 (cells.length:Int))), (10, .c (.int .i64 i))], []))) (f := impl_valueOf_l1 coefs cells) (K := (fun r => k (.c (.int .i64 r)) [])) he (leads_ren [] (l := [(0, .c (.imm (.int .i64) coefs)), (5, .c (.int .i64 (0:Int))), (8, .c (.imm (.int .i64) cells)), (9, .c (.int .i64 (cells.length:Int))), (10, .c (.int .i64 (0:Int)))]) (st' := []) rfl rfl trivial ⟨.inl rfl, rfl, .inl rfl, rfl, rfl, trivial⟩) ?_
  rintro ⟨sum, i⟩ J1 he
  refine And.intro (fun hb => ?_) (fun hb => ?_)
  · have he := ok_t he hb
    have he := ok_rq he
    refine And.intro he.1 ?_
    have he := he.2
    have he := ok_rq he
    refine And.intro he.1 ?_
    have he := he.2
    have he := ok_rq he
    refine And.intro he.1 ?_
    have he := he.2
    have he := ok_rq he
    refine And.intro he.1 ?_
    have he := he.2
    have he := ok_rq he
    refine And.intro he.1 ?_
    have he := he.2
    have he := ok_some he
    exact ⟨((sum + ((coefs.getD i.toNat 0) * (cells.getD i.toNat 0))), (i + (1:Int))), he, (leads_ren [] (l := [(0, .c (.imm (.int .i64) coefs)), (5, .c (.int .i64 (sum + ((coefs.getD i.toNat 0) * (cells.getD i.toNat 0))))), (8, .c (.imm (.int .i64) cells)), (9, .c (.int .i64 (cells.length:Int))), (10, .c (.int .i64 (i + (1:Int))))]) (st' := []) rfl rfl trivial ⟨.inl rfl, rfl, .inl rfl, rfl, rfl, trivial⟩)⟩
  · have he := ok_f he hb
    have he := ok_some he
    exact ⟨rfl, _, _, Leads.refl _ _, he⟩

noncomputable def c_impl_MinimizeModel_1__rRNrss : Con := fun args st => match args, st with
  | [.c (.own 3 false), .c (.ptr 0 0), .c (.ptr 1 0), .c (.ptr 2 0)], [(0, .rc [.imm (.int .i64) o0_0, .imm (.pair (.int .i64) (.pair (.sl (.int .i64)) (.pair (.sl (.int .i64)) (.pair (.int .i64) (.sl (.sl (.int .i64))))))) o0_1]), (1, .rc [.own 4 true]), (2, .rc [.imm (.int .i64) o2]), (3, .sl 3 (.int .i64) cells .shallow), (4, .sl 3 (.int .i64) o4 .shallow)] => .opt (Bool × (List Int)) (impl_MinimizeModel_1__rRNrss (o0_0, o0_1) o2 cells o4) (fun r => .ret (.c (.bool r.1)) [(0, .rc [.imm (.int .i64) o0_0, .imm (.pair (.int .i64) (.pair (.sl (.int .i64)) (.pair (.sl (.int .i64)) (.pair (.int .i64) (.sl (.sl (.int .i64))))))) o0_1]), (1, .rc [.own 900 true]), (2, .rc [.imm (.int .i64) o2]), (3, .sl 3 (.int .i64) cells .shallow), (4, .dead), (900, .sl 3 (.int .i64) r.2 .shallow)])
  | _, _ => .fail

noncomputable def C_impl_MinimizeModel_1__rRNrss : Cfg := { y := tys, n := 24, h := 5, tab := [(117, c_impl_Model_solves), (118, c_impl_valueOf), (119, c_slices_Clone_int)], cut := [], hand := [], good := [], deep := [], sched := [(1, (.first 1 (.alt 0 (.alt 2 (.first 3 (.alt 4 (.first 5 (.first 6 (.first 8 (.alt 7 (.alt 9 (.alt 10 (.alt 11 (.alt 12 (.first 13 (.first 14 (.first 15 .done))) .stop) .stop) (.alt 11 (.alt 10 (.alt 12 (.first 13 (.first 14 (.first 15 .done))) .stop) .stop) .stop)) (.alt 10 (.alt 9 (.alt 11 (.alt 12 (.first 13 (.first 14 (.first 15 .done))) .stop) .stop) (.alt 11 (.alt 9 (.alt 12 (.first 13 (.first 14 (.first 15 .done))) .stop) .stop) .stop)) (.alt 11 (.alt 9 (.alt 10 (.alt 12 (.first 13 (.first 14 (.first 15 .done))) .stop) .stop) (.alt 10 (.alt 9 (.alt 12 (.first 13 (.first 14 (.first 15 .done))) .stop) .stop) .stop)) .stop))) (.alt 10 (.alt 7 (.alt 9 (.alt 11 (.alt 12 (.first 13 (.first 14 (.first 15 .done))) .stop) .stop) (.alt 11 (.alt 9 (.alt 12 (.first 13 (.first 14 (.first 15 .done))) .stop) .stop) .stop)) (.alt 11 (.alt 7 (.alt 9 (.alt 12 (.first 13 (.first 14 (.first 15 .done))) .stop) .stop) .stop) .stop)) (.alt 11 (.alt 7 (.alt 9 (.alt 10 (.alt 12 (.first 13 (.first 14 (.first 15 .done))) .stop) .stop) (.alt 10 (.alt 9 (.alt 12 (.first 13 (.first 14 (.first 15 .done))) .stop) .stop) .stop)) (.alt 10 (.alt 7 (.alt 9 (.alt 12 (.first 13 (.first 14 (.first 15 .done))) .stop) .stop) .stop) .stop)) .stop)))))) .stop)) .stop) .stop)))] }

theorem t_impl_MinimizeModel_1__rRNrss : TabOk Try.prog C_impl_MinimizeModel_1__rRNrss := by
  refine tabOk_of ?_
  simp only [C_impl_MinimizeModel_1__rRNrss, List.forall_mem_cons]
  exact ⟨k_impl_Model_solves, k_impl_valueOf, k_slices_Clone_int, fun p h => by cases h⟩

theorem k_impl_MinimizeModel_1__rRNrss : Entry Try.prog 116 c_impl_MinimizeModel_1__rRNrss := by
  refine entry_by (C := C_impl_MinimizeModel_1__rRNrss) mixed tys_ok t_impl_MinimizeModel_1__rRNrss (fn := Try.f116) (c := bd Try.f116) (by kernel_rfl) (by kernel_rfl) (by kernel_rfl) (by kernel_rfl) ?_
  intro args st k he
  unfold c_impl_MinimizeModel_1__rRNrss at he
  split at he
  rotate_left
  · exact he.elim
  rename_i o0_0 o0_1 o2 cells o4
  have he : Ok (impl_MinimizeModel_1__rRNrss (o0_0, o0_1) o2 cells o4) (fun r => k (.c (.bool r.1)) [(0, .rc [.imm (.int .i64) o0_0, .imm (.pair (.int .i64) (.pair (.sl (.int .i64)) (.pair (.sl (.int .i64)) (.pair (.int .i64) (.sl (.sl (.int .i64))))))) o0_1]), (1, .rc [.own 900 true]), (2, .rc [.imm (.int .i64) o2]), (3, .sl 3 (.int .i64) cells .shallow), (4, .dead), (900, .sl 3 (.int .i64) r.2 .shallow)]) := he
  refine ⟨rfl, rfl, ?_⟩
  refine And.intro (by kernel_rfl) ?_
  refine And.intro ?_ trivial
  refine And.intro ?_ trivial
  obtain ⟨r4_, hr, he⟩ := ok_bind he
  refine ⟨r4_, hr, ?_⟩
  refine And.intro ?_ trivial
  refine And.intro (fun hb => ?_) (fun hb => ?_)
  · have he := ok_t he hb
    refine And.intro (fun hb => ?_) (fun hb => ?_)
    · have he := ok_f he hb
      obtain ⟨r5_, hq1, he⟩ := ok_bind he
      obtain ⟨r6_, hq2, he⟩ := ok_bind he
      refine And.intro ?_ (And.intro ?_ (And.intro ?_ (trivial)))
      · skip
        refine And.intro ?_ (And.intro ?_ (And.intro ?_ (trivial)))
        · skip
          refine ⟨r5_, hq1, ?_⟩
          refine And.intro ?_ (And.intro ?_ (trivial))
          · skip
            refine And.intro ?_ trivial
            refine And.intro ?_ trivial
            refine ⟨r6_, hq2, ?_⟩
            refine And.intro (fun hb => ?_) (fun hb => ?_)
            · have he := ok_t he hb
              obtain ⟨r7_, hr, he⟩ := ok_bind he
              refine ⟨r7_, hr, ?_⟩
              have he := ok_rq he
              have hne0 := he.1
              have he := he.2
              have he := ok_some he
              exact ⟨rfl, _, _, (leads_ren [(900, 24900)] (l := [(5, .c (.bool true))]) (st' := [(0, .rc [.imm (.int .i64) o0_0, .imm (.pair (.int .i64) (.pair (.sl (.int .i64)) (.pair (.sl (.int .i64)) (.pair (.int .i64) (.sl (.sl (.int .i64))))))) o0_1]), (1, .rc [.own 900 true]), (2, .rc [.imm (.int .i64) o2]), (3, .sl 3 (.int .i64) cells .shallow), (4, .dead), (900, .sl 3 (.int .i64) r7_ .shallow)]) rfl rfl ⟨⟨.inl rfl, .inl rfl, trivial⟩, ⟨⟨⟨rfl, rfl⟩, hne0⟩, trivial⟩, ⟨.inl rfl, trivial⟩, ⟨rfl, rfl⟩, trivial, ⟨rfl, rfl⟩, trivial⟩ ⟨.inr rfl, trivial⟩), he⟩
            · have he := ok_f he hb
              have he := ok_some he
              exact ⟨rfl, _, _, (leads_ren [(900, 4)] (l := [(5, .c (.bool true))]) (st' := [(0, .rc [.imm (.int .i64) o0_0, .imm (.pair (.int .i64) (.pair (.sl (.int .i64)) (.pair (.sl (.int .i64)) (.pair (.int .i64) (.sl (.sl (.int .i64))))))) o0_1]), (1, .rc [.own 900 true]), (2, .rc [.imm (.int .i64) o2]), (3, .sl 3 (.int .i64) cells .shallow), (4, .dead), (900, .sl 3 (.int .i64) o4 .shallow)]) rfl rfl ⟨⟨.inl rfl, .inl rfl, trivial⟩, ⟨⟨⟨rfl, rfl⟩, trivial⟩, trivial⟩, ⟨.inl rfl, trivial⟩, ⟨rfl, rfl⟩, trivial, ⟨rfl, rfl⟩, trivial⟩ ⟨.inr rfl, trivial⟩), he⟩
          · skip
            refine And.intro ?_ trivial
            refine And.intro ?_ trivial
            refine ⟨r6_, hq2, ?_⟩
            refine And.intro (fun hb => ?_) (fun hb => ?_)
            · have he := ok_t he hb
              obtain ⟨r8_, hr, he⟩ := ok_bind he
              refine ⟨r8_, hr, ?_⟩
              have he := ok_rq he
              have hne0 := he.1
              have he := he.2
              have he := ok_some he
              exact ⟨rfl, _, _, (leads_ren [(900, 24900)] (l := [(5, .c (.bool true))]) (st' := [(0, .rc [.imm (.int .i64) o0_0, .imm (.pair (.int .i64) (.pair (.sl (.int .i64)) (.pair (.sl (.int .i64)) (.pair (.int .i64) (.sl (.sl (.int .i64))))))) o0_1]), (1, .rc [.own 900 true]), (2, .rc [.imm (.int .i64) o2]), (3, .sl 3 (.int .i64) cells .shallow), (4, .dead), (900, .sl 3 (.int .i64) r8_ .shallow)]) rfl rfl ⟨⟨.inl rfl, .inl rfl, trivial⟩, ⟨⟨⟨rfl, rfl⟩, hne0⟩, trivial⟩, ⟨.inl rfl, trivial⟩, ⟨rfl, rfl⟩, trivial, ⟨rfl, rfl⟩, trivial⟩ ⟨.inr rfl, trivial⟩), he⟩
            · have he := ok_f he hb
              have he := ok_some he
              exact ⟨rfl, _, _, (leads_ren [(900, 4)] (l := [(5, .c (.bool true))]) (st' := [(0, .rc [.imm (.int .i64) o0_0, .imm (.pair (.int .i64) (.pair (.sl (.int .i64)) (.pair (.sl (.int .i64)) (.pair (.int .i64) (.sl (.sl (.int .i64))))))) o0_1]), (1, .rc [.own 900 true]), (2, .rc [.imm (.int .i64) o2]), (3, .sl 3 (.int .i64) cells .shallow), (4, .dead), (900, .sl 3 (.int .i64) o4 .shallow)]) rfl rfl ⟨⟨.inl rfl, .inl rfl, trivial⟩, ⟨⟨⟨rfl, rfl⟩, trivial⟩, trivial⟩, ⟨.inl rfl, trivial⟩, ⟨rfl, rfl⟩, trivial, ⟨rfl, rfl⟩, trivial⟩ ⟨.inr rfl, trivial⟩), he⟩
        · skip
          refine And.intro ?_ (And.intro ?_ (trivial))
          · skip
            refine ⟨r5_, hq1, ?_⟩
            refine And.intro ?_ trivial
            refine And.intro ?_ trivial
            refine ⟨r6_, hq2, ?_⟩
            refine And.intro (fun hb => ?_) (fun hb => ?_)
            · have he := ok_t he hb
              obtain ⟨r9_, hr, he⟩ := ok_bind he
              refine ⟨r9_, hr, ?_⟩
              have he := ok_rq he
              have hne0 := he.1
              have he := he.2
              have he := ok_some he
              exact ⟨rfl, _, _, (leads_ren [(900, 24900)] (l := [(5, .c (.bool true))]) (st' := [(0, .rc [.imm (.int .i64) o0_0, .imm (.pair (.int .i64) (.pair (.sl (.int .i64)) (.pair (.sl (.int .i64)) (.pair (.int .i64) (.sl (.sl (.int .i64))))))) o0_1]), (1, .rc [.own 900 true]), (2, .rc [.imm (.int .i64) o2]), (3, .sl 3 (.int .i64) cells .shallow), (4, .dead), (900, .sl 3 (.int .i64) r9_ .shallow)]) rfl rfl ⟨⟨.inl rfl, .inl rfl, trivial⟩, ⟨⟨⟨rfl, rfl⟩, hne0⟩, trivial⟩, ⟨.inl rfl, trivial⟩, ⟨rfl, rfl⟩, trivial, ⟨rfl, rfl⟩, trivial⟩ ⟨.inr rfl, trivial⟩), he⟩
            · have he := ok_f he hb
              have he := ok_some he
              exact ⟨rfl, _, _, (leads_ren [(900, 4)] (l := [(5, .c (.bool true))]) (st' := [(0, .rc [.imm (.int .i64) o0_0, .imm (.pair (.int .i64) (.pair (.sl (.int .i64)) (.pair (.sl (.int .i64)) (.pair (.int .i64) (.sl (.sl (.int .i64))))))) o0_1]), (1, .rc [.own 900 true]), (2, .rc [.imm (.int .i64) o2]), (3, .sl 3 (.int .i64) cells .shallow), (4, .dead), (900, .sl 3 (.int .i64) o4 .shallow)]) rfl rfl ⟨⟨.inl rfl, .inl rfl, trivial⟩, ⟨⟨⟨rfl, rfl⟩, trivial⟩, trivial⟩, ⟨.inl rfl, trivial⟩, ⟨rfl, rfl⟩, trivial, ⟨rfl, rfl⟩, trivial⟩ ⟨.inr rfl, trivial⟩), he⟩
          · skip
            refine And.intro ?_ trivial
            refine ⟨r5_, hq1, ?_⟩
            refine And.intro ?_ trivial
            refine ⟨r6_, hq2, ?_⟩
            refine And.intro (fun hb => ?_) (fun hb => ?_)
            · have he := ok_t he hb
              obtain ⟨r10_, hr, he⟩ := ok_bind he
              refine ⟨r10_, hr, ?_⟩
              have he := ok_rq he
              have hne0 := he.1
              have he := he.2
              have he := ok_some he
              exact ⟨rfl, _, _, (leads_ren [(900, 24900)] (l := [(5, .c (.bool true))]) (st' := [(0, .rc [.imm (.int .i64) o0_0, .imm (.pair (.int .i64) (.pair (.sl (.int .i64)) (.pair (.sl (.int .i64)) (.pair (.int .i64) (.sl (.sl (.int .i64))))))) o0_1]), (1, .rc [.own 900 true]), (2, .rc [.imm (.int .i64) o2]), (3, .sl 3 (.int .i64) cells .shallow), (4, .dead), (900, .sl 3 (.int .i64) r10_ .shallow)]) rfl rfl ⟨⟨.inl rfl, .inl rfl, trivial⟩, ⟨⟨⟨rfl, rfl⟩, hne0⟩, trivial⟩, ⟨.inl rfl, trivial⟩, ⟨rfl, rfl⟩, trivial, ⟨rfl, rfl⟩, trivial⟩ ⟨.inr rfl, trivial⟩), he⟩
            · have he := ok_f he hb
              have he := ok_some he
              exact ⟨rfl, _, _, (leads_ren [(900, 4)] (l := [(5, .c (.bool true))]) (st' := [(0, .rc [.imm (.int .i64) o0_0, .imm (.pair (.int .i64) (.pair (.sl (.int .i64)) (.pair (.sl (.int .i64)) (.pair (.int .i64) (.sl (.sl (.int .i64))))))) o0_1]), (1, .rc [.own 900 true]), (2, .rc [.imm (.int .i64) o2]), (3, .sl 3 (.int .i64) cells .shallow), (4, .dead), (900, .sl 3 (.int .i64) o4 .shallow)]) rfl rfl ⟨⟨.inl rfl, .inl rfl, trivial⟩, ⟨⟨⟨rfl, rfl⟩, trivial⟩, trivial⟩, ⟨.inl rfl, trivial⟩, ⟨rfl, rfl⟩, trivial, ⟨rfl, rfl⟩, trivial⟩ ⟨.inr rfl, trivial⟩), he⟩
        · skip
          refine And.intro ?_ (And.intro ?_ (trivial))
          · skip
            refine ⟨r5_, hq1, ?_⟩
            refine And.intro ?_ trivial
            refine And.intro ?_ trivial
            refine ⟨r6_, hq2, ?_⟩
            refine And.intro (fun hb => ?_) (fun hb => ?_)
            · have he := ok_t he hb
              obtain ⟨r11_, hr, he⟩ := ok_bind he
              refine ⟨r11_, hr, ?_⟩
              have he := ok_rq he
              have hne0 := he.1
              have he := he.2
              have he := ok_some he
              exact ⟨rfl, _, _, (leads_ren [(900, 24900)] (l := [(5, .c (.bool true))]) (st' := [(0, .rc [.imm (.int .i64) o0_0, .imm (.pair (.int .i64) (.pair (.sl (.int .i64)) (.pair (.sl (.int .i64)) (.pair (.int .i64) (.sl (.sl (.int .i64))))))) o0_1]), (1, .rc [.own 900 true]), (2, .rc [.imm (.int .i64) o2]), (3, .sl 3 (.int .i64) cells .shallow), (4, .dead), (900, .sl 3 (.int .i64) r11_ .shallow)]) rfl rfl ⟨⟨.inl rfl, .inl rfl, trivial⟩, ⟨⟨⟨rfl, rfl⟩, hne0⟩, trivial⟩, ⟨.inl rfl, trivial⟩, ⟨rfl, rfl⟩, trivial, ⟨rfl, rfl⟩, trivial⟩ ⟨.inr rfl, trivial⟩), he⟩
            · have he := ok_f he hb
              have he := ok_some he
              exact ⟨rfl, _, _, (leads_ren [(900, 4)] (l := [(5, .c (.bool true))]) (st' := [(0, .rc [.imm (.int .i64) o0_0, .imm (.pair (.int .i64) (.pair (.sl (.int .i64)) (.pair (.sl (.int .i64)) (.pair (.int .i64) (.sl (.sl (.int .i64))))))) o0_1]), (1, .rc [.own 900 true]), (2, .rc [.imm (.int .i64) o2]), (3, .sl 3 (.int .i64) cells .shallow), (4, .dead), (900, .sl 3 (.int .i64) o4 .shallow)]) rfl rfl ⟨⟨.inl rfl, .inl rfl, trivial⟩, ⟨⟨⟨rfl, rfl⟩, trivial⟩, trivial⟩, ⟨.inl rfl, trivial⟩, ⟨rfl, rfl⟩, trivial, ⟨rfl, rfl⟩, trivial⟩ ⟨.inr rfl, trivial⟩), he⟩
          · skip
            refine And.intro ?_ trivial
            refine ⟨r5_, hq1, ?_⟩
            refine And.intro ?_ trivial
            refine ⟨r6_, hq2, ?_⟩
            refine And.intro (fun hb => ?_) (fun hb => ?_)
            · have he := ok_t he hb
              obtain ⟨r12_, hr, he⟩ := ok_bind he
              refine ⟨r12_, hr, ?_⟩
              have he := ok_rq he
              have hne0 := he.1
              have he := he.2
              have he := ok_some he
              exact ⟨rfl, _, _, (leads_ren [(900, 24900)] (l := [(5, .c (.bool true))]) (st' := [(0, .rc [.imm (.int .i64) o0_0, .imm (.pair (.int .i64) (.pair (.sl (.int .i64)) (.pair (.sl (.int .i64)) (.pair (.int .i64) (.sl (.sl (.int .i64))))))) o0_1]), (1, .rc [.own 900 true]), (2, .rc [.imm (.int .i64) o2]), (3, .sl 3 (.int .i64) cells .shallow), (4, .dead), (900, .sl 3 (.int .i64) r12_ .shallow)]) rfl rfl ⟨⟨.inl rfl, .inl rfl, trivial⟩, ⟨⟨⟨rfl, rfl⟩, hne0⟩, trivial⟩, ⟨.inl rfl, trivial⟩, ⟨rfl, rfl⟩, trivial, ⟨rfl, rfl⟩, trivial⟩ ⟨.inr rfl, trivial⟩), he⟩
            · have he := ok_f he hb
              have he := ok_some he
              exact ⟨rfl, _, _, (leads_ren [(900, 4)] (l := [(5, .c (.bool true))]) (st' := [(0, .rc [.imm (.int .i64) o0_0, .imm (.pair (.int .i64) (.pair (.sl (.int .i64)) (.pair (.sl (.int .i64)) (.pair (.int .i64) (.sl (.sl (.int .i64))))))) o0_1]), (1, .rc [.own 900 true]), (2, .rc [.imm (.int .i64) o2]), (3, .sl 3 (.int .i64) cells .shallow), (4, .dead), (900, .sl 3 (.int .i64) o4 .shallow)]) rfl rfl ⟨⟨.inl rfl, .inl rfl, trivial⟩, ⟨⟨⟨rfl, rfl⟩, trivial⟩, trivial⟩, ⟨.inl rfl, trivial⟩, ⟨rfl, rfl⟩, trivial, ⟨rfl, rfl⟩, trivial⟩ ⟨.inr rfl, trivial⟩), he⟩
      · skip
        refine And.intro ?_ (And.intro ?_ (trivial))
        · skip
          refine And.intro ?_ (And.intro ?_ (trivial))
          · skip
            refine ⟨r5_, hq1, ?_⟩
            refine And.intro ?_ trivial
            refine And.intro ?_ trivial
            refine ⟨r6_, hq2, ?_⟩
            refine And.intro (fun hb => ?_) (fun hb => ?_)
            · have he := ok_t he hb
              obtain ⟨r13_, hr, he⟩ := ok_bind he
              refine ⟨r13_, hr, ?_⟩
              have he := ok_rq he
              have hne0 := he.1
              have he := he.2
              have he := ok_some he
              exact ⟨rfl, _, _, (leads_ren [(900, 24900)] (l := [(5, .c (.bool true))]) (st' := [(0, .rc [.imm (.int .i64) o0_0, .imm (.pair (.int .i64) (.pair (.sl (.int .i64)) (.pair (.sl (.int .i64)) (.pair (.int .i64) (.sl (.sl (.int .i64))))))) o0_1]), (1, .rc [.own 900 true]), (2, .rc [.imm (.int .i64) o2]), (3, .sl 3 (.int .i64) cells .shallow), (4, .dead), (900, .sl 3 (.int .i64) r13_ .shallow)]) rfl rfl ⟨⟨.inl rfl, .inl rfl, trivial⟩, ⟨⟨⟨rfl, rfl⟩, hne0⟩, trivial⟩, ⟨.inl rfl, trivial⟩, ⟨rfl, rfl⟩, trivial, ⟨rfl, rfl⟩, trivial⟩ ⟨.inr rfl, trivial⟩), he⟩
            · have he := ok_f he hb
              have he := ok_some he
              exact ⟨rfl, _, _, (leads_ren [(900, 4)] (l := [(5, .c (.bool true))]) (st' := [(0, .rc [.imm (.int .i64) o0_0, .imm (.pair (.int .i64) (.pair (.sl (.int .i64)) (.pair (.sl (.int .i64)) (.pair (.int .i64) (.sl (.sl (.int .i64))))))) o0_1]), (1, .rc [.own 900 true]), (2, .rc [.imm (.int .i64) o2]), (3, .sl 3 (.int .i64) cells .shallow), (4, .dead), (900, .sl 3 (.int .i64) o4 .shallow)]) rfl rfl ⟨⟨.inl rfl, .inl rfl, trivial⟩, ⟨⟨⟨rfl, rfl⟩, trivial⟩, trivial⟩, ⟨.inl rfl, trivial⟩, ⟨rfl, rfl⟩, trivial, ⟨rfl, rfl⟩, trivial⟩ ⟨.inr rfl, trivial⟩), he⟩
          · skip
            refine And.intro ?_ trivial
            refine ⟨r5_, hq1, ?_⟩
            refine And.intro ?_ trivial
            refine ⟨r6_, hq2, ?_⟩
            refine And.intro (fun hb => ?_) (fun hb => ?_)
            · have he := ok_t he hb
              obtain ⟨r14_, hr, he⟩ := ok_bind he
              refine ⟨r14_, hr, ?_⟩
              have he := ok_rq he
              have hne0 := he.1
              have he := he.2
              have he := ok_some he
              exact ⟨rfl, _, _, (leads_ren [(900, 24900)] (l := [(5, .c (.bool true))]) (st' := [(0, .rc [.imm (.int .i64) o0_0, .imm (.pair (.int .i64) (.pair (.sl (.int .i64)) (.pair (.sl (.int .i64)) (.pair (.int .i64) (.sl (.sl (.int .i64))))))) o0_1]), (1, .rc [.own 900 true]), (2, .rc [.imm (.int .i64) o2]), (3, .sl 3 (.int .i64) cells .shallow), (4, .dead), (900, .sl 3 (.int .i64) r14_ .shallow)]) rfl rfl ⟨⟨.inl rfl, .inl rfl, trivial⟩, ⟨⟨⟨rfl, rfl⟩, hne0⟩, trivial⟩, ⟨.inl rfl, trivial⟩, ⟨rfl, rfl⟩, trivial, ⟨rfl, rfl⟩, trivial⟩ ⟨.inr rfl, trivial⟩), he⟩
            · have he := ok_f he hb
              have he := ok_some he
              exact ⟨rfl, _, _, (leads_ren [(900, 4)] (l := [(5, .c (.bool true))]) (st' := [(0, .rc [.imm (.int .i64) o0_0, .imm (.pair (.int .i64) (.pair (.sl (.int .i64)) (.pair (.sl (.int .i64)) (.pair (.int .i64) (.sl (.sl (.int .i64))))))) o0_1]), (1, .rc [.own 900 true]), (2, .rc [.imm (.int .i64) o2]), (3, .sl 3 (.int .i64) cells .shallow), (4, .dead), (900, .sl 3 (.int .i64) o4 .shallow)]) rfl rfl ⟨⟨.inl rfl, .inl rfl, trivial⟩, ⟨⟨⟨rfl, rfl⟩, trivial⟩, trivial⟩, ⟨.inl rfl, trivial⟩, ⟨rfl, rfl⟩, trivial, ⟨rfl, rfl⟩, trivial⟩ ⟨.inr rfl, trivial⟩), he⟩
        · skip
          refine And.intro ?_ trivial
          refine And.intro ?_ trivial
          refine ⟨r5_, hq1, ?_⟩
          refine And.intro ?_ trivial
          refine ⟨r6_, hq2, ?_⟩
          refine And.intro (fun hb => ?_) (fun hb => ?_)
          · have he := ok_t he hb
            obtain ⟨r15_, hr, he⟩ := ok_bind he
            refine ⟨r15_, hr, ?_⟩
            have he := ok_rq he
            have hne0 := he.1
            have he := he.2
            have he := ok_some he
            exact ⟨rfl, _, _, (leads_ren [(900, 24900)] (l := [(5, .c (.bool true))]) (st' := [(0, .rc [.imm (.int .i64) o0_0, .imm (.pair (.int .i64) (.pair (.sl (.int .i64)) (.pair (.sl (.int .i64)) (.pair (.int .i64) (.sl (.sl (.int .i64))))))) o0_1]), (1, .rc [.own 900 true]), (2, .rc [.imm (.int .i64) o2]), (3, .sl 3 (.int .i64) cells .shallow), (4, .dead), (900, .sl 3 (.int .i64) r15_ .shallow)]) rfl rfl ⟨⟨.inl rfl, .inl rfl, trivial⟩, ⟨⟨⟨rfl, rfl⟩, hne0⟩, trivial⟩, ⟨.inl rfl, trivial⟩, ⟨rfl, rfl⟩, trivial, ⟨rfl, rfl⟩, trivial⟩ ⟨.inr rfl, trivial⟩), he⟩
          · have he := ok_f he hb
            have he := ok_some he
            exact ⟨rfl, _, _, (leads_ren [(900, 4)] (l := [(5, .c (.bool true))]) (st' := [(0, .rc [.imm (.int .i64) o0_0, .imm (.pair (.int .i64) (.pair (.sl (.int .i64)) (.pair (.sl (.int .i64)) (.pair (.int .i64) (.sl (.sl (.int .i64))))))) o0_1]), (1, .rc [.own 900 true]), (2, .rc [.imm (.int .i64) o2]), (3, .sl 3 (.int .i64) cells .shallow), (4, .dead), (900, .sl 3 (.int .i64) o4 .shallow)]) rfl rfl ⟨⟨.inl rfl, .inl rfl, trivial⟩, ⟨⟨⟨rfl, rfl⟩, trivial⟩, trivial⟩, ⟨.inl rfl, trivial⟩, ⟨rfl, rfl⟩, trivial, ⟨rfl, rfl⟩, trivial⟩ ⟨.inr rfl, trivial⟩), he⟩
      · skip
        refine And.intro ?_ (And.intro ?_ (trivial))
        · skip
          refine And.intro ?_ (And.intro ?_ (trivial))
          · skip
            refine ⟨r5_, hq1, ?_⟩
            refine And.intro ?_ trivial
            refine And.intro ?_ trivial
            refine ⟨r6_, hq2, ?_⟩
            refine And.intro (fun hb => ?_) (fun hb => ?_)
            · have he := ok_t he hb
              obtain ⟨r16_, hr, he⟩ := ok_bind he
              refine ⟨r16_, hr, ?_⟩
              have he := ok_rq he
              have hne0 := he.1
              have he := he.2
              have he := ok_some he
              exact ⟨rfl, _, _, (leads_ren [(900, 24900)] (l := [(5, .c (.bool true))]) (st' := [(0, .rc [.imm (.int .i64) o0_0, .imm (.pair (.int .i64) (.pair (.sl (.int .i64)) (.pair (.sl (.int .i64)) (.pair (.int .i64) (.sl (.sl (.int .i64))))))) o0_1]), (1, .rc [.own 900 true]), (2, .rc [.imm (.int .i64) o2]), (3, .sl 3 (.int .i64) cells .shallow), (4, .dead), (900, .sl 3 (.int .i64) r16_ .shallow)]) rfl rfl ⟨⟨.inl rfl, .inl rfl, trivial⟩, ⟨⟨⟨rfl, rfl⟩, hne0⟩, trivial⟩, ⟨.inl rfl, trivial⟩, ⟨rfl, rfl⟩, trivial, ⟨rfl, rfl⟩, trivial⟩ ⟨.inr rfl, trivial⟩), he⟩
            · have he := ok_f he hb
              have he := ok_some he
              exact ⟨rfl, _, _, (leads_ren [(900, 4)] (l := [(5, .c (.bool true))]) (st' := [(0, .rc [.imm (.int .i64) o0_0, .imm (.pair (.int .i64) (.pair (.sl (.int .i64)) (.pair (.sl (.int .i64)) (.pair (.int .i64) (.sl (.sl (.int .i64))))))) o0_1]), (1, .rc [.own 900 true]), (2, .rc [.imm (.int .i64) o2]), (3, .sl 3 (.int .i64) cells .shallow), (4, .dead), (900, .sl 3 (.int .i64) o4 .shallow)]) rfl rfl ⟨⟨.inl rfl, .inl rfl, trivial⟩, ⟨⟨⟨rfl, rfl⟩, trivial⟩, trivial⟩, ⟨.inl rfl, trivial⟩, ⟨rfl, rfl⟩, trivial, ⟨rfl, rfl⟩, trivial⟩ ⟨.inr rfl, trivial⟩), he⟩
          · skip
            refine And.intro ?_ trivial
            refine ⟨r5_, hq1, ?_⟩
            refine And.intro ?_ trivial
            refine ⟨r6_, hq2, ?_⟩
            refine And.intro (fun hb => ?_) (fun hb => ?_)
            · have he := ok_t he hb
              obtain ⟨r17_, hr, he⟩ := ok_bind he
              refine ⟨r17_, hr, ?_⟩
              have he := ok_rq he
              have hne0 := he.1
              have he := he.2
              have he := ok_some he
              exact ⟨rfl, _, _, (leads_ren [(900, 24900)] (l := [(5, .c (.bool true))]) (st' := [(0, .rc [.imm (.int .i64) o0_0, .imm (.pair (.int .i64) (.pair (.sl (.int .i64)) (.pair (.sl (.int .i64)) (.pair (.int .i64) (.sl (.sl (.int .i64))))))) o0_1]), (1, .rc [.own 900 true]), (2, .rc [.imm (.int .i64) o2]), (3, .sl 3 (.int .i64) cells .shallow), (4, .dead), (900, .sl 3 (.int .i64) r17_ .shallow)]) rfl rfl ⟨⟨.inl rfl, .inl rfl, trivial⟩, ⟨⟨⟨rfl, rfl⟩, hne0⟩, trivial⟩, ⟨.inl rfl, trivial⟩, ⟨rfl, rfl⟩, trivial, ⟨rfl, rfl⟩, trivial⟩ ⟨.inr rfl, trivial⟩), he⟩
            · have he := ok_f he hb
              have he := ok_some he
              exact ⟨rfl, _, _, (leads_ren [(900, 4)] (l := [(5, .c (.bool true))]) (st' := [(0, .rc [.imm (.int .i64) o0_0, .imm (.pair (.int .i64) (.pair (.sl (.int .i64)) (.pair (.sl (.int .i64)) (.pair (.int .i64) (.sl (.sl (.int .i64))))))) o0_1]), (1, .rc [.own 900 true]), (2, .rc [.imm (.int .i64) o2]), (3, .sl 3 (.int .i64) cells .shallow), (4, .dead), (900, .sl 3 (.int .i64) o4 .shallow)]) rfl rfl ⟨⟨.inl rfl, .inl rfl, trivial⟩, ⟨⟨⟨rfl, rfl⟩, trivial⟩, trivial⟩, ⟨.inl rfl, trivial⟩, ⟨rfl, rfl⟩, trivial, ⟨rfl, rfl⟩, trivial⟩ ⟨.inr rfl, trivial⟩), he⟩
        · skip
          refine And.intro ?_ trivial
          refine And.intro ?_ trivial
          refine ⟨r5_, hq1, ?_⟩
          refine And.intro ?_ trivial
          refine ⟨r6_, hq2, ?_⟩
          refine And.intro (fun hb => ?_) (fun hb => ?_)
          · have he := ok_t he hb
            obtain ⟨r18_, hr, he⟩ := ok_bind he
            refine ⟨r18_, hr, ?_⟩
            have he := ok_rq he
            have hne0 := he.1
            have he := he.2
            have he := ok_some he
            exact ⟨rfl, _, _, (leads_ren [(900, 24900)] (l := [(5, .c (.bool true))]) (st' := [(0, .rc [.imm (.int .i64) o0_0, .imm (.pair (.int .i64) (.pair (.sl (.int .i64)) (.pair (.sl (.int .i64)) (.pair (.int .i64) (.sl (.sl (.int .i64))))))) o0_1]), (1, .rc [.own 900 true]), (2, .rc [.imm (.int .i64) o2]), (3, .sl 3 (.int .i64) cells .shallow), (4, .dead), (900, .sl 3 (.int .i64) r18_ .shallow)]) rfl rfl ⟨⟨.inl rfl, .inl rfl, trivial⟩, ⟨⟨⟨rfl, rfl⟩, hne0⟩, trivial⟩, ⟨.inl rfl, trivial⟩, ⟨rfl, rfl⟩, trivial, ⟨rfl, rfl⟩, trivial⟩ ⟨.inr rfl, trivial⟩), he⟩
          · have he := ok_f he hb
            have he := ok_some he
            exact ⟨rfl, _, _, (leads_ren [(900, 4)] (l := [(5, .c (.bool true))]) (st' := [(0, .rc [.imm (.int .i64) o0_0, .imm (.pair (.int .i64) (.pair (.sl (.int .i64)) (.pair (.sl (.int .i64)) (.pair (.int .i64) (.sl (.sl (.int .i64))))))) o0_1]), (1, .rc [.own 900 true]), (2, .rc [.imm (.int .i64) o2]), (3, .sl 3 (.int .i64) cells .shallow), (4, .dead), (900, .sl 3 (.int .i64) o4 .shallow)]) rfl rfl ⟨⟨.inl rfl, .inl rfl, trivial⟩, ⟨⟨⟨rfl, rfl⟩, trivial⟩, trivial⟩, ⟨.inl rfl, trivial⟩, ⟨rfl, rfl⟩, trivial, ⟨rfl, rfl⟩, trivial⟩ ⟨.inr rfl, trivial⟩), he⟩
    · have he := ok_t he hb
      refine And.intro ?_ (And.intro ?_ (And.intro ?_ (trivial)))
      · skip
        refine And.intro ?_ (And.intro ?_ (And.intro ?_ (trivial)))
        · skip
          refine And.intro ?_ (And.intro ?_ (trivial))
          · skip
            refine And.intro ?_ trivial
            refine And.intro ?_ trivial
            obtain ⟨r19_, hr, he⟩ := ok_bind he
            refine ⟨r19_, hr, ?_⟩
            have he := ok_rq he
            have hne0 := he.1
            have he := he.2
            have he := ok_some he
            exact ⟨rfl, _, _, (leads_ren [(900, 24900)] (l := [(5, .c (.bool true))]) (st' := [(0, .rc [.imm (.int .i64) o0_0, .imm (.pair (.int .i64) (.pair (.sl (.int .i64)) (.pair (.sl (.int .i64)) (.pair (.int .i64) (.sl (.sl (.int .i64))))))) o0_1]), (1, .rc [.own 900 true]), (2, .rc [.imm (.int .i64) o2]), (3, .sl 3 (.int .i64) cells .shallow), (4, .dead), (900, .sl 3 (.int .i64) r19_ .shallow)]) rfl rfl ⟨⟨.inl rfl, .inl rfl, trivial⟩, ⟨⟨⟨rfl, rfl⟩, hne0⟩, trivial⟩, ⟨.inl rfl, trivial⟩, ⟨rfl, rfl⟩, trivial, ⟨rfl, rfl⟩, trivial⟩ ⟨.inr rfl, trivial⟩), he⟩
          · skip
            refine And.intro ?_ trivial
            refine And.intro ?_ trivial
            obtain ⟨r20_, hr, he⟩ := ok_bind he
            refine ⟨r20_, hr, ?_⟩
            have he := ok_rq he
            have hne0 := he.1
            have he := he.2
            have he := ok_some he
            exact ⟨rfl, _, _, (leads_ren [(900, 24900)] (l := [(5, .c (.bool true))]) (st' := [(0, .rc [.imm (.int .i64) o0_0, .imm (.pair (.int .i64) (.pair (.sl (.int .i64)) (.pair (.sl (.int .i64)) (.pair (.int .i64) (.sl (.sl (.int .i64))))))) o0_1]), (1, .rc [.own 900 true]), (2, .rc [.imm (.int .i64) o2]), (3, .sl 3 (.int .i64) cells .shallow), (4, .dead), (900, .sl 3 (.int .i64) r20_ .shallow)]) rfl rfl ⟨⟨.inl rfl, .inl rfl, trivial⟩, ⟨⟨⟨rfl, rfl⟩, hne0⟩, trivial⟩, ⟨.inl rfl, trivial⟩, ⟨rfl, rfl⟩, trivial, ⟨rfl, rfl⟩, trivial⟩ ⟨.inr rfl, trivial⟩), he⟩
        · skip
          refine And.intro ?_ (And.intro ?_ (trivial))
          · skip
            refine And.intro ?_ trivial
            refine And.intro ?_ trivial
            obtain ⟨r21_, hr, he⟩ := ok_bind he
            refine ⟨r21_, hr, ?_⟩
            have he := ok_rq he
            have hne0 := he.1
            have he := he.2
            have he := ok_some he
            exact ⟨rfl, _, _, (leads_ren [(900, 24900)] (l := [(5, .c (.bool true))]) (st' := [(0, .rc [.imm (.int .i64) o0_0, .imm (.pair (.int .i64) (.pair (.sl (.int .i64)) (.pair (.sl (.int .i64)) (.pair (.int .i64) (.sl (.sl (.int .i64))))))) o0_1]), (1, .rc [.own 900 true]), (2, .rc [.imm (.int .i64) o2]), (3, .sl 3 (.int .i64) cells .shallow), (4, .dead), (900, .sl 3 (.int .i64) r21_ .shallow)]) rfl rfl ⟨⟨.inl rfl, .inl rfl, trivial⟩, ⟨⟨⟨rfl, rfl⟩, hne0⟩, trivial⟩, ⟨.inl rfl, trivial⟩, ⟨rfl, rfl⟩, trivial, ⟨rfl, rfl⟩, trivial⟩ ⟨.inr rfl, trivial⟩), he⟩
          · skip
            refine And.intro ?_ trivial
            refine And.intro ?_ trivial
            obtain ⟨r22_, hr, he⟩ := ok_bind he
            refine ⟨r22_, hr, ?_⟩
            have he := ok_rq he
            have hne0 := he.1
            have he := he.2
            have he := ok_some he
            exact ⟨rfl, _, _, (leads_ren [(900, 24900)] (l := [(5, .c (.bool true))]) (st' := [(0, .rc [.imm (.int .i64) o0_0, .imm (.pair (.int .i64) (.pair (.sl (.int .i64)) (.pair (.sl (.int .i64)) (.pair (.int .i64) (.sl (.sl (.int .i64))))))) o0_1]), (1, .rc [.own 900 true]), (2, .rc [.imm (.int .i64) o2]), (3, .sl 3 (.int .i64) cells .shallow), (4, .dead), (900, .sl 3 (.int .i64) r22_ .shallow)]) rfl rfl ⟨⟨.inl rfl, .inl rfl, trivial⟩, ⟨⟨⟨rfl, rfl⟩, hne0⟩, trivial⟩, ⟨.inl rfl, trivial⟩, ⟨rfl, rfl⟩, trivial, ⟨rfl, rfl⟩, trivial⟩ ⟨.inr rfl, trivial⟩), he⟩
        · skip
          refine And.intro ?_ (And.intro ?_ (trivial))
          · skip
            refine And.intro ?_ trivial
            refine And.intro ?_ trivial
            obtain ⟨r23_, hr, he⟩ := ok_bind he
            refine ⟨r23_, hr, ?_⟩
            have he := ok_rq he
            have hne0 := he.1
            have he := he.2
            have he := ok_some he
            exact ⟨rfl, _, _, (leads_ren [(900, 24900)] (l := [(5, .c (.bool true))]) (st' := [(0, .rc [.imm (.int .i64) o0_0, .imm (.pair (.int .i64) (.pair (.sl (.int .i64)) (.pair (.sl (.int .i64)) (.pair (.int .i64) (.sl (.sl (.int .i64))))))) o0_1]), (1, .rc [.own 900 true]), (2, .rc [.imm (.int .i64) o2]), (3, .sl 3 (.int .i64) cells .shallow), (4, .dead), (900, .sl 3 (.int .i64) r23_ .shallow)]) rfl rfl ⟨⟨.inl rfl, .inl rfl, trivial⟩, ⟨⟨⟨rfl, rfl⟩, hne0⟩, trivial⟩, ⟨.inl rfl, trivial⟩, ⟨rfl, rfl⟩, trivial, ⟨rfl, rfl⟩, trivial⟩ ⟨.inr rfl, trivial⟩), he⟩
          · skip
            refine And.intro ?_ trivial
            refine And.intro ?_ trivial
            obtain ⟨r24_, hr, he⟩ := ok_bind he
            refine ⟨r24_, hr, ?_⟩
            have he := ok_rq he
            have hne0 := he.1
            have he := he.2
            have he := ok_some he
            exact ⟨rfl, _, _, (leads_ren [(900, 24900)] (l := [(5, .c (.bool true))]) (st' := [(0, .rc [.imm (.int .i64) o0_0, .imm (.pair (.int .i64) (.pair (.sl (.int .i64)) (.pair (.sl (.int .i64)) (.pair (.int .i64) (.sl (.sl (.int .i64))))))) o0_1]), (1, .rc [.own 900 true]), (2, .rc [.imm (.int .i64) o2]), (3, .sl 3 (.int .i64) cells .shallow), (4, .dead), (900, .sl 3 (.int .i64) r24_ .shallow)]) rfl rfl ⟨⟨.inl rfl, .inl rfl, trivial⟩, ⟨⟨⟨rfl, rfl⟩, hne0⟩, trivial⟩, ⟨.inl rfl, trivial⟩, ⟨rfl, rfl⟩, trivial, ⟨rfl, rfl⟩, trivial⟩ ⟨.inr rfl, trivial⟩), he⟩
      · skip
        refine And.intro ?_ (And.intro ?_ (trivial))
        · skip
          refine And.intro ?_ (And.intro ?_ (trivial))
          · skip
            refine And.intro ?_ trivial
            refine And.intro ?_ trivial
            obtain ⟨r25_, hr, he⟩ := ok_bind he
            refine ⟨r25_, hr, ?_⟩
            have he := ok_rq he
            have hne0 := he.1
            have he := he.2
            have he := ok_some he
            exact ⟨rfl, _, _, (leads_ren [(900, 24900)] (l := [(5, .c (.bool true))]) (st' := [(0, .rc [.imm (.int .i64) o0_0, .imm (.pair (.int .i64) (.pair (.sl (.int .i64)) (.pair (.sl (.int .i64)) (.pair (.int .i64) (.sl (.sl (.int .i64))))))) o0_1]), (1, .rc [.own 900 true]), (2, .rc [.imm (.int .i64) o2]), (3, .sl 3 (.int .i64) cells .shallow), (4, .dead), (900, .sl 3 (.int .i64) r25_ .shallow)]) rfl rfl ⟨⟨.inl rfl, .inl rfl, trivial⟩, ⟨⟨⟨rfl, rfl⟩, hne0⟩, trivial⟩, ⟨.inl rfl, trivial⟩, ⟨rfl, rfl⟩, trivial, ⟨rfl, rfl⟩, trivial⟩ ⟨.inr rfl, trivial⟩), he⟩
          · skip
            refine And.intro ?_ trivial
            refine And.intro ?_ trivial
            obtain ⟨r26_, hr, he⟩ := ok_bind he
            refine ⟨r26_, hr, ?_⟩
            have he := ok_rq he
            have hne0 := he.1
            have he := he.2
            have he := ok_some he
            exact ⟨rfl, _, _, (leads_ren [(900, 24900)] (l := [(5, .c (.bool true))]) (st' := [(0, .rc [.imm (.int .i64) o0_0, .imm (.pair (.int .i64) (.pair (.sl (.int .i64)) (.pair (.sl (.int .i64)) (.pair (.int .i64) (.sl (.sl (.int .i64))))))) o0_1]), (1, .rc [.own 900 true]), (2, .rc [.imm (.int .i64) o2]), (3, .sl 3 (.int .i64) cells .shallow), (4, .dead), (900, .sl 3 (.int .i64) r26_ .shallow)]) rfl rfl ⟨⟨.inl rfl, .inl rfl, trivial⟩, ⟨⟨⟨rfl, rfl⟩, hne0⟩, trivial⟩, ⟨.inl rfl, trivial⟩, ⟨rfl, rfl⟩, trivial, ⟨rfl, rfl⟩, trivial⟩ ⟨.inr rfl, trivial⟩), he⟩
        · skip
          refine And.intro ?_ trivial
          refine And.intro ?_ trivial
          refine And.intro ?_ trivial
          obtain ⟨r27_, hr, he⟩ := ok_bind he
          refine ⟨r27_, hr, ?_⟩
          have he := ok_rq he
          have hne0 := he.1
          have he := he.2
          have he := ok_some he
          exact ⟨rfl, _, _, (leads_ren [(900, 24900)] (l := [(5, .c (.bool true))]) (st' := [(0, .rc [.imm (.int .i64) o0_0, .imm (.pair (.int .i64) (.pair (.sl (.int .i64)) (.pair (.sl (.int .i64)) (.pair (.int .i64) (.sl (.sl (.int .i64))))))) o0_1]), (1, .rc [.own 900 true]), (2, .rc [.imm (.int .i64) o2]), (3, .sl 3 (.int .i64) cells .shallow), (4, .dead), (900, .sl 3 (.int .i64) r27_ .shallow)]) rfl rfl ⟨⟨.inl rfl, .inl rfl, trivial⟩, ⟨⟨⟨rfl, rfl⟩, hne0⟩, trivial⟩, ⟨.inl rfl, trivial⟩, ⟨rfl, rfl⟩, trivial, ⟨rfl, rfl⟩, trivial⟩ ⟨.inr rfl, trivial⟩), he⟩
      · skip
        refine And.intro ?_ (And.intro ?_ (trivial))
        · skip
          refine And.intro ?_ (And.intro ?_ (trivial))
          · skip
            refine And.intro ?_ trivial
            refine And.intro ?_ trivial
            obtain ⟨r28_, hr, he⟩ := ok_bind he
            refine ⟨r28_, hr, ?_⟩
            have he := ok_rq he
            have hne0 := he.1
            have he := he.2
            have he := ok_some he
            exact ⟨rfl, _, _, (leads_ren [(900, 24900)] (l := [(5, .c (.bool true))]) (st' := [(0, .rc [.imm (.int .i64) o0_0, .imm (.pair (.int .i64) (.pair (.sl (.int .i64)) (.pair (.sl (.int .i64)) (.pair (.int .i64) (.sl (.sl (.int .i64))))))) o0_1]), (1, .rc [.own 900 true]), (2, .rc [.imm (.int .i64) o2]), (3, .sl 3 (.int .i64) cells .shallow), (4, .dead), (900, .sl 3 (.int .i64) r28_ .shallow)]) rfl rfl ⟨⟨.inl rfl, .inl rfl, trivial⟩, ⟨⟨⟨rfl, rfl⟩, hne0⟩, trivial⟩, ⟨.inl rfl, trivial⟩, ⟨rfl, rfl⟩, trivial, ⟨rfl, rfl⟩, trivial⟩ ⟨.inr rfl, trivial⟩), he⟩
          · skip
            refine And.intro ?_ trivial
            refine And.intro ?_ trivial
            obtain ⟨r29_, hr, he⟩ := ok_bind he
            refine ⟨r29_, hr, ?_⟩
            have he := ok_rq he
            have hne0 := he.1
            have he := he.2
            have he := ok_some he
            exact ⟨rfl, _, _, (leads_ren [(900, 24900)] (l := [(5, .c (.bool true))]) (st' := [(0, .rc [.imm (.int .i64) o0_0, .imm (.pair (.int .i64) (.pair (.sl (.int .i64)) (.pair (.sl (.int .i64)) (.pair (.int .i64) (.sl (.sl (.int .i64))))))) o0_1]), (1, .rc [.own 900 true]), (2, .rc [.imm (.int .i64) o2]), (3, .sl 3 (.int .i64) cells .shallow), (4, .dead), (900, .sl 3 (.int .i64) r29_ .shallow)]) rfl rfl ⟨⟨.inl rfl, .inl rfl, trivial⟩, ⟨⟨⟨rfl, rfl⟩, hne0⟩, trivial⟩, ⟨.inl rfl, trivial⟩, ⟨rfl, rfl⟩, trivial, ⟨rfl, rfl⟩, trivial⟩ ⟨.inr rfl, trivial⟩), he⟩
        · skip
          refine And.intro ?_ trivial
          refine And.intro ?_ trivial
          refine And.intro ?_ trivial
          obtain ⟨r30_, hr, he⟩ := ok_bind he
          refine ⟨r30_, hr, ?_⟩
          have he := ok_rq he
          have hne0 := he.1
          have he := he.2
          have he := ok_some he
          exact ⟨rfl, _, _, (leads_ren [(900, 24900)] (l := [(5, .c (.bool true))]) (st' := [(0, .rc [.imm (.int .i64) o0_0, .imm (.pair (.int .i64) (.pair (.sl (.int .i64)) (.pair (.sl (.int .i64)) (.pair (.int .i64) (.sl (.sl (.int .i64))))))) o0_1]), (1, .rc [.own 900 true]), (2, .rc [.imm (.int .i64) o2]), (3, .sl 3 (.int .i64) cells .shallow), (4, .dead), (900, .sl 3 (.int .i64) r30_ .shallow)]) rfl rfl ⟨⟨.inl rfl, .inl rfl, trivial⟩, ⟨⟨⟨rfl, rfl⟩, hne0⟩, trivial⟩, ⟨.inl rfl, trivial⟩, ⟨rfl, rfl⟩, trivial, ⟨rfl, rfl⟩, trivial⟩ ⟨.inr rfl, trivial⟩), he⟩
  · have he := ok_f he hb
    refine And.intro ?_ (And.intro ?_ (And.intro ?_ (trivial)))
    · skip
      refine And.intro ?_ (And.intro ?_ (And.intro ?_ (trivial)))
      · skip
        refine And.intro ?_ (And.intro ?_ (trivial))
        · skip
          refine And.intro ?_ trivial
          refine And.intro ?_ trivial
          have he := ok_some he
          exact ⟨rfl, _, _, (leads_ren [(900, 4)] (l := [(5, .c (.bool true))]) (st' := [(0, .rc [.imm (.int .i64) o0_0, .imm (.pair (.int .i64) (.pair (.sl (.int .i64)) (.pair (.sl (.int .i64)) (.pair (.int .i64) (.sl (.sl (.int .i64))))))) o0_1]), (1, .rc [.own 900 true]), (2, .rc [.imm (.int .i64) o2]), (3, .sl 3 (.int .i64) cells .shallow), (4, .dead), (900, .sl 3 (.int .i64) o4 .shallow)]) rfl rfl ⟨⟨.inl rfl, .inl rfl, trivial⟩, ⟨⟨⟨rfl, rfl⟩, trivial⟩, trivial⟩, ⟨.inl rfl, trivial⟩, ⟨rfl, rfl⟩, trivial, ⟨rfl, rfl⟩, trivial⟩ ⟨.inr rfl, trivial⟩), he⟩
        · skip
          refine And.intro ?_ trivial
          refine And.intro ?_ trivial
          have he := ok_some he
          exact ⟨rfl, _, _, (leads_ren [(900, 4)] (l := [(5, .c (.bool true))]) (st' := [(0, .rc [.imm (.int .i64) o0_0, .imm (.pair (.int .i64) (.pair (.sl (.int .i64)) (.pair (.sl (.int .i64)) (.pair (.int .i64) (.sl (.sl (.int .i64))))))) o0_1]), (1, .rc [.own 900 true]), (2, .rc [.imm (.int .i64) o2]), (3, .sl 3 (.int .i64) cells .shallow), (4, .dead), (900, .sl 3 (.int .i64) o4 .shallow)]) rfl rfl ⟨⟨.inl rfl, .inl rfl, trivial⟩, ⟨⟨⟨rfl, rfl⟩, trivial⟩, trivial⟩, ⟨.inl rfl, trivial⟩, ⟨rfl, rfl⟩, trivial, ⟨rfl, rfl⟩, trivial⟩ ⟨.inr rfl, trivial⟩), he⟩
      · skip
        refine And.intro ?_ (And.intro ?_ (trivial))
        · skip
          refine And.intro ?_ trivial
          refine And.intro ?_ trivial
          have he := ok_some he
          exact ⟨rfl, _, _, (leads_ren [(900, 4)] (l := [(5, .c (.bool true))]) (st' := [(0, .rc [.imm (.int .i64) o0_0, .imm (.pair (.int .i64) (.pair (.sl (.int .i64)) (.pair (.sl (.int .i64)) (.pair (.int .i64) (.sl (.sl (.int .i64))))))) o0_1]), (1, .rc [.own 900 true]), (2, .rc [.imm (.int .i64) o2]), (3, .sl 3 (.int .i64) cells .shallow), (4, .dead), (900, .sl 3 (.int .i64) o4 .shallow)]) rfl rfl ⟨⟨.inl rfl, .inl rfl, trivial⟩, ⟨⟨⟨rfl, rfl⟩, trivial⟩, trivial⟩, ⟨.inl rfl, trivial⟩, ⟨rfl, rfl⟩, trivial, ⟨rfl, rfl⟩, trivial⟩ ⟨.inr rfl, trivial⟩), he⟩
        · skip
          refine And.intro ?_ trivial
          refine And.intro ?_ trivial
          have he := ok_some he
          exact ⟨rfl, _, _, (leads_ren [(900, 4)] (l := [(5, .c (.bool true))]) (st' := [(0, .rc [.imm (.int .i64) o0_0, .imm (.pair (.int .i64) (.pair (.sl (.int .i64)) (.pair (.sl (.int .i64)) (.pair (.int .i64) (.sl (.sl (.int .i64))))))) o0_1]), (1, .rc [.own 900 true]), (2, .rc [.imm (.int .i64) o2]), (3, .sl 3 (.int .i64) cells .shallow), (4, .dead), (900, .sl 3 (.int .i64) o4 .shallow)]) rfl rfl ⟨⟨.inl rfl, .inl rfl, trivial⟩, ⟨⟨⟨rfl, rfl⟩, trivial⟩, trivial⟩, ⟨.inl rfl, trivial⟩, ⟨rfl, rfl⟩, trivial, ⟨rfl, rfl⟩, trivial⟩ ⟨.inr rfl, trivial⟩), he⟩
      · skip
        refine And.intro ?_ (And.intro ?_ (trivial))
        · skip
          refine And.intro ?_ trivial
          refine And.intro ?_ trivial
          have he := ok_some he
          exact ⟨rfl, _, _, (leads_ren [(900, 4)] (l := [(5, .c (.bool true))]) (st' := [(0, .rc [.imm (.int .i64) o0_0, .imm (.pair (.int .i64) (.pair (.sl (.int .i64)) (.pair (.sl (.int .i64)) (.pair (.int .i64) (.sl (.sl (.int .i64))))))) o0_1]), (1, .rc [.own 900 true]), (2, .rc [.imm (.int .i64) o2]), (3, .sl 3 (.int .i64) cells .shallow), (4, .dead), (900, .sl 3 (.int .i64) o4 .shallow)]) rfl rfl ⟨⟨.inl rfl, .inl rfl, trivial⟩, ⟨⟨⟨rfl, rfl⟩, trivial⟩, trivial⟩, ⟨.inl rfl, trivial⟩, ⟨rfl, rfl⟩, trivial, ⟨rfl, rfl⟩, trivial⟩ ⟨.inr rfl, trivial⟩), he⟩
        · skip
          refine And.intro ?_ trivial
          refine And.intro ?_ trivial
          have he := ok_some he
          exact ⟨rfl, _, _, (leads_ren [(900, 4)] (l := [(5, .c (.bool true))]) (st' := [(0, .rc [.imm (.int .i64) o0_0, .imm (.pair (.int .i64) (.pair (.sl (.int .i64)) (.pair (.sl (.int .i64)) (.pair (.int .i64) (.sl (.sl (.int .i64))))))) o0_1]), (1, .rc [.own 900 true]), (2, .rc [.imm (.int .i64) o2]), (3, .sl 3 (.int .i64) cells .shallow), (4, .dead), (900, .sl 3 (.int .i64) o4 .shallow)]) rfl rfl ⟨⟨.inl rfl, .inl rfl, trivial⟩, ⟨⟨⟨rfl, rfl⟩, trivial⟩, trivial⟩, ⟨.inl rfl, trivial⟩, ⟨rfl, rfl⟩, trivial, ⟨rfl, rfl⟩, trivial⟩ ⟨.inr rfl, trivial⟩), he⟩
    · skip
      refine And.intro ?_ (And.intro ?_ (trivial))
      · skip
        refine And.intro ?_ (And.intro ?_ (trivial))
        · skip
          refine And.intro ?_ trivial
          refine And.intro ?_ trivial
          have he := ok_some he
          exact ⟨rfl, _, _, (leads_ren [(900, 4)] (l := [(5, .c (.bool true))]) (st' := [(0, .rc [.imm (.int .i64) o0_0, .imm (.pair (.int .i64) (.pair (.sl (.int .i64)) (.pair (.sl (.int .i64)) (.pair (.int .i64) (.sl (.sl (.int .i64))))))) o0_1]), (1, .rc [.own 900 true]), (2, .rc [.imm (.int .i64) o2]), (3, .sl 3 (.int .i64) cells .shallow), (4, .dead), (900, .sl 3 (.int .i64) o4 .shallow)]) rfl rfl ⟨⟨.inl rfl, .inl rfl, trivial⟩, ⟨⟨⟨rfl, rfl⟩, trivial⟩, trivial⟩, ⟨.inl rfl, trivial⟩, ⟨rfl, rfl⟩, trivial, ⟨rfl, rfl⟩, trivial⟩ ⟨.inr rfl, trivial⟩), he⟩
        · skip
          refine And.intro ?_ trivial
          refine And.intro ?_ trivial
          have he := ok_some he
          exact ⟨rfl, _, _, (leads_ren [(900, 4)] (l := [(5, .c (.bool true))]) (st' := [(0, .rc [.imm (.int .i64) o0_0, .imm (.pair (.int .i64) (.pair (.sl (.int .i64)) (.pair (.sl (.int .i64)) (.pair (.int .i64) (.sl (.sl (.int .i64))))))) o0_1]), (1, .rc [.own 900 true]), (2, .rc [.imm (.int .i64) o2]), (3, .sl 3 (.int .i64) cells .shallow), (4, .dead), (900, .sl 3 (.int .i64) o4 .shallow)]) rfl rfl ⟨⟨.inl rfl, .inl rfl, trivial⟩, ⟨⟨⟨rfl, rfl⟩, trivial⟩, trivial⟩, ⟨.inl rfl, trivial⟩, ⟨rfl, rfl⟩, trivial, ⟨rfl, rfl⟩, trivial⟩ ⟨.inr rfl, trivial⟩), he⟩
      · skip
        refine And.intro ?_ trivial
        refine And.intro ?_ trivial
        refine And.intro ?_ trivial
        have he := ok_some he
        exact ⟨rfl, _, _, (leads_ren [(900, 4)] (l := [(5, .c (.bool true))]) (st' := [(0, .rc [.imm (.int .i64) o0_0, .imm (.pair (.int .i64) (.pair (.sl (.int .i64)) (.pair (.sl (.int .i64)) (.pair (.int .i64) (.sl (.sl (.int .i64))))))) o0_1]), (1, .rc [.own 900 true]), (2, .rc [.imm (.int .i64) o2]), (3, .sl 3 (.int .i64) cells .shallow), (4, .dead), (900, .sl 3 (.int .i64) o4 .shallow)]) rfl rfl ⟨⟨.inl rfl, .inl rfl, trivial⟩, ⟨⟨⟨rfl, rfl⟩, trivial⟩, trivial⟩, ⟨.inl rfl, trivial⟩, ⟨rfl, rfl⟩, trivial, ⟨rfl, rfl⟩, trivial⟩ ⟨.inr rfl, trivial⟩), he⟩
    · skip
      refine And.intro ?_ (And.intro ?_ (trivial))
      · skip
        refine And.intro ?_ (And.intro ?_ (trivial))
        · skip
          refine And.intro ?_ trivial
          refine And.intro ?_ trivial
          have he := ok_some he
          exact ⟨rfl, _, _, (leads_ren [(900, 4)] (l := [(5, .c (.bool true))]) (st' := [(0, .rc [.imm (.int .i64) o0_0, .imm (.pair (.int .i64) (.pair (.sl (.int .i64)) (.pair (.sl (.int .i64)) (.pair (.int .i64) (.sl (.sl (.int .i64))))))) o0_1]), (1, .rc [.own 900 true]), (2, .rc [.imm (.int .i64) o2]), (3, .sl 3 (.int .i64) cells .shallow), (4, .dead), (900, .sl 3 (.int .i64) o4 .shallow)]) rfl rfl ⟨⟨.inl rfl, .inl rfl, trivial⟩, ⟨⟨⟨rfl, rfl⟩, trivial⟩, trivial⟩, ⟨.inl rfl, trivial⟩, ⟨rfl, rfl⟩, trivial, ⟨rfl, rfl⟩, trivial⟩ ⟨.inr rfl, trivial⟩), he⟩
        · skip
          refine And.intro ?_ trivial
          refine And.intro ?_ trivial
          have he := ok_some he
          exact ⟨rfl, _, _, (leads_ren [(900, 4)] (l := [(5, .c (.bool true))]) (st' := [(0, .rc [.imm (.int .i64) o0_0, .imm (.pair (.int .i64) (.pair (.sl (.int .i64)) (.pair (.sl (.int .i64)) (.pair (.int .i64) (.sl (.sl (.int .i64))))))) o0_1]), (1, .rc [.own 900 true]), (2, .rc [.imm (.int .i64) o2]), (3, .sl 3 (.int .i64) cells .shallow), (4, .dead), (900, .sl 3 (.int .i64) o4 .shallow)]) rfl rfl ⟨⟨.inl rfl, .inl rfl, trivial⟩, ⟨⟨⟨rfl, rfl⟩, trivial⟩, trivial⟩, ⟨.inl rfl, trivial⟩, ⟨rfl, rfl⟩, trivial, ⟨rfl, rfl⟩, trivial⟩ ⟨.inr rfl, trivial⟩), he⟩
      · skip
        refine And.intro ?_ trivial
        refine And.intro ?_ trivial
        refine And.intro ?_ trivial
        have he := ok_some he
        exact ⟨rfl, _, _, (leads_ren [(900, 4)] (l := [(5, .c (.bool true))]) (st' := [(0, .rc [.imm (.int .i64) o0_0, .imm (.pair (.int .i64) (.pair (.sl (.int .i64)) (.pair (.sl (.int .i64)) (.pair (.int .i64) (.sl (.sl (.int .i64))))))) o0_1]), (1, .rc [.own 900 true]), (2, .rc [.imm (.int .i64) o2]), (3, .sl 3 (.int .i64) cells .shallow), (4, .dead), (900, .sl 3 (.int .i64) o4 .shallow)]) rfl rfl ⟨⟨.inl rfl, .inl rfl, trivial⟩, ⟨⟨⟨rfl, rfl⟩, trivial⟩, trivial⟩, ⟨.inl rfl, trivial⟩, ⟨rfl, rfl⟩, trivial, ⟨rfl, rfl⟩, trivial⟩ ⟨.inr rfl, trivial⟩), he⟩

noncomputable def c_impl_each__impl_MinimizeModel_1__rR0r : Con := fun args st => match args, st with
  | [.c (.imm (.int .i64) sizes), .c (.imm (.int .i64) from_), .c (.fn 116 [0, 1, 2])], [(0, .rc [.imm (.int .i64) o0_0, .imm (.pair (.int .i64) (.pair (.sl (.int .i64)) (.pair (.sl (.int .i64)) (.pair (.int .i64) (.sl (.sl (.int .i64))))))) o0_1]), (1, .rc [.nil]), (2, .rc [.imm (.int .i64) o2])] => .opt ((List Int)) (impl_each__impl_MinimizeModel_1__rR0r sizes from_ (o0_0, o0_1) o2) (fun r => .ret (.tup []) [(0, .rc [.imm (.int .i64) o0_0, .imm (.pair (.int .i64) (.pair (.sl (.int .i64)) (.pair (.sl (.int .i64)) (.pair (.int .i64) (.sl (.sl (.int .i64))))))) o0_1]), (1, .rc [.own 900 true]), (2, .rc [.imm (.int .i64) o2]), (900, .sl 3 (.int .i64) r .shallow)])
  | _, _ => .fail

noncomputable def C_impl_each__impl_MinimizeModel_1__rR0r : Cfg := { y := tys, n := 42, h := 3, tab := [(116, c_impl_MinimizeModel_1__rRNrss), (119, c_slices_Clone_int)], cut := [6], hand := [(116, [0])], good := [], deep := [], sched := [] }

theorem t_impl_each__impl_MinimizeModel_1__rR0r : TabOk Try.prog C_impl_each__impl_MinimizeModel_1__rR0r := by
  refine tabOk_of ?_
  simp only [C_impl_each__impl_MinimizeModel_1__rR0r, List.forall_mem_cons]
  exact ⟨k_impl_MinimizeModel_1__rRNrss, k_slices_Clone_int, fun p h => by cases h⟩

theorem k_impl_each__impl_MinimizeModel_1__rR0r : Entry Try.prog 115 c_impl_each__impl_MinimizeModel_1__rR0r := by
  refine entry_by (C := C_impl_each__impl_MinimizeModel_1__rR0r) mixed tys_ok t_impl_each__impl_MinimizeModel_1__rR0r (fn := Try.f115) (c := bd Try.f115) (by kernel_rfl) (by kernel_rfl) (by kernel_rfl) (by kernel_rfl) ?_
  intro args st k he
  unfold c_impl_each__impl_MinimizeModel_1__rR0r at he
  split at he
  rotate_left
  · exact he.elim
  rename_i sizes from_ o0_0 o0_1 o2
  have he : Ok (impl_each__impl_MinimizeModel_1__rR0r sizes from_ (o0_0, o0_1) o2) (fun r => k (.tup []) [(0, .rc [.imm (.int .i64) o0_0, .imm (.pair (.int .i64) (.pair (.sl (.int .i64)) (.pair (.sl (.int .i64)) (.pair (.int .i64) (.sl (.sl (.int .i64))))))) o0_1]), (1, .rc [.own 900 true]), (2, .rc [.imm (.int .i64) o2]), (900, .sl 3 (.int .i64) r .shallow)]) := he
  refine ⟨rfl, rfl, ?_⟩
  obtain ⟨r1_, hr, he⟩ := ok_bind he
  refine ⟨r1_, hr, ?_⟩
  refine loop_model mixed tys_ok t_impl_each__impl_MinimizeModel_1__rR0r (S := (List Int) × (List Int)) (I := (fun (cells2, cap) => (envOf [(0, .c (.imm (.int .i64) sizes)), (2, .c (.fn 116 [0, 1, 2])), (6, .c (.own 10000000 false))], [(0, .rc [.imm (.int .i64) (o0_0, o0_1).1, .imm (.pair (.int .i64) (.pair (.sl (.int .i64)) (.pair (.sl (.int .i64)) (.pair (.int .i64) (.sl (.sl (.int .i64))))))) (o0_0, o0_1).2]), (1, .rc [.own 10000001 true]), (2, .rc [.imm (.int .i64) o2]), (10000000, .sl 3 (.int .i64) cells2 .shallow), (10000001, .sl 3 (.int .i64) cap .shallow)]))) (f := impl_each__impl_MinimizeModel_1__rR0r_l1 sizes (o0_0, o0_1) o2) (K := (fun r => k (.tup []) [(0, .rc [.imm (.int .i64) o0_0, .imm (.pair (.int .i64) (.pair (.sl (.int .i64)) (.pair (.sl (.int .i64)) (.pair (.int .i64) (.sl (.sl (.int .i64))))))) o0_1]), (1, .rc [.own 900 true]), (2, .rc [.imm (.int .i64) o2]), (900, .sl 3 (.int .i64) r .shallow)])) he (leads_ren [(10000000, 10900)] (l := [(0, .c (.imm (.int .i64) sizes)), (2, .c (.fn 116 [0, 1, 2])), (6, .c (.own 10000000 false))]) (st' := [(0, .rc [.imm (.int .i64) (o0_0, o0_1).1, .imm (.pair (.int .i64) (.pair (.sl (.int .i64)) (.pair (.sl (.int .i64)) (.pair (.int .i64) (.sl (.sl (.int .i64))))))) (o0_0, o0_1).2]), (1, .rc [.own 10000001 true]), (2, .rc [.imm (.int .i64) o2]), (10000000, .sl 3 (.int .i64) r1_ .shallow), (10000001, .sl 3 (.int .i64) ([] : List Int) .shallow)]) rfl rfl ⟨⟨.inl rfl, .inl rfl, trivial⟩, ⟨⟨rfl, trivial⟩, trivial⟩, ⟨.inl rfl, trivial⟩, ⟨rfl, rfl⟩, trivial, trivial⟩ ⟨.inl rfl, ⟨rfl, ⟨⟨rfl, rfl⟩, ⟨⟨rfl, rfl⟩, ⟨⟨rfl, rfl⟩, trivial⟩⟩⟩⟩, ⟨⟨rfl, rfl⟩, trivial⟩, trivial⟩) ?_
  rintro ⟨cells2, cap⟩ J1 he
  obtain ⟨r3_, hr, he⟩ := ok_bind he
  refine ⟨r3_, hr, ?_⟩
  refine And.intro (fun hb => ?_) (fun hb => ?_)
  · have he := ok_t he hb
    have he := ok_rq he
    refine And.intro he.1 ?_
    have he := he.2
    refine seq_model mixed tys_ok t_impl_each__impl_MinimizeModel_1__rR0r (S := Int × (List Int)) (I := (fun (i3, cells4) => (envOf [(0, .c (.imm (.int .i64) sizes)), (2, .c (.fn 116 [0, 1, 2])), (6, .c (.own 10004000 false)), (7, .c (.int .i64 i3))], [(0, .rc [.imm (.int .i64) (o0_0, o0_1).1, .imm (.pair (.int .i64) (.pair (.sl (.int .i64)) (.pair (.sl (.int .i64)) (.pair (.int .i64) (.sl (.sl (.int .i64))))))) (o0_0, o0_1).2]), (1, .rc [.own 10004001 true]), (2, .rc [.imm (.int .i64) o2]), (10004000, .sl 3 (.int .i64) cells4 .shallow), (10004001, .sl 3 (.int .i64) r3_.2 .shallow)]))) (B := fun s => Ok (impl_each__impl_MinimizeModel_1__rR0r_j1 r3_ s) (LK J1 (fun r => k (.tup []) [(0, .rc [.imm (.int .i64) o0_0, .imm (.pair (.int .i64) (.pair (.sl (.int .i64)) (.pair (.sl (.int .i64)) (.pair (.int .i64) (.sl (.sl (.int .i64))))))) o0_1]), (1, .rc [.own 900 true]), (2, .rc [.imm (.int .i64) o2]), (900, .sl 3 (.int .i64) r .shallow)]))) ?_ ?_
    · rintro ⟨i3, cells4⟩ he
      refine And.intro (fun hb => ?_) (fun hb => ?_)
      · have he := ok_t he hb
        have he := ok_some he
        exact ⟨rfl, _, _, (leads_ren [(900, 10004001)] (l := []) (st' := [(0, .rc [.imm (.int .i64) o0_0, .imm (.pair (.int .i64) (.pair (.sl (.int .i64)) (.pair (.sl (.int .i64)) (.pair (.int .i64) (.sl (.sl (.int .i64))))))) o0_1]), (1, .rc [.own 900 true]), (2, .rc [.imm (.int .i64) o2]), (900, .sl 3 (.int .i64) r3_.2 .shallow)]) rfl rfl ⟨⟨.inl rfl, .inl rfl, trivial⟩, ⟨⟨⟨rfl, rfl⟩, trivial⟩, trivial⟩, ⟨.inl rfl, trivial⟩, ⟨rfl, rfl⟩, trivial⟩ trivial), he⟩
      · have he := ok_f he hb
        have he := ok_rq he
        refine And.intro he.1 ?_
        have he := he.2
        have he := ok_rq he
        refine And.intro he.1 ?_
        have he := he.2
        have he := ok_rq he
        refine And.intro he.1 ?_
        have he := he.2
        have he := ok_some he
        exact ⟨((cells4.set i3.toNat ((cells4.getD i3.toNat 0) + (1:Int))), r3_.2), he, (leads_ren [(10000000, 10004000), (10000001, 10004001)] (l := [(0, .c (.imm (.int .i64) sizes)), (2, .c (.fn 116 [0, 1, 2])), (6, .c (.own 10000000 false))]) (st' := [(0, .rc [.imm (.int .i64) (o0_0, o0_1).1, .imm (.pair (.int .i64) (.pair (.sl (.int .i64)) (.pair (.sl (.int .i64)) (.pair (.int .i64) (.sl (.sl (.int .i64))))))) (o0_0, o0_1).2]), (1, .rc [.own 10000001 true]), (2, .rc [.imm (.int .i64) o2]), (10000000, .sl 3 (.int .i64) (cells4.set i3.toNat ((cells4.getD i3.toNat 0) + (1:Int))) .shallow), (10000001, .sl 3 (.int .i64) r3_.2 .shallow)]) rfl rfl ⟨⟨.inl rfl, .inl rfl, trivial⟩, ⟨⟨⟨rfl, rfl⟩, trivial⟩, trivial⟩, ⟨.inl rfl, trivial⟩, ⟨rfl, rfl⟩, ⟨rfl, rfl⟩, trivial⟩ ⟨.inl rfl, ⟨rfl, ⟨⟨rfl, rfl⟩, ⟨⟨rfl, rfl⟩, ⟨⟨rfl, rfl⟩, trivial⟩⟩⟩⟩, ⟨⟨rfl, rfl⟩, trivial⟩, trivial⟩)⟩
    · skip
      refine loop_model mixed tys_ok t_impl_each__impl_MinimizeModel_1__rR0r (S := Int × (List Int)) (I := (fun (i2, cells3) => (envOf [(0, .c (.imm (.int .i64) sizes)), (2, .c (.fn 116 [0, 1, 2])), (6, .c (.own 10003000 false)), (7, .c (.int .i64 i2))], [(0, .rc [.imm (.int .i64) (o0_0, o0_1).1, .imm (.pair (.int .i64) (.pair (.sl (.int .i64)) (.pair (.sl (.int .i64)) (.pair (.int .i64) (.sl (.sl (.int .i64))))))) (o0_0, o0_1).2]), (1, .rc [.own 10003001 true]), (2, .rc [.imm (.int .i64) o2]), (10003000, .sl 3 (.int .i64) cells3 .shallow), (10003001, .sl 3 (.int .i64) r3_.2 .shallow)]))) (f := impl_each__impl_MinimizeModel_1__rR0r_l2 sizes r3_) (K := (LK J1 (fun r => k (.tup []) [(0, .rc [.imm (.int .i64) o0_0, .imm (.pair (.int .i64) (.pair (.sl (.int .i64)) (.pair (.sl (.int .i64)) (.pair (.int .i64) (.sl (.sl (.int .i64))))))) o0_1]), (1, .rc [.own 900 true]), (2, .rc [.imm (.int .i64) o2]), (900, .sl 3 (.int .i64) r .shallow)]))) he (leads_ren [(10003000, 10000000), (10003001, 13900)] (l := [(0, .c (.imm (.int .i64) sizes)), (2, .c (.fn 116 [0, 1, 2])), (6, .c (.own 10003000 false)), (7, .c (.int .i64 ((cells2.length:Int) - (1:Int))))]) (st' := [(0, .rc [.imm (.int .i64) (o0_0, o0_1).1, .imm (.pair (.int .i64) (.pair (.sl (.int .i64)) (.pair (.sl (.int .i64)) (.pair (.int .i64) (.sl (.sl (.int .i64))))))) (o0_0, o0_1).2]), (1, .rc [.own 10003001 true]), (2, .rc [.imm (.int .i64) o2]), (10003000, .sl 3 (.int .i64) cells2 .shallow), (10003001, .sl 3 (.int .i64) r3_.2 .shallow)]) rfl rfl ⟨⟨.inl rfl, .inl rfl, trivial⟩, ⟨⟨⟨rfl, rfl⟩, trivial⟩, trivial⟩, ⟨.inl rfl, trivial⟩, ⟨rfl, rfl⟩, ⟨rfl, rfl⟩, trivial⟩ ⟨.inl rfl, ⟨rfl, ⟨⟨rfl, rfl⟩, ⟨⟨rfl, rfl⟩, ⟨⟨rfl, rfl⟩, trivial⟩⟩⟩⟩, ⟨⟨rfl, rfl⟩, trivial⟩, rfl, trivial⟩) ?_
      rintro ⟨i2, cells3⟩ J2 he
      refine And.intro (by kernel_rfl) ?_
      refine And.intro (fun hb => ?_) (fun hb => ?_)
      · have he := ok_t he hb
        have he := ok_rq he
        refine And.intro he.1 ?_
        have he := he.2
        have he := ok_rq he
        refine And.intro he.1 ?_
        have he := he.2
        refine And.intro (fun hb => ?_) (fun hb => ?_)
        · have he := ok_t he hb
          have he := ok_rq he
          refine And.intro he.1 ?_
          have he := he.2
          have he := ok_rq he
          refine And.intro he.1 ?_
          have he := he.2
          have he := ok_some he
          exact ⟨((i2 - (1:Int)), (cells3.set i2.toNat (0:Int))), he, (leads_ren [] (l := [(0, .c (.imm (.int .i64) sizes)), (2, .c (.fn 116 [0, 1, 2])), (6, .c (.own 10003000 false)), (7, .c (.int .i64 (i2 - (1:Int))))]) (st' := [(0, .rc [.imm (.int .i64) (o0_0, o0_1).1, .imm (.pair (.int .i64) (.pair (.sl (.int .i64)) (.pair (.sl (.int .i64)) (.pair (.int .i64) (.sl (.sl (.int .i64))))))) (o0_0, o0_1).2]), (1, .rc [.own 10003001 true]), (2, .rc [.imm (.int .i64) o2]), (10003000, .sl 3 (.int .i64) (cells3.set i2.toNat (0:Int)) .shallow), (10003001, .sl 3 (.int .i64) r3_.2 .shallow)]) rfl rfl ⟨⟨.inl rfl, .inl rfl, trivial⟩, ⟨⟨⟨rfl, rfl⟩, trivial⟩, trivial⟩, ⟨.inl rfl, trivial⟩, ⟨rfl, rfl⟩, ⟨rfl, rfl⟩, trivial⟩ ⟨.inl rfl, ⟨rfl, ⟨⟨rfl, rfl⟩, ⟨⟨rfl, rfl⟩, ⟨⟨rfl, rfl⟩, trivial⟩⟩⟩⟩, ⟨⟨rfl, rfl⟩, trivial⟩, rfl, trivial⟩)⟩
        · have he := ok_f he hb
          exact ⟨(i2, cells3), ok_up he, (leads_ren [(10004000, 10003000), (10004001, 10003001)] (l := [(0, .c (.imm (.int .i64) sizes)), (2, .c (.fn 116 [0, 1, 2])), (6, .c (.own 10004000 false)), (7, .c (.int .i64 i2))]) (st' := [(0, .rc [.imm (.int .i64) (o0_0, o0_1).1, .imm (.pair (.int .i64) (.pair (.sl (.int .i64)) (.pair (.sl (.int .i64)) (.pair (.int .i64) (.sl (.sl (.int .i64))))))) (o0_0, o0_1).2]), (1, .rc [.own 10004001 true]), (2, .rc [.imm (.int .i64) o2]), (10004000, .sl 3 (.int .i64) cells3 .shallow), (10004001, .sl 3 (.int .i64) r3_.2 .shallow)]) rfl rfl ⟨⟨.inl rfl, .inl rfl, trivial⟩, ⟨⟨⟨rfl, rfl⟩, trivial⟩, trivial⟩, ⟨.inl rfl, trivial⟩, ⟨rfl, rfl⟩, ⟨rfl, rfl⟩, trivial⟩ ⟨.inl rfl, ⟨rfl, ⟨⟨rfl, rfl⟩, ⟨⟨rfl, rfl⟩, ⟨⟨rfl, rfl⟩, trivial⟩⟩⟩⟩, ⟨⟨rfl, rfl⟩, trivial⟩, rfl, trivial⟩)⟩
      · have he := ok_f he hb
        exact ⟨(i2, cells3), ok_up he, (leads_ren [(10004000, 10003000), (10004001, 10003001)] (l := [(0, .c (.imm (.int .i64) sizes)), (2, .c (.fn 116 [0, 1, 2])), (6, .c (.own 10004000 false)), (7, .c (.int .i64 i2))]) (st' := [(0, .rc [.imm (.int .i64) (o0_0, o0_1).1, .imm (.pair (.int .i64) (.pair (.sl (.int .i64)) (.pair (.sl (.int .i64)) (.pair (.int .i64) (.sl (.sl (.int .i64))))))) (o0_0, o0_1).2]), (1, .rc [.own 10004001 true]), (2, .rc [.imm (.int .i64) o2]), (10004000, .sl 3 (.int .i64) cells3 .shallow), (10004001, .sl 3 (.int .i64) r3_.2 .shallow)]) rfl rfl ⟨⟨.inl rfl, .inl rfl, trivial⟩, ⟨⟨⟨rfl, rfl⟩, trivial⟩, trivial⟩, ⟨.inl rfl, trivial⟩, ⟨rfl, rfl⟩, ⟨rfl, rfl⟩, trivial⟩ ⟨.inl rfl, ⟨rfl, ⟨⟨rfl, rfl⟩, ⟨⟨rfl, rfl⟩, ⟨⟨rfl, rfl⟩, trivial⟩⟩⟩⟩, ⟨⟨rfl, rfl⟩, trivial⟩, rfl, trivial⟩)⟩
  · have he := ok_f he hb
    have he := ok_some he
    exact ⟨rfl, _, _, (leads_ren [(900, 13900)] (l := []) (st' := [(0, .rc [.imm (.int .i64) o0_0, .imm (.pair (.int .i64) (.pair (.sl (.int .i64)) (.pair (.sl (.int .i64)) (.pair (.int .i64) (.sl (.sl (.int .i64))))))) o0_1]), (1, .rc [.own 900 true]), (2, .rc [.imm (.int .i64) o2]), (900, .sl 3 (.int .i64) r3_.2 .shallow)]) rfl rfl ⟨⟨.inl rfl, .inl rfl, trivial⟩, ⟨⟨⟨rfl, rfl⟩, trivial⟩, trivial⟩, ⟨.inl rfl, trivial⟩, ⟨rfl, rfl⟩, trivial⟩ trivial), he⟩

noncomputable def c_impl_MinimizeModel : Con := fun args st => match args, st with
  | [.agg [.imm (.int .i64) m_0, .imm (.pair (.int .i64) (.pair (.sl (.int .i64)) (.pair (.sl (.int .i64)) (.pair (.int .i64) (.sl (.sl (.int .i64))))))) m_1], .c (.imm (.int .i64) coefs)], [] => .opt (Bool × (List Int)) (impl_MinimizeModel (m_0, m_1) coefs) (fun r => .ret (.tup [.c (.own 900 false), .c (.bool r.1)]) [(900, .sl 3 (.int .i64) r.2 .shallow)])
  | _, _ => .fail

noncomputable def C_impl_MinimizeModel : Cfg := { y := tys, n := 27, h := 0, tab := [(100, c_impl_ModelValid), (109, c_impl_isObjective), (115, c_impl_each__impl_MinimizeModel_1__rR0r)], cut := [5], hand := [], good := [], deep := [], sched := [(4, (.first 0 (.first 2 (.alt 1 (.alt 3 (.first 4 (.alt 5 (.alt 6 (.alt 7 .done .stop) .stop) (.alt 6 (.alt 5 (.alt 7 .done .stop) .stop) .stop))) (.alt 6 (.alt 3 (.first 4 (.alt 5 (.alt 7 .done .stop) .stop)) .stop) .stop)) (.alt 3 (.first 4 (.alt 1 (.alt 5 (.alt 6 (.alt 7 .done .stop) .stop) (.alt 6 (.alt 5 (.alt 7 .done .stop) .stop) .stop)) (.alt 5 (.alt 1 (.alt 6 (.alt 7 .done .stop) .stop) (.alt 6 (.alt 1 (.alt 7 .done .stop) .stop) .stop)) (.alt 6 (.alt 1 (.alt 5 (.alt 7 .done .stop) .stop) (.alt 5 (.alt 1 (.alt 7 .done .stop) .stop) .stop)) .stop)))) (.alt 6 (.alt 1 (.alt 3 (.first 4 (.alt 5 (.alt 7 .done .stop) .stop)) .stop) (.alt 3 (.first 4 (.alt 1 (.alt 5 (.alt 7 .done .stop) .stop) (.alt 5 (.alt 1 (.alt 7 .done .stop) .stop) .stop))) .stop)) .stop))))))] }

theorem t_impl_MinimizeModel : TabOk Try.prog C_impl_MinimizeModel := by
  refine tabOk_of ?_
  simp only [C_impl_MinimizeModel, List.forall_mem_cons]
  exact ⟨k_impl_ModelValid, k_impl_isObjective, k_impl_each__impl_MinimizeModel_1__rR0r, fun p h => by cases h⟩

theorem k_impl_MinimizeModel : Entry Try.prog 50 c_impl_MinimizeModel := by
  refine entry_by (C := C_impl_MinimizeModel) mixed tys_ok t_impl_MinimizeModel (fn := Try.f50) (c := bd Try.f50) (by kernel_rfl) (by kernel_rfl) (by kernel_rfl) (by kernel_rfl) ?_
  intro args st k he
  unfold c_impl_MinimizeModel at he
  split at he
  rotate_left
  · exact he.elim
  rename_i m_0 m_1 coefs
  have he : Ok (impl_MinimizeModel (m_0, m_1) coefs) (fun r => k (.tup [.c (.own 900 false), .c (.bool r.1)]) [(900, .sl 3 (.int .i64) r.2 .shallow)]) := he
  refine ⟨rfl, rfl, ?_⟩
  obtain ⟨r1_, hr, he⟩ := ok_bind he
  refine ⟨r1_, hr, ?_⟩
  refine And.intro (fun hb => ?_) (fun hb => ?_)
  · have he := ok_f he hb
    obtain ⟨r2_, hr, he⟩ := ok_bind he
    refine ⟨r2_, hr, ?_⟩
    refine And.intro (fun hb => ?_) (fun hb => ?_)
    · have he := ok_t he hb
      have he := ok_some he
      exact ⟨rfl, _, _, (leads_ren [] (l := [(4, .c (.own 900 false)), (5, .c (.bool false))]) (st' := [(900, .sl 3 (.int .i64) ([] : List Int) .shallow)]) rfl rfl ⟨trivial, trivial⟩ ⟨⟨rfl, trivial⟩, .inr rfl, trivial⟩), he⟩
    · have he := ok_f he hb
      refine seq_model mixed tys_ok t_impl_MinimizeModel (S := (List Int)) (I := (fun best => (envOf [(6, .c (.ptr 10000000 0))], [(10000000, .rc [.own 10000001 true]), (10000001, .sl 3 (.int .i64) best .shallow)]))) (B := fun s => Ok (impl_MinimizeModel_j1 s) (fun r => k (.tup [.c (.own 900 false), .c (.bool r.1)]) [(900, .sl 3 (.int .i64) r.2 .shallow)])) ?_ ?_
      · rintro best he
        refine And.intro (by kernel_rfl) ?_
        have he := ok_some he
        exact ⟨rfl, _, _, (leads_ren [(900, 10000001)] (l := [(4, .c (.own 900 false)), (5, .c (.bool (!best.isEmpty)))]) (st' := [(900, .sl 3 (.int .i64) best .shallow)]) rfl rfl ⟨⟨rfl, rfl⟩, trivial⟩ ⟨⟨⟨rfl, rfl⟩, trivial⟩, .inl rfl, trivial⟩), he⟩
      · skip
        refine And.intro (by kernel_rfl) ?_
        have he := ok_rq he
        have hq1 := he.1
        have he := he.2
        obtain ⟨r4_, hq2, he⟩ := ok_bind he
        refine And.intro ?_ (And.intro ?_ (And.intro ?_ (trivial)))
        · skip
          refine And.intro ?_ (And.intro ?_ (trivial))
          · skip
            refine And.intro ?_ (And.intro ?_ (trivial))
            · skip
              refine And.intro hq1 ?_
              refine And.intro ?_ trivial
              refine And.intro ?_ trivial
              refine ⟨r4_, hq2, ?_⟩
              exact ⟨r4_, he, (leads_ren [(10000000, 6), (10000001, 24900)] (l := [(6, .c (.ptr 10000000 0))]) (st' := [(10000000, .rc [.own 10000001 true]), (10000001, .sl 3 (.int .i64) r4_ .shallow)]) rfl rfl ⟨⟨⟨⟨rfl, rfl⟩, trivial⟩, trivial⟩, ⟨rfl, rfl⟩, trivial⟩ ⟨⟨⟨rfl, rfl⟩, rfl⟩, trivial⟩)⟩
            · skip
              refine And.intro ?_ trivial
              refine And.intro hq1 ?_
              refine And.intro ?_ trivial
              refine ⟨r4_, hq2, ?_⟩
              exact ⟨r4_, he, (leads_ren [(10000000, 6), (10000001, 24900)] (l := [(6, .c (.ptr 10000000 0))]) (st' := [(10000000, .rc [.own 10000001 true]), (10000001, .sl 3 (.int .i64) r4_ .shallow)]) rfl rfl ⟨⟨⟨⟨rfl, rfl⟩, trivial⟩, trivial⟩, ⟨rfl, rfl⟩, trivial⟩ ⟨⟨⟨rfl, rfl⟩, rfl⟩, trivial⟩)⟩
          · skip
            refine And.intro ?_ trivial
            refine And.intro ?_ trivial
            refine And.intro hq1 ?_
            refine And.intro ?_ trivial
            refine ⟨r4_, hq2, ?_⟩
            exact ⟨r4_, he, (leads_ren [(10000000, 6), (10000001, 24900)] (l := [(6, .c (.ptr 10000000 0))]) (st' := [(10000000, .rc [.own 10000001 true]), (10000001, .sl 3 (.int .i64) r4_ .shallow)]) rfl rfl ⟨⟨⟨⟨rfl, rfl⟩, trivial⟩, trivial⟩, ⟨rfl, rfl⟩, trivial⟩ ⟨⟨⟨rfl, rfl⟩, rfl⟩, trivial⟩)⟩
        · skip
          refine And.intro ?_ (And.intro ?_ (And.intro ?_ (trivial)))
          · skip
            refine And.intro ?_ (And.intro ?_ (trivial))
            · skip
              refine And.intro hq1 ?_
              refine And.intro ?_ trivial
              refine And.intro ?_ trivial
              refine ⟨r4_, hq2, ?_⟩
              exact ⟨r4_, he, (leads_ren [(10000000, 6), (10000001, 24900)] (l := [(6, .c (.ptr 10000000 0))]) (st' := [(10000000, .rc [.own 10000001 true]), (10000001, .sl 3 (.int .i64) r4_ .shallow)]) rfl rfl ⟨⟨⟨⟨rfl, rfl⟩, trivial⟩, trivial⟩, ⟨rfl, rfl⟩, trivial⟩ ⟨⟨⟨rfl, rfl⟩, rfl⟩, trivial⟩)⟩
            · skip
              refine And.intro ?_ trivial
              refine And.intro hq1 ?_
              refine And.intro ?_ trivial
              refine ⟨r4_, hq2, ?_⟩
              exact ⟨r4_, he, (leads_ren [(10000000, 6), (10000001, 24900)] (l := [(6, .c (.ptr 10000000 0))]) (st' := [(10000000, .rc [.own 10000001 true]), (10000001, .sl 3 (.int .i64) r4_ .shallow)]) rfl rfl ⟨⟨⟨⟨rfl, rfl⟩, trivial⟩, trivial⟩, ⟨rfl, rfl⟩, trivial⟩ ⟨⟨⟨rfl, rfl⟩, rfl⟩, trivial⟩)⟩
          · skip
            refine And.intro hq1 ?_
            refine And.intro ?_ (And.intro ?_ (trivial))
            · skip
              refine And.intro ?_ trivial
              refine And.intro ?_ trivial
              refine ⟨r4_, hq2, ?_⟩
              exact ⟨r4_, he, (leads_ren [(10000000, 6), (10000001, 24900)] (l := [(6, .c (.ptr 10000000 0))]) (st' := [(10000000, .rc [.own 10000001 true]), (10000001, .sl 3 (.int .i64) r4_ .shallow)]) rfl rfl ⟨⟨⟨⟨rfl, rfl⟩, trivial⟩, trivial⟩, ⟨rfl, rfl⟩, trivial⟩ ⟨⟨⟨rfl, rfl⟩, rfl⟩, trivial⟩)⟩
            · skip
              refine And.intro ?_ trivial
              refine And.intro ?_ trivial
              refine ⟨r4_, hq2, ?_⟩
              exact ⟨r4_, he, (leads_ren [(10000000, 6), (10000001, 24900)] (l := [(6, .c (.ptr 10000000 0))]) (st' := [(10000000, .rc [.own 10000001 true]), (10000001, .sl 3 (.int .i64) r4_ .shallow)]) rfl rfl ⟨⟨⟨⟨rfl, rfl⟩, trivial⟩, trivial⟩, ⟨rfl, rfl⟩, trivial⟩ ⟨⟨⟨rfl, rfl⟩, rfl⟩, trivial⟩)⟩
          · skip
            refine And.intro ?_ (And.intro ?_ (trivial))
            · skip
              refine And.intro ?_ trivial
              refine And.intro hq1 ?_
              refine And.intro ?_ trivial
              refine ⟨r4_, hq2, ?_⟩
              exact ⟨r4_, he, (leads_ren [(10000000, 6), (10000001, 24900)] (l := [(6, .c (.ptr 10000000 0))]) (st' := [(10000000, .rc [.own 10000001 true]), (10000001, .sl 3 (.int .i64) r4_ .shallow)]) rfl rfl ⟨⟨⟨⟨rfl, rfl⟩, trivial⟩, trivial⟩, ⟨rfl, rfl⟩, trivial⟩ ⟨⟨⟨rfl, rfl⟩, rfl⟩, trivial⟩)⟩
            · skip
              refine And.intro hq1 ?_
              refine And.intro ?_ trivial
              refine And.intro ?_ trivial
              refine ⟨r4_, hq2, ?_⟩
              exact ⟨r4_, he, (leads_ren [(10000000, 6), (10000001, 24900)] (l := [(6, .c (.ptr 10000000 0))]) (st' := [(10000000, .rc [.own 10000001 true]), (10000001, .sl 3 (.int .i64) r4_ .shallow)]) rfl rfl ⟨⟨⟨⟨rfl, rfl⟩, trivial⟩, trivial⟩, ⟨rfl, rfl⟩, trivial⟩ ⟨⟨⟨rfl, rfl⟩, rfl⟩, trivial⟩)⟩
        · skip
          refine And.intro ?_ (And.intro ?_ (trivial))
          · skip
            refine And.intro ?_ trivial
            refine And.intro ?_ trivial
            refine And.intro hq1 ?_
            refine And.intro ?_ trivial
            refine ⟨r4_, hq2, ?_⟩
            exact ⟨r4_, he, (leads_ren [(10000000, 6), (10000001, 24900)] (l := [(6, .c (.ptr 10000000 0))]) (st' := [(10000000, .rc [.own 10000001 true]), (10000001, .sl 3 (.int .i64) r4_ .shallow)]) rfl rfl ⟨⟨⟨⟨rfl, rfl⟩, trivial⟩, trivial⟩, ⟨rfl, rfl⟩, trivial⟩ ⟨⟨⟨rfl, rfl⟩, rfl⟩, trivial⟩)⟩
          · skip
            refine And.intro ?_ (And.intro ?_ (trivial))
            · skip
              refine And.intro ?_ trivial
              refine And.intro hq1 ?_
              refine And.intro ?_ trivial
              refine ⟨r4_, hq2, ?_⟩
              exact ⟨r4_, he, (leads_ren [(10000000, 6), (10000001, 24900)] (l := [(6, .c (.ptr 10000000 0))]) (st' := [(10000000, .rc [.own 10000001 true]), (10000001, .sl 3 (.int .i64) r4_ .shallow)]) rfl rfl ⟨⟨⟨⟨rfl, rfl⟩, trivial⟩, trivial⟩, ⟨rfl, rfl⟩, trivial⟩ ⟨⟨⟨rfl, rfl⟩, rfl⟩, trivial⟩)⟩
            · skip
              refine And.intro hq1 ?_
              refine And.intro ?_ trivial
              refine And.intro ?_ trivial
              refine ⟨r4_, hq2, ?_⟩
              exact ⟨r4_, he, (leads_ren [(10000000, 6), (10000001, 24900)] (l := [(6, .c (.ptr 10000000 0))]) (st' := [(10000000, .rc [.own 10000001 true]), (10000001, .sl 3 (.int .i64) r4_ .shallow)]) rfl rfl ⟨⟨⟨⟨rfl, rfl⟩, trivial⟩, trivial⟩, ⟨rfl, rfl⟩, trivial⟩ ⟨⟨⟨rfl, rfl⟩, rfl⟩, trivial⟩)⟩
  · have he := ok_t he hb
    have he := ok_some he
    exact ⟨rfl, _, _, (leads_ren [] (l := [(4, .c (.own 900 false)), (5, .c (.bool false))]) (st' := [(900, .sl 3 (.int .i64) ([] : List Int) .shallow)]) rfl rfl ⟨trivial, trivial⟩ ⟨⟨rfl, trivial⟩, .inr rfl, trivial⟩), he⟩

noncomputable def c_laws_eqIntS : Con := fun args st => match args, st with
  | [.c (.imm (.int .i64) a), .c (.imm (.int .i64) b)], [] => .opt (Bool) (laws_eqIntS a b) (fun r => .ret (.c (.bool r)) [])
  | _, _ => .fail

noncomputable def C_laws_eqIntS : Cfg := { y := tys, n := 26, h := 0, tab := [], cut := [], hand := [], good := [], deep := [], sched := [] }

theorem t_laws_eqIntS : TabOk Try.prog C_laws_eqIntS := tabOk_of (fun p h => by cases h)

theorem k_laws_eqIntS : Entry Try.prog 34 c_laws_eqIntS := by
  refine entry_by (C := C_laws_eqIntS) mixed tys_ok t_laws_eqIntS (fn := Try.f34) (c := bd Try.f34) (by kernel_rfl) (by kernel_rfl) (by kernel_rfl) (by kernel_rfl) ?_
  intro args st k he
  unfold c_laws_eqIntS at he
  split at he
  rotate_left
  · exact he.elim
  rename_i a b
  have he : Ok (laws_eqIntS a b) (fun r => k (.c (.bool r)) []) := he
  refine ⟨rfl, rfl, ?_⟩
  refine And.intro (fun hb => ?_) (fun hb => ?_)
  · have he := ok_t he hb
    have he := ok_some he
    exact ⟨rfl, _, _, Leads.refl _ _, he⟩
  · have he := ok_f he hb
    refine loop_model mixed tys_ok t_laws_eqIntS (S := Int) (I := (fun i => (envOf [(0, .c (.imm (.int .i64) a)), (1, .c (.imm (.int .i64) b)), (5, .c (.int .i64 i))], []))) (f := laws_eqIntS_l1 a b) (K := (fun r => k (.c (.bool r)) [])) he (leads_ren [] (l := [(0, .c (.imm (.int .i64) a)), (1, .c (.imm (.int .i64) b)), (5, .c (.int .i64 (0:Int)))]) (st' := []) rfl rfl trivial ⟨.inl rfl, .inl rfl, rfl, trivial⟩) ?_
    rintro i J1 he
    refine And.intro (fun hb => ?_) (fun hb => ?_)
    · have he := ok_t he hb
      refine And.intro (by kernel_rfl) ?_
      have he := ok_rq he
      refine And.intro he.1 ?_
      have he := he.2
      have he := ok_rq he
      refine And.intro he.1 ?_
      have he := he.2
      refine And.intro (fun hb => ?_) (fun hb => ?_)
      · have he := ok_t he hb
        have he := ok_some he
        exact ⟨rfl, _, _, Leads.refl _ _, he⟩
      · have he := ok_f he hb
        have he := ok_rq he
        refine And.intro he.1 ?_
        have he := he.2
        have he := ok_some he
        exact ⟨(i + (1:Int)), he, (leads_ren [] (l := [(0, .c (.imm (.int .i64) a)), (1, .c (.imm (.int .i64) b)), (5, .c (.int .i64 (i + (1:Int))))]) (st' := []) rfl rfl trivial ⟨.inl rfl, .inl rfl, rfl, trivial⟩)⟩
    · have he := ok_f he hb
      have he := ok_some he
      exact ⟨rfl, _, _, Leads.refl _ _, he⟩

noncomputable def c_laws_eqIntSS : Con := fun args st => match args, st with
  | [.c (.imm (.sl (.int .i64)) a), .c (.imm (.sl (.int .i64)) b)], [] => .opt (Bool) (laws_eqIntSS a b) (fun r => .ret (.c (.bool r)) [])
  | _, _ => .fail

noncomputable def C_laws_eqIntSS : Cfg := { y := tys, n := 27, h := 0, tab := [(34, c_laws_eqIntS)], cut := [], hand := [], good := [], deep := [], sched := [(6, (.first 0 (.first 1 (.first 2 (.first 3 (.first 4 (.first 5 (.first 6 (.first 7 (.alt 8 (.first 9 .done) .stop))))))))))] }

theorem t_laws_eqIntSS : TabOk Try.prog C_laws_eqIntSS := by
  refine tabOk_of ?_
  simp only [C_laws_eqIntSS, List.forall_mem_cons]
  exact ⟨k_laws_eqIntS, fun p h => by cases h⟩

theorem k_laws_eqIntSS : Entry Try.prog 170 c_laws_eqIntSS := by
  refine entry_by (C := C_laws_eqIntSS) mixed tys_ok t_laws_eqIntSS (fn := Try.f170) (c := bd Try.f170) (by kernel_rfl) (by kernel_rfl) (by kernel_rfl) (by kernel_rfl) ?_
  intro args st k he
  unfold c_laws_eqIntSS at he
  split at he
  rotate_left
  · exact he.elim
  rename_i a b
  have he : Ok (laws_eqIntSS a b) (fun r => k (.c (.bool r)) []) := he
  refine ⟨rfl, rfl, ?_⟩
  refine And.intro (fun hb => ?_) (fun hb => ?_)
  · have he := ok_t he hb
    have he := ok_some he
    exact ⟨rfl, _, _, Leads.refl _ _, he⟩
  · have he := ok_f he hb
    refine loop_model mixed tys_ok t_laws_eqIntSS (S := Int) (I := (fun i => (envOf [(0, .c (.imm (.sl (.int .i64)) a)), (1, .c (.imm (.sl (.int .i64)) b)), (5, .c (.int .i64 i))], []))) (f := laws_eqIntSS_l1 a b) (K := (fun r => k (.c (.bool r)) [])) he (leads_ren [] (l := [(0, .c (.imm (.sl (.int .i64)) a)), (1, .c (.imm (.sl (.int .i64)) b)), (5, .c (.int .i64 (0:Int)))]) (st' := []) rfl rfl trivial ⟨.inl rfl, .inl rfl, rfl, trivial⟩) ?_
    rintro i J1 he
    refine And.intro (fun hb => ?_) (fun hb => ?_)
    · have he := ok_t he hb
      refine And.intro (by kernel_rfl) ?_
      have he := ok_rq he
      refine And.intro he.1 ?_
      have he := he.2
      have he := ok_rq he
      refine And.intro he.1 ?_
      have he := he.2
      refine And.intro ?_ trivial
      obtain ⟨r2_, hr, he⟩ := ok_bind he
      refine ⟨r2_, hr, ?_⟩
      refine And.intro (fun hb => ?_) (fun hb => ?_)
      · have he := ok_t he hb
        have he := ok_some he
        exact ⟨rfl, _, _, Leads.refl _ _, he⟩
      · have he := ok_f he hb
        have he := ok_rq he
        refine And.intro he.1 ?_
        have he := he.2
        have he := ok_some he
        exact ⟨(i + (1:Int)), he, (leads_ren [] (l := [(0, .c (.imm (.sl (.int .i64)) a)), (1, .c (.imm (.sl (.int .i64)) b)), (5, .c (.int .i64 (i + (1:Int))))]) (st' := []) rfl rfl trivial ⟨.inl rfl, .inl rfl, rfl, trivial⟩)⟩
    · have he := ok_f he hb
      have he := ok_some he
      exact ⟨rfl, _, _, Leads.refl _ _, he⟩

end Go.AE.Y
