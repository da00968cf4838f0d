/-
  Walks: each function keeps the contract that its model gives. No conditions.
-/
import Derived.Test.YtaeeiddjpigemaaGreatR7Tab
import Derived.Test.YtaeeiddjpigemaaGreatR7W2
namespace Go.AE.Y
open Go Go.AE Go.Proofs
set_option linter.unusedVariables false
set_option maxHeartbeats 2000000
set_option maxRecDepth 100000

noncomputable def c_spec_l4Random__rs : Con := fun args st => match args, st with
  | [.c (.ptr 0 0), .c (.own 1 false)], [(0, .rc [.imm (.int .u8) r__0, .int .i64 r__1]), (1, .sl 89 (.pair (.sl (.pair (.int .i64) (.int .i64))) (.int .i64)) list_ .shallow)] => .opt (D1_ × (List D6_)) (spec_l4Random__rs (r__0, r__1) list_) (fun r => .ret (.c (.own 900 false)) [(0, .rc [.imm (.int .u8) r.1.1, .int .i64 r.1.2]), (1, .sl 89 y3_ list_ .shallow), (900, .sl 96 y6_ r.2 .shallow)])
  | _, _ => .fail

noncomputable def C_spec_l4Random__rs : Cfg := { y := tys, n := 45, h := 2, tab := [(54, c_spec_l17Rd_num), (87, c_spec_l17Rd_pick), (221, c_spec_RunProof), (256, c_spec_l4Step)], cut := [], hand := [], good := [], deep := [], sched := [] }

theorem t_spec_l4Random__rs : TabOk Tryz.prog C_spec_l4Random__rs := by
  refine tabOk_of ?_
  simp only [C_spec_l4Random__rs, List.forall_mem_cons]
  exact ⟨k_spec_l17Rd_num, k_spec_l17Rd_pick, k_spec_RunProof, k_spec_l4Step, fun p h => by cases h⟩

theorem k_spec_l4Random__rs : Entry Tryz.prog 220 c_spec_l4Random__rs := by
 refine entry_by (C := C_spec_l4Random__rs) mixed tys_ok t_spec_l4Random__rs (fn := Tryz.f220) (c := bd Tryz.f220) (by kernel_rfl) (by kernel_rfl) (by kernel_rfl) (by kernel_rfl) ?_
 intro args st k he
 unfold c_spec_l4Random__rs at he
 split at he
 rotate_left
 ·exact he.elim
 rename_i r__0 r__1 list_
 have he : Ok (spec_l4Random__rs (r__0, r__1) list_) (fun r => k (.c (.own 900 false)) [(0, .rc [.imm (.int .u8) r.1.1, .int .i64 r.1.2]), (1, .sl 89 y3_ list_ .shallow), (900, .sl 96 y6_ r.2 .shallow)]) := he
 refine ⟨rfl, rfl, ?_⟩
 refine go_bind he fun r1_ he => ?_
 refine loop_model mixed tys_ok t_spec_l4Random__rs (S := Int × D1_ × (List D6_)) (I := (fun (i, r_1, out) => (envOf [(0, .c (.ptr 0 0)), (1, .c (.own 1 false)), (5, .c (.own 10000000 false)), (6, .c (.int .i64 i))], [(0, .rc [.imm (.int .u8) r_1.1, .int .i64 r_1.2]), (1, .sl 89 y3_ list_ .shallow), (10000000, .sl 96 y6_ out .shallow)]))) (f := spec_l4Random__rs_l1 list_) (K := (fun r => k (.c (.own 900 false)) [(0, .rc [.imm (.int .u8) r.1.1, .int .i64 r.1.2]), (1, .sl 89 y3_ list_ .shallow), (900, .sl 96 y6_ r.2 .shallow)])) he (leads_ren [(10000000, 10)] rfl rfl ⟨⟨.inl rfl, rfl, trivial⟩, ⟨rfl, rfl⟩, ⟨rfl, rfl⟩, trivial⟩ ⟨⟨⟨rfl, rfl⟩, rfl⟩, ⟨⟨rfl, rfl⟩, trivial⟩, ⟨⟨rfl, rfl⟩, trivial⟩, rfl, trivial⟩) ?_
 rintro ⟨i, r_1, out⟩ J1 he
 refine go_if he (fun he => ?_) fun he => ?_
 ·refine go_rq he fun he => ?_
  refine go_rq he fun he => ?_
  refine go_bind he fun r5_ he => ?_
  refine go_rq he fun he => ?_
  refine go_bind he fun r6_ he => ?_
  refine go_if2 he (fun he => ?_) fun he => ?_
  ·refine go_bind he fun r7_ he => ?_
   refine go_if he (fun he => ?_) fun he => ?_
   ·refine go_rq he fun he => ?_
    have he := ok_some he
    exact ⟨((i - (1:Int)), r7_.2, ((([] : List D6_) ++ out) ++ [(r5_.2.1, (r5_.2.2.1, (r5_.2.2.2.1, (r5_.2.2.2.2.2, r5_.2.2.2.2.1))))])), he, (leads_ren [(10000000, 29)] rfl rfl ⟨⟨.inl rfl, rfl, trivial⟩, ⟨rfl, rfl⟩, ⟨rfl, rfl⟩, trivial⟩ ⟨⟨⟨rfl, rfl⟩, rfl⟩, ⟨⟨rfl, rfl⟩, trivial⟩, ⟨⟨rfl, rfl⟩, trivial⟩, rfl, trivial⟩)⟩
   ·refine go_rq he fun he => ?_
    have he := ok_some he
    exact ⟨((i - (1:Int)), r7_.2, out), he, (leads_ren [] rfl rfl ⟨⟨.inl rfl, rfl, trivial⟩, ⟨rfl, rfl⟩, ⟨rfl, rfl⟩, trivial⟩ ⟨⟨⟨rfl, rfl⟩, rfl⟩, ⟨⟨rfl, rfl⟩, trivial⟩, ⟨⟨rfl, rfl⟩, trivial⟩, rfl, trivial⟩)⟩
  ·refine go_rq he fun he => ?_
   have he := ok_some he
   exact ⟨((i - (1:Int)), r5_.1, ((([] : List D6_) ++ out) ++ [(r5_.2.1, (r5_.2.2.1, (r5_.2.2.2.1, (r5_.2.2.2.2.2, r5_.2.2.2.2.1))))])), he, (leads_ren [(10000000, 29)] rfl rfl ⟨⟨.inl rfl, rfl, trivial⟩, ⟨rfl, rfl⟩, ⟨rfl, rfl⟩, trivial⟩ ⟨⟨⟨rfl, rfl⟩, rfl⟩, ⟨⟨rfl, rfl⟩, trivial⟩, ⟨⟨rfl, rfl⟩, trivial⟩, rfl, trivial⟩)⟩
 ·have he := ok_some he
  exact ⟨rfl, _, _, (leads_ren [(900, 10000000)] (l := [(4, .c (.own 900 false))]) (st' := [(0, .rc [.imm (.int .u8) r_1.1, .int .i64 r_1.2]), (1, .sl 89 y3_ list_ .shallow), (900, .sl 96 y6_ out .shallow)]) rfl rfl ⟨⟨.inl rfl, rfl, trivial⟩, ⟨rfl, rfl⟩, ⟨rfl, rfl⟩, trivial⟩ ⟨⟨⟨rfl, rfl⟩, trivial⟩, trivial⟩), he⟩

noncomputable def c_spec_l4Pair : Con := fun args st => match args, st with
  | [.c (.ptr 0 0)], [(0, .rc [.imm (.int .u8) r__0, .int .i64 r__1])] => .opt ((List D3_) × D1_ × (List D6_)) (spec_l4Pair (r__0, r__1)) (fun r => .ret (.tup [.c (.imm y3_ r.1), .c (.own 900 false)]) [(0, .rc [.imm (.int .u8) r.2.1.1, .int .i64 r.2.1.2]), (900, .sl 96 y6_ r.2.2 .shallow)])
  | _, _ => .fail

noncomputable def C_spec_l4Pair : Cfg := { y := tys, n := 20, h := 1, tab := [(87, c_spec_l17Rd_pick), (104, c_spec_l3Mutate), (158, c_spec_l4Refuted), (219, c_spec_l3Problem), (220, c_spec_l4Random__rs)], cut := [], hand := [(220, [1])], good := [], deep := [], sched := [] }

theorem t_spec_l4Pair : TabOk Tryz.prog C_spec_l4Pair := by
  refine tabOk_of ?_
  simp only [C_spec_l4Pair, List.forall_mem_cons]
  exact ⟨k_spec_l17Rd_pick, k_spec_l3Mutate, k_spec_l4Refuted, k_spec_l3Problem, k_spec_l4Random__rs, fun p h => by cases h⟩

theorem k_spec_l4Pair : Entry Tryz.prog 157 c_spec_l4Pair := by
 refine entry_by (C := C_spec_l4Pair) mixed tys_ok t_spec_l4Pair (fn := Tryz.f157) (c := bd Tryz.f157) (by kernel_rfl) (by kernel_rfl) (by kernel_rfl) (by kernel_rfl) ?_
 intro args st k he
 unfold c_spec_l4Pair at he
 split at he
 rotate_left
 ·exact he.elim
 rename_i r__0 r__1
 have he : Ok (spec_l4Pair (r__0, r__1)) (fun r => k (.tup [.c (.imm y3_ r.1), .c (.own 900 false)]) [(0, .rc [.imm (.int .u8) r.2.1.1, .int .i64 r.2.1.2]), (900, .sl 96 y6_ r.2.2 .shallow)]) := he
 refine ⟨rfl, rfl, ?_⟩
 refine go_bind he fun r1_ he => ?_
 refine go_if he (fun he => ?_) fun he => ?_
 ·refine go_bind he fun r2_ he => ?_
  have he := ok_some he
  exact ⟨rfl, _, _, (leads_ren [(900, 10900)] (l := [(2, .c (.imm y3_ r2_.1)), (3, .c (.own 900 false))]) (st' := [(0, .rc [.imm (.int .u8) r2_.2.1.1, .int .i64 r2_.2.1.2]), (900, .sl 96 y6_ r2_.2.2 .shallow)]) rfl rfl ⟨⟨.inl rfl, rfl, trivial⟩, ⟨rfl, rfl⟩, trivial⟩ ⟨.inl rfl, ⟨⟨rfl, rfl⟩, trivial⟩, trivial⟩), he⟩
 ·refine go_bind he fun r3_ he => ?_
  refine go_bind he fun r4_ he => ?_
  refine go_bind he fun r5_ he => ?_
  have he := ok_some he
  exact ⟨rfl, _, _, ((leads_freeze [16900]).trans (leads_ren [(900, 20900)] (l := [(2, .c (.imm y3_ r4_.2)), (3, .c (.own 900 false))]) (st' := [(0, .rc [.imm (.int .u8) r5_.1.1, .int .i64 r5_.1.2]), (900, .sl 96 y6_ r5_.2 .shallow)]) rfl rfl ⟨⟨.inl rfl, rfl, trivial⟩, ⟨rfl, rfl⟩, trivial⟩ ⟨.inr (.inr ⟨_, _, _, rfl, rfl⟩), ⟨⟨rfl, rfl⟩, trivial⟩, trivial⟩)), he⟩

noncomputable def c_spec_DrawTrimProof : Con := fun args st => match args, st with
  | [.c (.imm (.int .u8) code)], [] => .opt ((List D3_) × (List D6_)) (spec_DrawTrimProof code) (fun r => .ret (.tup [.c (.imm y3_ r.1), .c (.own 900 false)]) [(900, .sl 96 y6_ r.2 .shallow)])
  | _, _ => .fail

noncomputable def C_spec_DrawTrimProof : Cfg := { y := tys, n := 18, h := 0, tab := [(50, c_spec_l17Open), (87, c_spec_l17Rd_pick), (157, c_spec_l4Pair), (158, c_spec_l4Refuted)], cut := [], hand := [], good := [], deep := [], sched := [] }

theorem t_spec_DrawTrimProof : TabOk Tryz.prog C_spec_DrawTrimProof := by
  refine tabOk_of ?_
  simp only [C_spec_DrawTrimProof, List.forall_mem_cons]
  exact ⟨k_spec_l17Open, k_spec_l17Rd_pick, k_spec_l4Pair, k_spec_l4Refuted, fun p h => by cases h⟩

theorem k_spec_DrawTrimProof : Entry Tryz.prog 97 c_spec_DrawTrimProof := by
 refine entry_by (C := C_spec_DrawTrimProof) mixed tys_ok t_spec_DrawTrimProof (fn := Tryz.f97) (c := bd Tryz.f97) (by kernel_rfl) (by kernel_rfl) (by kernel_rfl) (by kernel_rfl) ?_
 intro args st k he
 unfold c_spec_DrawTrimProof at he
 split at he
 rotate_left
 ·exact he.elim
 rename_i code
 have he : Ok (spec_DrawTrimProof code) (fun r => k (.tup [.c (.imm y3_ r.1), .c (.own 900 false)]) [(900, .sl 96 y6_ r.2 .shallow)]) := he
 refine ⟨rfl, rfl, ?_⟩
 refine go_bind he fun r1_ he => ?_
 refine go_bind he fun r2_ he => ?_
 refine go_if he (fun he => ?_) fun he => ?_
 ·refine go_bind he fun r3_ he => ?_
  have he := ok_some he
  exact ⟨rfl, _, _, (leads_ren [(900, 12900)] (l := [(2, .c (.imm y3_ r3_.1)), (3, .c (.own 900 false))]) (st' := [(900, .sl 96 y6_ r3_.2.2 .shallow)]) rfl rfl ⟨⟨rfl, rfl⟩, trivial⟩ ⟨.inl rfl, ⟨⟨rfl, rfl⟩, trivial⟩, trivial⟩), he⟩
 ·refine go_bind he fun r4_ he => ?_
  have he := ok_some he
  exact ⟨rfl, _, _, (leads_ren [(900, 16900)] (l := [(2, .c (.imm y3_ r4_.1)), (3, .c (.own 900 false))]) (st' := [(900, .sl 96 y6_ r4_.2.2 .shallow)]) rfl rfl ⟨⟨rfl, rfl⟩, trivial⟩ ⟨.inl rfl, ⟨⟨rfl, rfl⟩, trivial⟩, trivial⟩), he⟩

noncomputable def c_spec_DrawUsedInputs : Con := fun args st => match args, st with
  | [.c (.imm (.int .u8) code)], [] => .opt ((List D3_) × (List D6_)) (spec_DrawUsedInputs code) (fun r => .ret (.tup [.c (.imm y3_ r.1), .c (.own 900 false)]) [(900, .sl 96 y6_ r.2 .shallow)])
  | _, _ => .fail

noncomputable def C_spec_DrawUsedInputs : Cfg := { y := tys, n := 8, h := 0, tab := [(97, c_spec_DrawTrimProof)], cut := [], hand := [], good := [], deep := [], sched := [] }

theorem t_spec_DrawUsedInputs : TabOk Tryz.prog C_spec_DrawUsedInputs := by
  refine tabOk_of ?_
  simp only [C_spec_DrawUsedInputs, List.forall_mem_cons]
  exact ⟨k_spec_DrawTrimProof, fun p h => by cases h⟩

theorem k_spec_DrawUsedInputs : Entry Tryz.prog 38 c_spec_DrawUsedInputs := by
 refine entry_by (C := C_spec_DrawUsedInputs) mixed tys_ok t_spec_DrawUsedInputs (fn := Tryz.f38) (c := bd Tryz.f38) (by kernel_rfl) (by kernel_rfl) (by kernel_rfl) (by kernel_rfl) ?_
 intro args st k he
 unfold c_spec_DrawUsedInputs at he
 split at he
 rotate_left
 ·exact he.elim
 rename_i code
 have he : Ok (spec_DrawUsedInputs code) (fun r => k (.tup [.c (.imm y3_ r.1), .c (.own 900 false)]) [(900, .sl 96 y6_ r.2 .shallow)]) := he
 refine ⟨rfl, rfl, ?_⟩
 refine go_bind he fun r1_ he => ?_
 have he := ok_some he
 exact ⟨rfl, _, _, (leads_ren [(900, 6900)] (l := [(2, .c (.imm y3_ r1_.1)), (3, .c (.own 900 false))]) (st' := [(900, .sl 96 y6_ r1_.2 .shallow)]) rfl rfl ⟨⟨rfl, rfl⟩, trivial⟩ ⟨.inl rfl, ⟨⟨rfl, rfl⟩, trivial⟩, trivial⟩), he⟩

noncomputable def c_impl_within : Con := fun args st => match args, st with
  | [.c (.int .i64 n), .c (.int .i64 low), .c (.int .i64 high)], [] => .opt (Bool) (impl_within n low high) (fun r => .ret (.c (.bool r)) [])
  | _, _ => .fail

noncomputable def C_impl_within : Cfg := { y := tys, n := 15, h := 0, tab := [], cut := [], hand := [], good := [], deep := [], sched := [] }

theorem t_impl_within : TabOk Tryz.prog C_impl_within := tabOk_of (fun p h => by cases h)

theorem k_impl_within : Entry Tryz.prog 127 c_impl_within := by
 refine entry_by (C := C_impl_within) mixed tys_ok t_impl_within (fn := Tryz.f127) (c := bd Tryz.f127) (by kernel_rfl) (by kernel_rfl) (by kernel_rfl) (by kernel_rfl) ?_
 intro args st k he
 unfold c_impl_within at he
 split at he
 rotate_left
 ·exact he.elim
 rename_i n low high
 have he : Ok (impl_within n low high) (fun r => k (.c (.bool r)) []) := he
 refine ⟨rfl, rfl, ?_⟩
 refine go_if he (fun he => ?_) fun he => ?_
 ·have he := ok_some he
  exact ⟨rfl, _, _, Leads.refl _ _, he⟩
 ·have he := ok_some he
  exact ⟨rfl, _, _, Leads.refl _ _, he⟩

noncomputable def c_impl_isLiteral : Con := fun args st => match args, st with
  | [.c (.int .i64 l)], [] => .opt (Bool) (impl_isLiteral l) (fun r => .ret (.c (.bool r)) [])
  | _, _ => .fail

noncomputable def C_impl_isLiteral : Cfg := { y := tys, n := 9, h := 0, tab := [(127, c_impl_within)], cut := [], hand := [], good := [], deep := [], sched := [] }

theorem t_impl_isLiteral : TabOk Tryz.prog C_impl_isLiteral := by
  refine tabOk_of ?_
  simp only [C_impl_isLiteral, List.forall_mem_cons]
  exact ⟨k_impl_within, fun p h => by cases h⟩

theorem k_impl_isLiteral : Entry Tryz.prog 177 c_impl_isLiteral := by
 refine entry_by (C := C_impl_isLiteral) mixed tys_ok t_impl_isLiteral (fn := Tryz.f177) (c := bd Tryz.f177) (by kernel_rfl) (by kernel_rfl) (by kernel_rfl) (by kernel_rfl) ?_
 intro args st k he
 unfold c_impl_isLiteral at he
 split at he
 rotate_left
 ·exact he.elim
 rename_i l
 have he : Ok (impl_isLiteral l) (fun r => k (.c (.bool r)) []) := he
 refine ⟨rfl, rfl, ?_⟩
 refine go_if he (fun he => ?_) fun he => ?_
 ·refine go_bind he fun r1_ he => ?_
  have he := ok_some he
  exact ⟨rfl, _, _, Leads.refl _ _, he⟩
 ·have he := ok_some he
  exact ⟨rfl, _, _, Leads.refl _ _, he⟩

noncomputable def c_impl_variableOf : Con := fun args st => match args, st with
  | [.c (.int .i64 l)], [] => .opt (Int) (impl_variableOf l) (fun r => .ret (.c (.int .i64 r)) [])
  | _, _ => .fail

noncomputable def C_impl_variableOf : Cfg := { y := tys, n := 7, h := 0, tab := [], cut := [], hand := [], good := [], deep := [], sched := [] }

theorem t_impl_variableOf : TabOk Tryz.prog C_impl_variableOf := tabOk_of (fun p h => by cases h)

theorem k_impl_variableOf : Entry Tryz.prog 170 c_impl_variableOf := by
 refine entry_by (C := C_impl_variableOf) mixed tys_ok t_impl_variableOf (fn := Tryz.f170) (c := bd Tryz.f170) (by kernel_rfl) (by kernel_rfl) (by kernel_rfl) (by kernel_rfl) ?_
 intro args st k he
 unfold c_impl_variableOf at he
 split at he
 rotate_left
 ·exact he.elim
 rename_i l
 have he : Ok (impl_variableOf l) (fun r => k (.c (.int .i64 r)) []) := he
 refine ⟨rfl, rfl, ?_⟩
 refine go_rq he fun he => ?_
 have he := ok_some he
 exact ⟨rfl, _, _, Leads.refl _ _, he⟩

noncomputable def c_impl_ConstraintValid : Con := fun args st => match args, st with
  | [.agg [.imm (.pair (.int .i64) (.int .i64)) c__0, .int .i64 c__1]], [] => .opt (Bool) (impl_ConstraintValid (c__0, c__1)) (fun r => .ret (.c (.bool r)) [])
  | _, _ => .fail

noncomputable def C_impl_ConstraintValid : Cfg := { y := tys, n := 37, h := 0, tab := [(127, c_impl_within), (170, c_impl_variableOf), (177, c_impl_isLiteral)], cut := [], hand := [], good := [], deep := [], sched := [] }

theorem t_impl_ConstraintValid : TabOk Tryz.prog C_impl_ConstraintValid := by
  refine tabOk_of ?_
  simp only [C_impl_ConstraintValid, List.forall_mem_cons]
  exact ⟨k_impl_within, k_impl_variableOf, k_impl_isLiteral, fun p h => by cases h⟩

theorem k_impl_ConstraintValid : Entry Tryz.prog 223 c_impl_ConstraintValid := by
 refine entry_by (C := C_impl_ConstraintValid) mixed tys_ok t_impl_ConstraintValid (fn := Tryz.f223) (c := bd Tryz.f223) (by kernel_rfl) (by kernel_rfl) (by kernel_rfl) (by kernel_rfl) ?_
 intro args st k he
 unfold c_impl_ConstraintValid at he
 split at he
 rotate_left
 ·exact he.elim
 rename_i c__0 c__1
 have he : Ok (impl_ConstraintValid (c__0, c__1)) (fun r => k (.c (.bool r)) []) := he
 refine ⟨rfl, rfl, ?_⟩
 refine loop_model mixed tys_ok t_impl_ConstraintValid (S := Int × Int) (I := (fun (before, i) => (envOf [(1, .c (.ptr 10000000 0)), (3, .c (.int .i64 before)), (7, .c (.imm y2_ (c__0, c__1).1)), (8, .c (.int .i64 ((c__0, c__1).1.length:Int))), (9, .c (.int .i64 i))], [(10000000, .rc [.imm y2_ (c__0, c__1).1, .int .i64 (c__0, c__1).2])]))) (f := impl_ConstraintValid_l1 (c__0, c__1)) (K := (fun r => k (.c (.bool r)) [])) he (leads_ren [(10000000, 1)] rfl rfl ⟨⟨.inl rfl, rfl, trivial⟩, trivial⟩ ⟨⟨⟨rfl, rfl⟩, rfl⟩, rfl, .inl rfl, rfl, rfl, trivial⟩) ?_
 rintro ⟨before, i⟩ J1 he
 refine go_if he (fun he => ?_) fun he => ?_
 ·refine go_rq he fun he => ?_
  refine go_bind he fun r1_ he => ?_
  refine go_if2 he (fun he => ?_) fun he => ?_
  ·refine go_bind he fun r2_ he => ?_
   refine go_if2 he (fun he => ?_) fun he => ?_
   ·refine go_bind he fun r3_ he => ?_
    refine go_if he (fun he => ?_) fun he => ?_
    ·have he := ok_some he
     exact ⟨rfl, _, _, (leads_ren [] (l := [(2, .c (.bool false))]) (st' := []) rfl rfl trivial ⟨.inr rfl, trivial⟩), he⟩
    ·refine go_bind he fun r4_ he => ?_
     refine go_rq he fun he => ?_
     have he := ok_some he
     exact ⟨(r4_, (i + (1:Int))), he, (leads_ren [] rfl rfl ⟨⟨.inl rfl, rfl, trivial⟩, trivial⟩ ⟨⟨⟨rfl, rfl⟩, rfl⟩, rfl, .inl rfl, rfl, rfl, trivial⟩)⟩
   ·have he := ok_some he
    exact ⟨rfl, _, _, (leads_ren [] (l := [(2, .c (.bool false))]) (st' := []) rfl rfl trivial ⟨.inr rfl, trivial⟩), he⟩
  ·have he := ok_some he
   exact ⟨rfl, _, _, (leads_ren [] (l := [(2, .c (.bool false))]) (st' := []) rfl rfl trivial ⟨.inr rfl, trivial⟩), he⟩
 ·refine go_bind he fun r5_ he => ?_
  have he := ok_some he
  exact ⟨rfl, _, _, (leads_ren [] (l := [(2, .c (.bool r5_))]) (st' := []) rfl rfl trivial ⟨.inl rfl, trivial⟩), he⟩

noncomputable def c_impl_allValid_1 : Con := fun args st => match args, st with
  | [.agg [.imm (.pair (.int .i64) (.int .i64)) c__0, .int .i64 c__1]], [] => .opt (Bool) (impl_allValid_1 (c__0, c__1)) (fun r => .ret (.c (.bool r)) [])
  | _, _ => .fail

noncomputable def C_impl_allValid_1 : Cfg := { y := tys, n := 6, h := 0, tab := [(223, c_impl_ConstraintValid)], cut := [], hand := [], good := [], deep := [], sched := [] }

theorem t_impl_allValid_1 : TabOk Tryz.prog C_impl_allValid_1 := by
  refine tabOk_of ?_
  simp only [C_impl_allValid_1, List.forall_mem_cons]
  exact ⟨k_impl_ConstraintValid, fun p h => by cases h⟩

theorem k_impl_allValid_1 : Entry Tryz.prog 222 c_impl_allValid_1 := by
 refine entry_by (C := C_impl_allValid_1) mixed tys_ok t_impl_allValid_1 (fn := Tryz.f222) (c := bd Tryz.f222) (by kernel_rfl) (by kernel_rfl) (by kernel_rfl) (by kernel_rfl) ?_
 intro args st k he
 unfold c_impl_allValid_1 at he
 split at he
 rotate_left
 ·exact he.elim
 rename_i c__0 c__1
 have he : Ok (impl_allValid_1 (c__0, c__1)) (fun r => k (.c (.bool r)) []) := he
 refine ⟨rfl, rfl, ?_⟩
 refine go_bind he fun r1_ he => ?_
 have he := ok_some he
 exact ⟨rfl, _, _, (leads_ren [] (l := [(2, .c (.bool (!r1_)))]) (st' := []) rfl rfl trivial ⟨.inl rfl, trivial⟩), he⟩

noncomputable def c_slices_IndexFunc_impl_Constraint__impl_allValid_1 : Con := fun args st => match args, st with
  | [.c (.imm (.pair (.sl (.pair (.int .i64) (.int .i64))) (.int .i64)) s_), .c (.fn 222 [])], [] => .opt (Int) (slices_IndexFunc_impl_Constraint__impl_allValid_1 s_) (fun r => .ret (.c (.int .i64 r)) [])
  | _, _ => .fail

noncomputable def C_slices_IndexFunc_impl_Constraint__impl_allValid_1 : Cfg := { y := tys, n := 19, h := 0, tab := [(222, c_impl_allValid_1)], cut := [], hand := [], good := [], deep := [], sched := [] }

theorem t_slices_IndexFunc_impl_Constraint__impl_allValid_1 : TabOk Tryz.prog C_slices_IndexFunc_impl_Constraint__impl_allValid_1 := by
  refine tabOk_of ?_
  simp only [C_slices_IndexFunc_impl_Constraint__impl_allValid_1, List.forall_mem_cons]
  exact ⟨k_impl_allValid_1, fun p h => by cases h⟩

theorem k_slices_IndexFunc_impl_Constraint__impl_allValid_1 : Entry Tryz.prog 225 c_slices_IndexFunc_impl_Constraint__impl_allValid_1 := by
 refine entry_by (C := C_slices_IndexFunc_impl_Constraint__impl_allValid_1) mixed tys_ok t_slices_IndexFunc_impl_Constraint__impl_allValid_1 (fn := Tryz.f225) (c := bd Tryz.f225) (by kernel_rfl) (by kernel_rfl) (by kernel_rfl) (by kernel_rfl) ?_
 intro args st k he
 unfold c_slices_IndexFunc_impl_Constraint__impl_allValid_1 at he
 split at he
 rotate_left
 ·exact he.elim
 rename_i s_
 have he : Ok (slices_IndexFunc_impl_Constraint__impl_allValid_1 s_) (fun r => k (.c (.int .i64 r)) []) := he
 refine ⟨rfl, rfl, ?_⟩
 refine loop_model mixed tys_ok t_slices_IndexFunc_impl_Constraint__impl_allValid_1 (S := Int) (I := (fun i => (envOf [(0, .c (.imm y3_ s_)), (1, .c (.fn 222 [])), (7, .c (.int .i64 (s_.length:Int))), (8, .c (.int .i64 i))], []))) (f := slices_IndexFunc_impl_Constraint__impl_allValid_1_l1 s_) (K := (fun r => k (.c (.int .i64 r)) [])) he (leads_ren [] rfl rfl trivial ⟨.inl rfl, ⟨rfl, trivial⟩, rfl, rfl, trivial⟩) ?_
 rintro i J1 he
 refine go_if he (fun he => ?_) fun he => ?_
 ·refine go_rq he fun he => ?_
  refine go_bind he fun r1_ he => ?_
  refine go_if he (fun he => ?_) fun he => ?_
  ·have he := ok_some he
   exact ⟨rfl, _, _, Leads.refl _ _, he⟩
  ·refine go_rq he fun he => ?_
   have he := ok_some he
   exact ⟨(i + (1:Int)), he, (leads_ren [] rfl rfl trivial ⟨.inl rfl, ⟨rfl, trivial⟩, rfl, rfl, trivial⟩)⟩
 ·have he := ok_some he
  exact ⟨rfl, _, _, Leads.refl _ _, he⟩

noncomputable def c_slices_ContainsFunc_impl_Constraint__impl_allValid_1 : Con := fun args st => match args, st with
  | [.c (.imm (.pair (.sl (.pair (.int .i64) (.int .i64))) (.int .i64)) s_), .c (.fn 222 [])], [] => .opt (Bool) (slices_ContainsFunc_impl_Constraint__impl_allValid_1 s_) (fun r => .ret (.c (.bool r)) [])
  | _, _ => .fail

noncomputable def C_slices_ContainsFunc_impl_Constraint__impl_allValid_1 : Cfg := { y := tys, n := 9, h := 0, tab := [(225, c_slices_IndexFunc_impl_Constraint__impl_allValid_1)], cut := [], hand := [], good := [], deep := [], sched := [] }

theorem t_slices_ContainsFunc_impl_Constraint__impl_allValid_1 : TabOk Tryz.prog C_slices_ContainsFunc_impl_Constraint__impl_allValid_1 := by
  refine tabOk_of ?_
  simp only [C_slices_ContainsFunc_impl_Constraint__impl_allValid_1, List.forall_mem_cons]
  exact ⟨k_slices_IndexFunc_impl_Constraint__impl_allValid_1, fun p h => by cases h⟩

theorem k_slices_ContainsFunc_impl_Constraint__impl_allValid_1 : Entry Tryz.prog 161 c_slices_ContainsFunc_impl_Constraint__impl_allValid_1 := by
 refine entry_by (C := C_slices_ContainsFunc_impl_Constraint__impl_allValid_1) mixed tys_ok t_slices_ContainsFunc_impl_Constraint__impl_allValid_1 (fn := Tryz.f161) (c := bd Tryz.f161) (by kernel_rfl) (by kernel_rfl) (by kernel_rfl) (by kernel_rfl) ?_
 intro args st k he
 unfold c_slices_ContainsFunc_impl_Constraint__impl_allValid_1 at he
 split at he
 rotate_left
 ·exact he.elim
 rename_i s_
 have he : Ok (slices_ContainsFunc_impl_Constraint__impl_allValid_1 s_) (fun r => k (.c (.bool r)) []) := he
 refine ⟨rfl, rfl, ?_⟩
 refine go_bind he fun r1_ he => ?_
 have he := ok_some he
 exact ⟨rfl, _, _, Leads.refl _ _, he⟩

noncomputable def c_impl_allValid : Con := fun args st => match args, st with
  | [.c (.imm (.pair (.sl (.pair (.int .i64) (.int .i64))) (.int .i64)) list_)], [] => .opt (Bool) (impl_allValid list_) (fun r => .ret (.c (.bool r)) [])
  | _, _ => .fail

noncomputable def C_impl_allValid : Cfg := { y := tys, n := 6, h := 0, tab := [(161, c_slices_ContainsFunc_impl_Constraint__impl_allValid_1)], cut := [], hand := [], good := [], deep := [], sched := [] }

theorem t_impl_allValid : TabOk Tryz.prog C_impl_allValid := by
  refine tabOk_of ?_
  simp only [C_impl_allValid, List.forall_mem_cons]
  exact ⟨k_slices_ContainsFunc_impl_Constraint__impl_allValid_1, fun p h => by cases h⟩

theorem k_impl_allValid : Entry Tryz.prog 159 c_impl_allValid := by
 refine entry_by (C := C_impl_allValid) mixed tys_ok t_impl_allValid (fn := Tryz.f159) (c := bd Tryz.f159) (by kernel_rfl) (by kernel_rfl) (by kernel_rfl) (by kernel_rfl) ?_
 intro args st k he
 unfold c_impl_allValid at he
 split at he
 rotate_left
 ·exact he.elim
 rename_i list_
 have he : Ok (impl_allValid list_) (fun r => k (.c (.bool r)) []) := he
 refine ⟨rfl, rfl, ?_⟩
 refine go_bind he fun r1_ he => ?_
 have he := ok_some he
 exact ⟨rfl, _, _, Leads.refl _ _, he⟩

noncomputable def c_impl_ProblemValid : Con := fun args st => match args, st with
  | [.c (.imm (.pair (.sl (.pair (.int .i64) (.int .i64))) (.int .i64)) list_)], [] => .opt (Bool) (impl_ProblemValid list_) (fun r => .ret (.c (.bool r)) [])
  | _, _ => .fail

noncomputable def C_impl_ProblemValid : Cfg := { y := tys, n := 10, h := 0, tab := [(159, c_impl_allValid)], cut := [], hand := [], good := [], deep := [], sched := [] }

theorem t_impl_ProblemValid : TabOk Tryz.prog C_impl_ProblemValid := by
  refine tabOk_of ?_
  simp only [C_impl_ProblemValid, List.forall_mem_cons]
  exact ⟨k_impl_allValid, fun p h => by cases h⟩

theorem k_impl_ProblemValid : Entry Tryz.prog 98 c_impl_ProblemValid := by
 refine entry_by (C := C_impl_ProblemValid) mixed tys_ok t_impl_ProblemValid (fn := Tryz.f98) (c := bd Tryz.f98) (by kernel_rfl) (by kernel_rfl) (by kernel_rfl) (by kernel_rfl) ?_
 intro args st k he
 unfold c_impl_ProblemValid at he
 split at he
 rotate_left
 ·exact he.elim
 rename_i list_
 have he : Ok (impl_ProblemValid list_) (fun r => k (.c (.bool r)) []) := he
 refine ⟨rfl, rfl, ?_⟩
 refine go_if he (fun he => ?_) fun he => ?_
 ·refine go_bind he fun r1_ he => ?_
  have he := ok_some he
  exact ⟨rfl, _, _, Leads.refl _ _, he⟩
 ·have he := ok_some he
  exact ⟨rfl, _, _, Leads.refl _ _, he⟩

noncomputable def c_slices_Clone_impl_Constraint : Con := fun args st => match args, st with
  | [.c (.imm (.pair (.sl (.pair (.int .i64) (.int .i64))) (.int .i64)) s_)], [] => .opt ((List D3_)) (slices_Clone_impl_Constraint s_) (fun r => .ret (.c (.own 900 false)) [(900, .sl 89 y3_ r .shallow)])
  | _, _ => .fail

noncomputable def C_slices_Clone_impl_Constraint : Cfg := { y := tys, n := 8, h := 0, tab := [], cut := [], hand := [], good := [], deep := [], sched := [] }

theorem t_slices_Clone_impl_Constraint : TabOk Tryz.prog C_slices_Clone_impl_Constraint := tabOk_of (fun p h => by cases h)

theorem k_slices_Clone_impl_Constraint : Entry Tryz.prog 61 c_slices_Clone_impl_Constraint := by
 refine entry_by (C := C_slices_Clone_impl_Constraint) mixed tys_ok t_slices_Clone_impl_Constraint (fn := Tryz.f61) (c := bd Tryz.f61) (by kernel_rfl) (by kernel_rfl) (by kernel_rfl) (by kernel_rfl) ?_
 intro args st k he
 unfold c_slices_Clone_impl_Constraint at he
 split at he
 rotate_left
 ·exact he.elim
 rename_i s_
 have he : Ok (slices_Clone_impl_Constraint s_) (fun r => k (.c (.own 900 false)) [(900, .sl 89 y3_ r .shallow)]) := he
 refine ⟨rfl, rfl, ?_⟩
 refine fun b1_ hb1_ => ?_
 have he := ok_nt he hb1_
 refine And.intro (fun hb => ?_) (fun hb => ?_)
 ·have he := ok_t he hb
  have he := ok_some he
  exact ⟨rfl, _, _, (leads_ren [] (l := [(2, .c (.own 900 false))]) (st' := [(900, .sl 89 y3_ ([] : List D3_) .shallow)]) rfl rfl ⟨trivial, trivial⟩ ⟨⟨rfl, trivial⟩, trivial⟩), he⟩
 ·have he := ok_f he hb
  refine go_rq he fun he => ?_
  have he := ok_some he
  exact ⟨rfl, _, _, (leads_ren [(900, 7)] (l := [(2, .c (.own 900 false))]) (st' := [(900, .sl 89 y3_ (([] : List D3_) ++ s_) .shallow)]) rfl rfl ⟨⟨rfl, rfl⟩, trivial⟩ ⟨⟨⟨rfl, rfl⟩, trivial⟩, trivial⟩), he⟩

noncomputable def c_impl_refers : Con := fun args st => match args, st with
  | [.c (.int .i64 kind)], [] => .opt (Int × Bool) (impl_refers kind) (fun r => .ret (.tup [.c (.int .i64 r.1), .c (.bool r.2)]) [])
  | _, _ => .fail

noncomputable def C_impl_refers : Cfg := { y := tys, n := 17, h := 0, tab := [], cut := [], hand := [], good := [], deep := [], sched := [] }

theorem t_impl_refers : TabOk Tryz.prog C_impl_refers := tabOk_of (fun p h => by cases h)

theorem k_impl_refers : Entry Tryz.prog 155 c_impl_refers := by
 refine entry_by (C := C_impl_refers) mixed tys_ok t_impl_refers (fn := Tryz.f155) (c := bd Tryz.f155) (by kernel_rfl) (by kernel_rfl) (by kernel_rfl) (by kernel_rfl) ?_
 intro args st k he
 unfold c_impl_refers at he
 split at he
 rotate_left
 ·exact he.elim
 rename_i kind
 have he : Ok (impl_refers kind) (fun r => k (.tup [.c (.int .i64 r.1), .c (.bool r.2)]) []) := he
 refine ⟨rfl, rfl, ?_⟩
 refine go_if he (fun he => ?_) fun he => ?_
 ·have he := ok_some he
  exact ⟨rfl, _, _, Leads.refl _ _, he⟩
 ·refine go_if he (fun he => ?_) fun he => ?_
  ·have he := ok_some he
   exact ⟨rfl, _, _, Leads.refl _ _, he⟩
  ·refine go_if he (fun he => ?_) fun he => ?_
   ·have he := ok_some he
    exact ⟨rfl, _, _, Leads.refl _ _, he⟩
   ·refine go_if he (fun he => ?_) fun he => ?_
    ·have he := ok_some he
     exact ⟨rfl, _, _, Leads.refl _ _, he⟩
    ·refine go_if he (fun he => ?_) fun he => ?_
     ·have he := ok_some he
      exact ⟨rfl, _, _, Leads.refl _ _, he⟩
     ·refine go_if he (fun he => ?_) fun he => ?_
      ·have he := ok_some he
       exact ⟨rfl, _, _, Leads.refl _ _, he⟩
      ·refine go_if he (fun he => ?_) fun he => ?_
       ·have he := ok_some he
        exact ⟨rfl, _, _, Leads.refl _ _, he⟩
       ·refine go_if he (fun he => ?_) fun he => ?_
        ·have he := ok_some he
         exact ⟨rfl, _, _, Leads.refl _ _, he⟩
        ·have he := ok_some he
         exact ⟨rfl, _, _, Leads.refl _ _, he⟩

noncomputable def c_slices_Equal_impl_Term : Con := fun args st => match args, st with
  | [.c (.imm (.pair (.int .i64) (.int .i64)) s1_), .c (.imm (.pair (.int .i64) (.int .i64)) s2_)], [] => .opt (Bool) (slices_Equal_impl_Term s1_ s2_) (fun r => .ret (.c (.bool r)) [])
  | _, _ => .fail

noncomputable def C_slices_Equal_impl_Term : Cfg := { y := tys, n := 26, h := 0, tab := [], cut := [], hand := [], good := [], deep := [], sched := [] }

theorem t_slices_Equal_impl_Term : TabOk Tryz.prog C_slices_Equal_impl_Term := tabOk_of (fun p h => by cases h)

theorem k_slices_Equal_impl_Term : Entry Tryz.prog 137 c_slices_Equal_impl_Term := by
 refine entry_by (C := C_slices_Equal_impl_Term) mixed tys_ok t_slices_Equal_impl_Term (fn := Tryz.f137) (c := bd Tryz.f137) (by kernel_rfl) (by kernel_rfl) (by kernel_rfl) (by kernel_rfl) ?_
 intro args st k he
 unfold c_slices_Equal_impl_Term at he
 split at he
 rotate_left
 ·exact he.elim
 rename_i s1_ s2_
 have he : Ok (slices_Equal_impl_Term s1_ s2_) (fun r => k (.c (.bool r)) []) := he
 refine ⟨rfl, rfl, ?_⟩
 refine go_if he (fun he => ?_) fun he => ?_
 ·have he := ok_some he
  exact ⟨rfl, _, _, Leads.refl _ _, he⟩
 ·refine loop_model mixed tys_ok t_slices_Equal_impl_Term (S := Int) (I := (fun i => (envOf [(0, .c (.imm y2_ s1_)), (1, .c (.imm y2_ s2_)), (12, .c (.int .i64 (s1_.length:Int))), (13, .c (.int .i64 i))], []))) (f := slices_Equal_impl_Term_l1 s1_ s2_) (K := (fun r => k (.c (.bool r)) [])) he (leads_ren [] rfl rfl trivial ⟨.inl rfl, .inl rfl, rfl, rfl, trivial⟩) ?_
  rintro i J1 he
  refine go_if he (fun he => ?_) fun he => ?_
  ·refine And.intro (by kernel_rfl) ?_
   refine go_rq he fun he => ?_
   refine go_rq he fun he => ?_
   refine go_if he (fun he => ?_) fun he => ?_
   ·have he := ok_some he
    exact ⟨rfl, _, _, Leads.refl _ _, he⟩
   ·refine go_rq he fun he => ?_
    have he := ok_some he
    exact ⟨(i + (1:Int)), he, (leads_ren [] rfl rfl trivial ⟨.inl rfl, .inl rfl, rfl, rfl, trivial⟩)⟩
  ·have he := ok_some he
   exact ⟨rfl, _, _, Leads.refl _ _, he⟩

noncomputable def c_impl_ConstraintSame : Con := fun args st => match args, st with
  | [.agg [.imm (.pair (.int .i64) (.int .i64)) a_0, .int .i64 a_1], .agg [.imm (.pair (.int .i64) (.int .i64)) b_0, .int .i64 b_1]], [] => .opt (Bool) (impl_ConstraintSame (a_0, a_1) (b_0, b_1)) (fun r => .ret (.c (.bool r)) [])
  | _, _ => .fail

noncomputable def C_impl_ConstraintSame : Cfg := { y := tys, n := 17, h := 0, tab := [(137, c_slices_Equal_impl_Term)], cut := [], hand := [], good := [], deep := [], sched := [] }

theorem t_impl_ConstraintSame : TabOk Tryz.prog C_impl_ConstraintSame := by
  refine tabOk_of ?_
  simp only [C_impl_ConstraintSame, List.forall_mem_cons]
  exact ⟨k_slices_Equal_impl_Term, fun p h => by cases h⟩

theorem k_impl_ConstraintSame : Entry Tryz.prog 70 c_impl_ConstraintSame := by
 refine entry_by (C := C_impl_ConstraintSame) mixed tys_ok t_impl_ConstraintSame (fn := Tryz.f70) (c := bd Tryz.f70) (by kernel_rfl) (by kernel_rfl) (by kernel_rfl) (by kernel_rfl) ?_
 intro args st k he
 unfold c_impl_ConstraintSame at he
 split at he
 rotate_left
 ·exact he.elim
 rename_i a_0 a_1 b_0 b_1
 have he : Ok (impl_ConstraintSame (a_0, a_1) (b_0, b_1)) (fun r => k (.c (.bool r)) []) := he
 refine ⟨rfl, rfl, ?_⟩
 refine go_if he (fun he => ?_) fun he => ?_
 ·refine go_bind he fun r1_ he => ?_
  have he := ok_some he
  exact ⟨rfl, _, _, (leads_ren [] (l := [(4, .c (.bool r1_))]) (st' := []) rfl rfl trivial ⟨.inl rfl, trivial⟩), he⟩
 ·have he := ok_some he
  exact ⟨rfl, _, _, (leads_ren [] (l := [(4, .c (.bool false))]) (st' := []) rfl rfl trivial ⟨.inr rfl, trivial⟩), he⟩

noncomputable def c_impl_Step_shaped : Con := fun args st => match args, st with
  | [.agg [.int .i64 s__0, .int .i64 s__1, .int .i64 s__2, .imm (.pair (.int .i64) (.int .i64)) s__3, .int .i64 s__4]], [] => .opt (Bool) (impl_Step_shaped (s__0, (s__1, (s__2, (s__3, s__4))))) (fun r => .ret (.c (.bool r)) [])
  | _, _ => .fail

noncomputable def C_impl_Step_shaped : Cfg := { y := tys, n := 50, h := 0, tab := [(70, c_impl_ConstraintSame), (155, c_impl_refers)], cut := [], hand := [], good := [], deep := [], sched := [] }

theorem t_impl_Step_shaped : TabOk Tryz.prog C_impl_Step_shaped := by
  refine tabOk_of ?_
  simp only [C_impl_Step_shaped, List.forall_mem_cons]
  exact ⟨k_impl_ConstraintSame, k_impl_refers, fun p h => by cases h⟩

theorem k_impl_Step_shaped : Entry Tryz.prog 259 c_impl_Step_shaped := by
 refine entry_by (C := C_impl_Step_shaped) mixed tys_ok t_impl_Step_shaped (fn := Tryz.f259) (c := bd Tryz.f259) (by kernel_rfl) (by kernel_rfl) (by kernel_rfl) (by kernel_rfl) ?_
 intro args st k he
 unfold c_impl_Step_shaped at he
 split at he
 rotate_left
 ·exact he.elim
 rename_i s__0 s__1 s__2 s__3 s__4
 have he : Ok (impl_Step_shaped (s__0, (s__1, (s__2, (s__3, s__4))))) (fun r => k (.c (.bool r)) []) := he
 refine ⟨rfl, rfl, ?_⟩
 refine go_bind he fun r1_ he => ?_
 refine go_if he (fun he => ?_) fun he => ?_
 ·refine go_if2 he (fun he => ?_) fun he => ?_
  ·refine go_if2 he (fun he => ?_) fun he => ?_
   ·refine go_if he (fun he => ?_) fun he => ?_
    ·refine go_if2 he (fun he => ?_) fun he => ?_
     ·refine go_if2 he (fun he => ?_) fun he => ?_
      ·refine go_if he (fun he => ?_) fun he => ?_
       ·refine go_if2 he (fun he => ?_) fun he => ?_
        ·refine go_bind he fun r2_ he => ?_
         have he := ok_some he
         exact ⟨rfl, _, _, (leads_ren [] (l := [(2, .c (.bool r2_))]) (st' := []) rfl rfl trivial ⟨.inl rfl, trivial⟩), he⟩
        ·have he := ok_some he
         exact ⟨rfl, _, _, (leads_ren [] (l := [(2, .c (.bool true))]) (st' := []) rfl rfl trivial ⟨.inr rfl, trivial⟩), he⟩
       ·have he := ok_some he
        exact ⟨rfl, _, _, (leads_ren [] (l := [(2, .c (.bool false))]) (st' := []) rfl rfl trivial ⟨.inr rfl, trivial⟩), he⟩
      ·refine go_if2 he (fun he => ?_) fun he => ?_
       ·refine go_bind he fun r3_ he => ?_
        have he := ok_some he
        exact ⟨rfl, _, _, (leads_ren [] (l := [(2, .c (.bool r3_))]) (st' := []) rfl rfl trivial ⟨.inl rfl, trivial⟩), he⟩
       ·have he := ok_some he
        exact ⟨rfl, _, _, (leads_ren [] (l := [(2, .c (.bool true))]) (st' := []) rfl rfl trivial ⟨.inr rfl, trivial⟩), he⟩
     ·refine go_if2 he (fun he => ?_) fun he => ?_
      ·refine go_bind he fun r4_ he => ?_
       have he := ok_some he
       exact ⟨rfl, _, _, (leads_ren [] (l := [(2, .c (.bool r4_))]) (st' := []) rfl rfl trivial ⟨.inl rfl, trivial⟩), he⟩
      ·have he := ok_some he
       exact ⟨rfl, _, _, (leads_ren [] (l := [(2, .c (.bool true))]) (st' := []) rfl rfl trivial ⟨.inr rfl, trivial⟩), he⟩
    ·have he := ok_some he
     exact ⟨rfl, _, _, (leads_ren [] (l := [(2, .c (.bool false))]) (st' := []) rfl rfl trivial ⟨.inr rfl, trivial⟩), he⟩
   ·refine go_if2 he (fun he => ?_) fun he => ?_
    ·refine go_if2 he (fun he => ?_) fun he => ?_
     ·refine go_if he (fun he => ?_) fun he => ?_
      ·refine go_if2 he (fun he => ?_) fun he => ?_
       ·refine go_bind he fun r5_ he => ?_
        have he := ok_some he
        exact ⟨rfl, _, _, (leads_ren [] (l := [(2, .c (.bool r5_))]) (st' := []) rfl rfl trivial ⟨.inl rfl, trivial⟩), he⟩
       ·have he := ok_some he
        exact ⟨rfl, _, _, (leads_ren [] (l := [(2, .c (.bool true))]) (st' := []) rfl rfl trivial ⟨.inr rfl, trivial⟩), he⟩
      ·have he := ok_some he
       exact ⟨rfl, _, _, (leads_ren [] (l := [(2, .c (.bool false))]) (st' := []) rfl rfl trivial ⟨.inr rfl, trivial⟩), he⟩
     ·refine go_if2 he (fun he => ?_) fun he => ?_
      ·refine go_bind he fun r6_ he => ?_
       have he := ok_some he
       exact ⟨rfl, _, _, (leads_ren [] (l := [(2, .c (.bool r6_))]) (st' := []) rfl rfl trivial ⟨.inl rfl, trivial⟩), he⟩
      ·have he := ok_some he
       exact ⟨rfl, _, _, (leads_ren [] (l := [(2, .c (.bool true))]) (st' := []) rfl rfl trivial ⟨.inr rfl, trivial⟩), he⟩
    ·refine go_if2 he (fun he => ?_) fun he => ?_
     ·refine go_bind he fun r7_ he => ?_
      have he := ok_some he
      exact ⟨rfl, _, _, (leads_ren [] (l := [(2, .c (.bool r7_))]) (st' := []) rfl rfl trivial ⟨.inl rfl, trivial⟩), he⟩
     ·have he := ok_some he
      exact ⟨rfl, _, _, (leads_ren [] (l := [(2, .c (.bool true))]) (st' := []) rfl rfl trivial ⟨.inr rfl, trivial⟩), he⟩
  ·refine go_if2 he (fun he => ?_) fun he => ?_
   ·refine go_if2 he (fun he => ?_) fun he => ?_
    ·refine go_if he (fun he => ?_) fun he => ?_
     ·refine go_if2 he (fun he => ?_) fun he => ?_
      ·refine go_bind he fun r8_ he => ?_
       have he := ok_some he
       exact ⟨rfl, _, _, (leads_ren [] (l := [(2, .c (.bool r8_))]) (st' := []) rfl rfl trivial ⟨.inl rfl, trivial⟩), he⟩
      ·have he := ok_some he
       exact ⟨rfl, _, _, (leads_ren [] (l := [(2, .c (.bool true))]) (st' := []) rfl rfl trivial ⟨.inr rfl, trivial⟩), he⟩
     ·have he := ok_some he
      exact ⟨rfl, _, _, (leads_ren [] (l := [(2, .c (.bool false))]) (st' := []) rfl rfl trivial ⟨.inr rfl, trivial⟩), he⟩
    ·refine go_if2 he (fun he => ?_) fun he => ?_
     ·refine go_bind he fun r9_ he => ?_
      have he := ok_some he
      exact ⟨rfl, _, _, (leads_ren [] (l := [(2, .c (.bool r9_))]) (st' := []) rfl rfl trivial ⟨.inl rfl, trivial⟩), he⟩
     ·have he := ok_some he
      exact ⟨rfl, _, _, (leads_ren [] (l := [(2, .c (.bool true))]) (st' := []) rfl rfl trivial ⟨.inr rfl, trivial⟩), he⟩
   ·refine go_if2 he (fun he => ?_) fun he => ?_
    ·refine go_bind he fun r10_ he => ?_
     have he := ok_some he
     exact ⟨rfl, _, _, (leads_ren [] (l := [(2, .c (.bool r10_))]) (st' := []) rfl rfl trivial ⟨.inl rfl, trivial⟩), he⟩
    ·have he := ok_some he
     exact ⟨rfl, _, _, (leads_ren [] (l := [(2, .c (.bool true))]) (st' := []) rfl rfl trivial ⟨.inr rfl, trivial⟩), he⟩
 ·have he := ok_some he
  exact ⟨rfl, _, _, (leads_ren [] (l := [(2, .c (.bool false))]) (st' := []) rfl rfl trivial ⟨.inr rfl, trivial⟩), he⟩

noncomputable def c_impl_running_has__Rss : Con := fun args st => match args, st with
  | [.c (.ptr 0 0), .c (.int .i64 i)], [(0, .rc [.own 1 false, .own 2 false]), (1, .sl 89 (.pair (.sl (.pair (.int .i64) (.int .i64))) (.int .i64)) o1 .shallow), (2, .sl 4 .bool o2 .shallow)] => .opt (Bool) (impl_running_has__Rss i o1 o2) (fun r => .ret (.c (.bool r)) [(0, .rc [.own 1 false, .own 2 false]), (1, .sl 89 y3_ o1 .shallow), (2, .sl 4 .bool o2 .shallow)])
  | _, _ => .fail

noncomputable def C_impl_running_has__Rss : Cfg := { y := tys, n := 23, h := 3, tab := [(127, c_impl_within)], cut := [], hand := [], good := [], deep := [], sched := [] }

theorem t_impl_running_has__Rss : TabOk Tryz.prog C_impl_running_has__Rss := by
  refine tabOk_of ?_
  simp only [C_impl_running_has__Rss, List.forall_mem_cons]
  exact ⟨k_impl_within, fun p h => by cases h⟩

theorem k_impl_running_has__Rss : Entry Tryz.prog 260 c_impl_running_has__Rss := by
 refine entry_by (C := C_impl_running_has__Rss) mixed tys_ok t_impl_running_has__Rss (fn := Tryz.f260) (c := bd Tryz.f260) (by kernel_rfl) (by kernel_rfl) (by kernel_rfl) (by kernel_rfl) ?_
 intro args st k he
 unfold c_impl_running_has__Rss at he
 split at he
 rotate_left
 ·exact he.elim
 rename_i i o1 o2
 have he : Ok (impl_running_has__Rss i o1 o2) (fun r => k (.c (.bool r)) [(0, .rc [.own 1 false, .own 2 false]), (1, .sl 89 y3_ o1 .shallow), (2, .sl 4 .bool o2 .shallow)]) := he
 refine ⟨rfl, rfl, ?_⟩
 refine go_rq he fun he => ?_
 refine go_bind he fun r1_ he => ?_
 refine go_if he (fun he => ?_) fun he => ?_
 ·refine go_rq he fun he => ?_
  have he := ok_some he
  exact ⟨rfl, _, _, (leads_ren [] (l := [(4, .c (.bool (!(o2.getD i.toNat false))))]) (st' := [(0, .rc [.own 1 false, .own 2 false]), (1, .sl 89 y3_ o1 .shallow), (2, .sl 4 .bool o2 .shallow)]) rfl rfl ⟨⟨⟨⟨rfl, rfl⟩, trivial⟩, ⟨⟨rfl, rfl⟩, trivial⟩, trivial⟩, ⟨rfl, rfl⟩, ⟨rfl, rfl⟩, trivial⟩ ⟨.inl rfl, trivial⟩), he⟩
 ·have he := ok_some he
  exact ⟨rfl, _, _, (leads_ren [] (l := [(4, .c (.bool false))]) (st' := [(0, .rc [.own 1 false, .own 2 false]), (1, .sl 89 y3_ o1 .shallow), (2, .sl 4 .bool o2 .shallow)]) rfl rfl ⟨⟨⟨⟨rfl, rfl⟩, trivial⟩, ⟨⟨rfl, rfl⟩, trivial⟩, trivial⟩, ⟨rfl, rfl⟩, ⟨rfl, rfl⟩, trivial⟩ ⟨.inr rfl, trivial⟩), he⟩

noncomputable def c_slices_Grow_impl_Term : Con := fun args st => match args, st with
  | [.c (.nil), .c (.int .i64 n)], [] => .opt ((List D2_)) (slices_Grow_impl_Term n) (fun r => .ret (.c (.own 900 false)) [(900, .sl 155 y2_ r .shallow)])
  | _, _ => .fail

noncomputable def C_slices_Grow_impl_Term : Cfg := { y := tys, n := 27, h := 0, tab := [], cut := [], hand := [], good := [], deep := [], sched := [] }

theorem t_slices_Grow_impl_Term : TabOk Tryz.prog C_slices_Grow_impl_Term := tabOk_of (fun p h => by cases h)

theorem k_slices_Grow_impl_Term : Entry Tryz.prog 304 c_slices_Grow_impl_Term := by
 refine entry_by (C := C_slices_Grow_impl_Term) mixed tys_ok t_slices_Grow_impl_Term (fn := Tryz.f304) (c := bd Tryz.f304) (by kernel_rfl) (by kernel_rfl) (by kernel_rfl) (by kernel_rfl) ?_
 intro args st k he
 unfold c_slices_Grow_impl_Term at he
 split at he
 rotate_left
 ·exact he.elim
 rename_i n
 have he : Ok (slices_Grow_impl_Term n) (fun r => k (.c (.own 900 false)) [(900, .sl 155 y2_ r .shallow)]) := he
 refine ⟨rfl, rfl, ?_⟩
 refine go_if he (fun he => ?_) fun he => ?_
 ·exact (ok_none he).elim
 ·refine go_rq he fun he => ?_
  refine go_rq he fun he => ?_
  refine go_if he (fun he => ?_) fun he => ?_
  ·refine go_rq he fun he => ?_
   refine go_rq he fun he => ?_
   refine go_rq he fun he => ?_
   have he := ok_some he
   exact ⟨rfl, _, _, (leads_ren [(900, 25)] (l := [(4, .c (.own 900 false))]) (st' := [(900, .sl 155 y2_ ((List.replicate (n - ((0:Int) - (0:Int))).toNat (0, 0)).take (0:Int).toNat) .shallow)]) rfl rfl ⟨⟨rfl, rfl⟩, trivial⟩ ⟨⟨⟨rfl, rfl⟩, trivial⟩, trivial⟩), he⟩
  ·have he := ok_some he
   exact ⟨rfl, _, _, (leads_ren [] (l := [(4, .c (.own 900 false))]) (st' := [(900, .sl 155 y2_ ([] : List D2_) .shallow)]) rfl rfl ⟨trivial, trivial⟩ ⟨⟨rfl, trivial⟩, trivial⟩), he⟩

end Go.AE.Y
