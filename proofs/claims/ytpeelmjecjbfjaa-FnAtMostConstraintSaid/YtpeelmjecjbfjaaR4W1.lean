/-
  Walks: each function keeps the contract that its model gives. No conditions.
-/
import Derived.Test.YtpeelmjecjbfjaaR4Tab
import Derived.Test.YtpeelmjecjbfjaaR4M
namespace Go.AE.Y
open Go Go.AE Go.Proofs
set_option linter.unusedVariables false
set_option maxHeartbeats 2000000
set_option maxRecDepth 100000

noncomputable def c_spec_l17Open : Con := fun args st => match args, st with
  | [.c (.imm (.int .u8) code)], [] => .opt (((List Int) × Int)) (spec_l17Open code) (fun r => .ret (.c (.ptr 900 0)) [(900, .rc [.imm (.int .u8) r.1, .int .i64 r.2])])
  | _, _ => .fail

noncomputable def C_spec_l17Open : Cfg := { y := tys, n := 11, h := 0, tab := [], cut := [3], hand := [], good := [], deep := [], sched := [] }

theorem t_spec_l17Open : TabOk Try.prog C_spec_l17Open := tabOk_of (fun p h => by cases h)

theorem k_spec_l17Open : Entry Try.prog 94 c_spec_l17Open := by
  refine entry_by (C := C_spec_l17Open) mixed tys_ok t_spec_l17Open (fn := Try.f94) (c := bd Try.f94) (by kernel_rfl) (by kernel_rfl) (by kernel_rfl) (by kernel_rfl) ?_
  intro args st k he
  unfold c_spec_l17Open at he
  split at he
  rotate_left
  · exact he.elim
  rename_i code
  have he : Ok (spec_l17Open code) (fun r => k (.c (.ptr 900 0)) [(900, .rc [.imm (.int .u8) r.1, .int .i64 r.2])]) := he
  refine ⟨rfl, rfl, ?_⟩
  refine seq_model mixed tys_ok t_spec_l17Open (S := (List Int)) (I := (fun code1 => (envOf [(0, .c (.imm (.int .u8) code1))], []))) (B := fun s => Ok (spec_l17Open_j1 s) (fun r => k (.c (.ptr 900 0)) [(900, .rc [.imm (.int .u8) r.1, .int .i64 r.2])])) ?_ ?_
  · rintro code1 he
    have he := ok_some he
    exact ⟨rfl, _, _, (leads_ren [(900, 10)] (l := [(2, .c (.ptr 900 0))]) (st' := [(900, .rc [.imm (.int .u8) code1, .int .i64 (0:Int)])]) rfl rfl ⟨⟨.inl rfl, rfl, trivial⟩, trivial⟩ ⟨⟨⟨rfl, rfl⟩, rfl⟩, trivial⟩), he⟩
  · skip
    refine And.intro (fun hb => ?_) (fun hb => ?_)
    · have he := ok_t he hb
      have he := ok_rq he
      refine And.intro he.1 ?_
      have he := he.2
      exact ⟨(code.take (2000:Int).toNat), he, (leads_ren [] (l := [(0, .c (.imm (.int .u8) (code.take (2000:Int).toNat)))]) (st' := []) rfl rfl trivial ⟨.inl rfl, trivial⟩)⟩
    · have he := ok_f he hb
      exact ⟨code, he, (leads_ren [] (l := [(0, .c (.imm (.int .u8) code))]) (st' := []) rfl rfl trivial ⟨.inl rfl, trivial⟩)⟩

noncomputable def c_spec_l17Rd_pick : Con := fun args st => match args, st with
  | [.c (.ptr 0 0), .c (.int .i64 a1)], [(0, .rc [.imm (.int .u8) o0_0, .int .i64 o0_1])] => .opt (Int × ((List Int) × Int)) (spec_l17Rd_pick a1 (o0_0, o0_1)) (fun r => .ret (.c (.int .i64 r.1)) [(0, .rc [.imm (.int .u8) r.2.1, .int .i64 r.2.2])])
  | _, _ => .fail

noncomputable def C_spec_l17Rd_pick : Cfg := { y := tys, n := 99, h := 1, tab := [], cut := [], hand := [], good := [], deep := [], sched := [] }

theorem t_spec_l17Rd_pick : TabOk Try.prog C_spec_l17Rd_pick := tabOk_of (fun p h => by cases h)

theorem k_spec_l17Rd_pick : Entry Try.prog 166 c_spec_l17Rd_pick := by
  refine entry_by (C := C_spec_l17Rd_pick) mixed tys_ok t_spec_l17Rd_pick (fn := Try.f166) (c := bd Try.f166) (by kernel_rfl) (by kernel_rfl) (by kernel_rfl) (by kernel_rfl) ?_
  intro args st k he
  unfold c_spec_l17Rd_pick at he
  split at he
  rotate_left
  · exact he.elim
  rename_i a1 o0_0 o0_1
  have he : Ok (spec_l17Rd_pick a1 (o0_0, o0_1)) (fun r => k (.c (.int .i64 r.1)) [(0, .rc [.imm (.int .u8) r.2.1, .int .i64 r.2.2])]) := he
  refine ⟨rfl, rfl, ?_⟩
  have he := ok_rq he
  refine And.intro he.1 ?_
  have he := he.2
  refine And.intro (fun hb => ?_) (fun hb => ?_)
  · have he := ok_f he hb
    refine And.intro (fun hb => ?_) (fun hb => ?_)
    · have he := ok_t he hb
      have he := ok_some he
      exact ⟨rfl, _, _, (leads_ren [] (l := [(4, .c (.int .i64 (0:Int)))]) (st' := [(0, .rc [.imm (.int .u8) (o0_0, o0_1).1, .int .i64 ((o0_0, o0_1).2 + (1:Int))])]) rfl rfl ⟨⟨.inl rfl, rfl, trivial⟩, trivial⟩ ⟨rfl, trivial⟩), he⟩
    · have he := ok_f he hb
      have he := ok_rq he
      refine And.intro he.1 ?_
      have he := he.2
      refine And.intro (fun hb => ?_) (fun hb => ?_)
      · have he := ok_t he hb
        have he := ok_rq he
        refine And.intro he.1 ?_
        have he := he.2
        refine fun _ => ?_
        have he := ok_rq he
        refine And.intro he.1 ?_
        have he := he.2
        have he := ok_rq he
        refine And.intro he.1 ?_
        have he := he.2
        have he := ok_some he
        exact ⟨rfl, _, _, (leads_ren [] (l := [(4, .c (.int .i64 (((o0_0, o0_1).1.getD (((o0_0, o0_1).2 + (1:Int)) - (1:Int)).toNat 0) % a1)))]) (st' := [(0, .rc [.imm (.int .u8) (o0_0, o0_1).1, .int .i64 ((o0_0, o0_1).2 + (1:Int))])]) rfl rfl ⟨⟨.inl rfl, rfl, trivial⟩, trivial⟩ ⟨rfl, trivial⟩), he⟩
      · have he := ok_f he hb
        refine And.intro (by kernel_rfl) ?_
        have he := ok_rq he
        refine And.intro he.1 ?_
        have he := he.2
        have he := ok_rq he
        refine And.intro he.1 ?_
        have he := he.2
        refine fun _ => ?_
        have he := ok_rq he
        refine And.intro he.1 ?_
        have he := he.2
        have he := ok_rq he
        refine And.intro he.1 ?_
        have he := he.2
        have he := ok_rq he
        refine And.intro he.1 ?_
        have he := he.2
        have he := ok_rq he
        refine And.intro he.1 ?_
        have he := he.2
        have he := ok_rq he
        refine And.intro he.1 ?_
        have he := he.2
        have he := ok_rq he
        refine And.intro he.1 ?_
        have he := he.2
        refine fun _ => ?_
        have he := ok_rq he
        refine And.intro he.1 ?_
        have he := he.2
        have he := ok_rq he
        refine And.intro he.1 ?_
        have he := he.2
        have he := ok_rq he
        refine And.intro he.1 ?_
        have he := he.2
        have he := ok_rq he
        refine And.intro he.1 ?_
        have he := he.2
        have he := ok_rq he
        refine And.intro he.1 ?_
        have he := he.2
        have he := ok_rq he
        refine And.intro he.1 ?_
        have he := he.2
        have he := ok_rq he
        refine And.intro he.1 ?_
        have he := he.2
        have he := ok_rq he
        refine And.intro he.1 ?_
        have he := he.2
        have he := ok_rq he
        refine And.intro he.1 ?_
        have he := he.2
        have he := ok_rq he
        refine And.intro he.1 ?_
        have he := he.2
        have he := ok_rq he
        refine And.intro he.1 ?_
        have he := he.2
        have he := ok_some he
        exact ⟨rfl, _, _, (leads_ren [] (l := [(4, .c (.int .i64 (((((((((o0_0, o0_1).1.getD ((((o0_0, o0_1).2 + (1:Int)) - (1:Int)) % ((o0_0, o0_1).1.length:Int)).toNat 0) * (131:Int)) + (((o0_0, o0_1).1.getD ((((((o0_0, o0_1).2 + (1:Int)) - (1:Int)) * (7:Int)) + (3:Int)) % ((o0_0, o0_1).1.length:Int)).toNat 0) * (1117:Int))) + ((((o0_0, o0_1).2 + (1:Int)) - (1:Int)) * (29:Int))) + (((((o0_0, o0_1).2 + (1:Int)) - (1:Int)) / ((o0_0, o0_1).1.length:Int)) * (53:Int))).toNat ^^^ (((((((o0_0, o0_1).1.getD ((((o0_0, o0_1).2 + (1:Int)) - (1:Int)) % ((o0_0, o0_1).1.length:Int)).toNat 0) * (131:Int)) + (((o0_0, o0_1).1.getD ((((((o0_0, o0_1).2 + (1:Int)) - (1:Int)) * (7:Int)) + (3:Int)) % ((o0_0, o0_1).1.length:Int)).toNat 0) * (1117:Int))) + ((((o0_0, o0_1).2 + (1:Int)) - (1:Int)) * (29:Int))) + (((((o0_0, o0_1).2 + (1:Int)) - (1:Int)) / ((o0_0, o0_1).1.length:Int)) * (53:Int))) / (64:Int)).toNat : Nat) : Int) % a1)))]) (st' := [(0, .rc [.imm (.int .u8) (o0_0, o0_1).1, .int .i64 ((o0_0, o0_1).2 + (1:Int))])]) rfl rfl ⟨⟨.inl rfl, rfl, trivial⟩, trivial⟩ ⟨rfl, trivial⟩), he⟩
  · have he := ok_t he hb
    have he := ok_some he
    exact ⟨rfl, _, _, (leads_ren [] (l := [(4, .c (.int .i64 (0:Int)))]) (st' := [(0, .rc [.imm (.int .u8) (o0_0, o0_1).1, .int .i64 ((o0_0, o0_1).2 + (1:Int))])]) rfl rfl ⟨⟨.inl rfl, rfl, trivial⟩, trivial⟩ ⟨rfl, trivial⟩), he⟩

noncomputable def c_spec_l17Rd_num : Con := fun args st => match args, st with
  | [.c (.ptr 0 0), .c (.imm (.int .i64) list_)], [(0, .rc [.imm (.int .u8) r__0, .int .i64 r__1])] => .opt (Int × ((List Int) × Int)) (spec_l17Rd_num list_ (r__0, r__1)) (fun r => .ret (.c (.int .i64 r.1)) [(0, .rc [.imm (.int .u8) r.2.1, .int .i64 r.2.2])])
  | _, _ => .fail

noncomputable def C_spec_l17Rd_num : Cfg := { y := tys, n := 12, h := 1, tab := [(166, c_spec_l17Rd_pick)], cut := [], hand := [], good := [], deep := [], sched := [] }

theorem t_spec_l17Rd_num : TabOk Try.prog C_spec_l17Rd_num := by
  refine tabOk_of ?_
  simp only [C_spec_l17Rd_num, List.forall_mem_cons]
  exact ⟨k_spec_l17Rd_pick, fun p h => by cases h⟩

theorem k_spec_l17Rd_num : Entry Try.prog 99 c_spec_l17Rd_num := by
  refine entry_by (C := C_spec_l17Rd_num) mixed tys_ok t_spec_l17Rd_num (fn := Try.f99) (c := bd Try.f99) (by kernel_rfl) (by kernel_rfl) (by kernel_rfl) (by kernel_rfl) ?_
  intro args st k he
  unfold c_spec_l17Rd_num at he
  split at he
  rotate_left
  · exact he.elim
  rename_i list_ r__0 r__1
  have he : Ok (spec_l17Rd_num list_ (r__0, r__1)) (fun r => k (.c (.int .i64 r.1)) [(0, .rc [.imm (.int .u8) r.2.1, .int .i64 r.2.2])]) := he
  refine ⟨rfl, rfl, ?_⟩
  obtain ⟨r1_, hr, he⟩ := ok_bind he
  refine ⟨r1_, hr, ?_⟩
  have he := ok_rq he
  refine And.intro he.1 ?_
  have he := he.2
  have he := ok_some he
  exact ⟨rfl, _, _, (leads_ren [] (l := [(4, .c (.int .i64 (list_.getD r1_.1.toNat 0)))]) (st' := [(0, .rc [.imm (.int .u8) r1_.2.1, .int .i64 r1_.2.2])]) rfl rfl ⟨⟨.inl rfl, rfl, trivial⟩, trivial⟩ ⟨rfl, trivial⟩), he⟩

noncomputable def c_spec_l6Some__rsd : Con := fun args st => match args, st with
  | [.c (.ptr 0 0), .agg [.own 1 false, .own 2 false], .c (.int .i64 a2)], [(0, .rc [.imm (.int .u8) o0_0, .int .i64 o0_1]), (1, .sl 3 (.int .i64) o1 .shallow), (2, .sl 124 (.pair (.int .i64) (.pair (.sl (.int .i64)) (.pair (.sl (.int .i64)) (.pair (.int .i64) (.sl (.sl (.int .i64))))))) o2 (.deep true .no))] => .opt (((List Int) × Int) × (List Int)) (spec_l6Some__rsd a2 (o0_0, o0_1) o1 o2) (fun r => .ret (.c (.own 900 false)) [(0, .rc [.imm (.int .u8) r.1.1, .int .i64 r.1.2]), (1, .sl 3 (.int .i64) o1 .shallow), (2, .sl 124 (.pair (.int .i64) (.pair (.sl (.int .i64)) (.pair (.sl (.int .i64)) (.pair (.int .i64) (.sl (.sl (.int .i64))))))) o2 (.deep true .no)), (900, .sl 3 (.int .i64) r.2 .shallow)])
  | _, _ => .fail

noncomputable def C_spec_l6Some__rsd : Cfg := { y := tys, n := 96, h := 3, tab := [(166, c_spec_l17Rd_pick)], cut := [7, 12, 18], hand := [], good := [], deep := [], sched := [] }

theorem t_spec_l6Some__rsd : TabOk Try.prog C_spec_l6Some__rsd := by
  refine tabOk_of ?_
  simp only [C_spec_l6Some__rsd, List.forall_mem_cons]
  exact ⟨k_spec_l17Rd_pick, fun p h => by cases h⟩

theorem k_spec_l6Some__rsd : Entry Try.prog 259 c_spec_l6Some__rsd := by
  refine entry_by (C := C_spec_l6Some__rsd) mixed tys_ok t_spec_l6Some__rsd (fn := Try.f259) (c := bd Try.f259) (by kernel_rfl) (by kernel_rfl) (by kernel_rfl) (by kernel_rfl) ?_
  intro args st k he
  unfold c_spec_l6Some__rsd at he
  split at he
  rotate_left
  · exact he.elim
  rename_i a2 o0_0 o0_1 o1 o2
  have he : Ok (spec_l6Some__rsd a2 (o0_0, o0_1) o1 o2) (fun r => k (.c (.own 900 false)) [(0, .rc [.imm (.int .u8) r.1.1, .int .i64 r.1.2]), (1, .sl 3 (.int .i64) o1 .shallow), (2, .sl 124 (.pair (.int .i64) (.pair (.sl (.int .i64)) (.pair (.sl (.int .i64)) (.pair (.int .i64) (.sl (.sl (.int .i64))))))) o2 (.deep true .no)), (900, .sl 3 (.int .i64) r.2 .shallow)]) := he
  refine ⟨rfl, rfl, ?_⟩
  refine seq_model mixed tys_ok t_spec_l6Some__rsd (S := ((List Int) × Int) × (List Int)) (I := (fun (i3, i4) => (envOf [(0, .c (.ptr 0 0)), (2, .c (.int .i64 a2)), (4, .c (.ptr 10001000 0)), (7, .c (.own 10001001 false))], [(0, .rc [.imm (.int .u8) i3.1, .int .i64 i3.2]), (1, .sl 3 (.int .i64) o1 .shallow), (2, .sl 124 (.pair (.int .i64) (.pair (.sl (.int .i64)) (.pair (.sl (.int .i64)) (.pair (.int .i64) (.sl (.sl (.int .i64))))))) o2 (.deep true .no)), (10001000, .rc [.own 1 false, .own 2 false]), (10001001, .sl 3 (.int .i64) i4 .shallow)]))) (B := fun s => Ok (spec_l6Some__rsd_j1 a2 o1 s) (fun r => k (.c (.own 900 false)) [(0, .rc [.imm (.int .u8) r.1.1, .int .i64 r.1.2]), (1, .sl 3 (.int .i64) o1 .shallow), (2, .sl 124 (.pair (.int .i64) (.pair (.sl (.int .i64)) (.pair (.sl (.int .i64)) (.pair (.int .i64) (.sl (.sl (.int .i64))))))) o2 (.deep true .no)), (900, .sl 3 (.int .i64) r.2 .shallow)])) ?_ ?_
  · rintro ⟨i3, i4⟩ he
    refine seq_model mixed tys_ok t_spec_l6Some__rsd (S := (List Int)) (I := (fun i7 => (envOf [(0, .c (.ptr 0 0)), (2, .c (.int .i64 a2)), (7, .c (.own 10003000 false))], [(0, .rc [.imm (.int .u8) i3.1, .int .i64 i3.2]), (1, .sl 3 (.int .i64) o1 .shallow), (2, .sl 124 (.pair (.int .i64) (.pair (.sl (.int .i64)) (.pair (.sl (.int .i64)) (.pair (.int .i64) (.sl (.sl (.int .i64))))))) o2 (.deep true .no)), (10003000, .sl 3 (.int .i64) i7 .shallow)]))) (B := fun s => Ok (spec_l6Some__rsd_j2 a2 i3 s) (fun r => k (.c (.own 900 false)) [(0, .rc [.imm (.int .u8) r.1.1, .int .i64 r.1.2]), (1, .sl 3 (.int .i64) o1 .shallow), (2, .sl 124 (.pair (.int .i64) (.pair (.sl (.int .i64)) (.pair (.sl (.int .i64)) (.pair (.int .i64) (.sl (.sl (.int .i64))))))) o2 (.deep true .no)), (900, .sl 3 (.int .i64) r.2 .shallow)])) ?_ ?_
    · rintro i7 he
      refine seq_model mixed tys_ok t_spec_l6Some__rsd (S := (List Int)) (I := (fun i12 => (envOf [(0, .c (.ptr 0 0)), (7, .c (.own 10006000 false))], [(0, .rc [.imm (.int .u8) i3.1, .int .i64 i3.2]), (1, .sl 3 (.int .i64) o1 .shallow), (2, .sl 124 (.pair (.int .i64) (.pair (.sl (.int .i64)) (.pair (.sl (.int .i64)) (.pair (.int .i64) (.sl (.sl (.int .i64))))))) o2 (.deep true .no)), (10006000, .sl 3 (.int .i64) i12 .shallow)]))) (B := fun s => Ok (spec_l6Some__rsd_j3 i3 s) (fun r => k (.c (.own 900 false)) [(0, .rc [.imm (.int .u8) r.1.1, .int .i64 r.1.2]), (1, .sl 3 (.int .i64) o1 .shallow), (2, .sl 124 (.pair (.int .i64) (.pair (.sl (.int .i64)) (.pair (.sl (.int .i64)) (.pair (.int .i64) (.sl (.sl (.int .i64))))))) o2 (.deep true .no)), (900, .sl 3 (.int .i64) r.2 .shallow)])) ?_ ?_
      · rintro i12 he
        refine And.intro (fun hb => ?_) (fun hb => ?_)
        · have he := ok_t he hb
          obtain ⟨r3_, hr, he⟩ := ok_bind he
          refine ⟨r3_, hr, ?_⟩
          refine And.intro (fun hb => ?_) (fun hb => ?_)
          · have he := ok_t he hb
            have he := ok_rq he
            refine And.intro he.1 ?_
            have he := he.2
            have he := ok_rq he
            refine And.intro he.1 ?_
            have he := he.2
            have he := ok_rq he
            refine And.intro he.1 ?_
            have he := he.2
            have he := ok_rq he
            refine And.intro he.1 ?_
            have he := he.2
            have he := ok_some he
            exact ⟨rfl, _, _, (leads_ren [(900, 10006000)] (l := [(6, .c (.own 900 false))]) (st' := [(0, .rc [.imm (.int .u8) r3_.2.1, .int .i64 r3_.2.2]), (1, .sl 3 (.int .i64) o1 .shallow), (2, .sl 124 (.pair (.int .i64) (.pair (.sl (.int .i64)) (.pair (.sl (.int .i64)) (.pair (.int .i64) (.sl (.sl (.int .i64))))))) o2 (.deep true .no)), (900, .sl 3 (.int .i64) ((i12.set (0:Int).toNat (i12.getD (1:Int).toNat 0)).set (1:Int).toNat (i12.getD (0:Int).toNat 0)) .shallow)]) rfl rfl ⟨⟨.inl rfl, rfl, trivial⟩, ⟨rfl, rfl⟩, ⟨rfl, rfl⟩, ⟨rfl, rfl⟩, trivial⟩ ⟨⟨⟨rfl, rfl⟩, trivial⟩, trivial⟩), he⟩
          · have he := ok_f he hb
            have he := ok_some he
            exact ⟨rfl, _, _, (leads_ren [(900, 10006000)] (l := [(6, .c (.own 900 false))]) (st' := [(0, .rc [.imm (.int .u8) r3_.2.1, .int .i64 r3_.2.2]), (1, .sl 3 (.int .i64) o1 .shallow), (2, .sl 124 (.pair (.int .i64) (.pair (.sl (.int .i64)) (.pair (.sl (.int .i64)) (.pair (.int .i64) (.sl (.sl (.int .i64))))))) o2 (.deep true .no)), (900, .sl 3 (.int .i64) i12 .shallow)]) rfl rfl ⟨⟨.inl rfl, rfl, trivial⟩, ⟨rfl, rfl⟩, ⟨rfl, rfl⟩, ⟨rfl, rfl⟩, trivial⟩ ⟨⟨⟨rfl, rfl⟩, trivial⟩, trivial⟩), he⟩
        · have he := ok_f he hb
          have he := ok_some he
          exact ⟨rfl, _, _, (leads_ren [(900, 10006000)] (l := [(6, .c (.own 900 false))]) (st' := [(0, .rc [.imm (.int .u8) i3.1, .int .i64 i3.2]), (1, .sl 3 (.int .i64) o1 .shallow), (2, .sl 124 (.pair (.int .i64) (.pair (.sl (.int .i64)) (.pair (.sl (.int .i64)) (.pair (.int .i64) (.sl (.sl (.int .i64))))))) o2 (.deep true .no)), (900, .sl 3 (.int .i64) i12 .shallow)]) rfl rfl ⟨⟨.inl rfl, rfl, trivial⟩, ⟨rfl, rfl⟩, ⟨rfl, rfl⟩, ⟨rfl, rfl⟩, trivial⟩ ⟨⟨⟨rfl, rfl⟩, trivial⟩, trivial⟩), he⟩
      · skip
        refine And.intro (fun hb => ?_) (fun hb => ?_)
        · have he := ok_f he hb
          refine And.intro (fun hb => ?_) (fun hb => ?_)
          · have he := ok_t he hb
            refine loop_model mixed tys_ok t_spec_l6Some__rsd (S := Int × (List Int)) (I := (fun (i8, i9) => (envOf [(0, .c (.ptr 0 0)), (2, .c (.int .i64 a2)), (7, .c (.own 10004000 false)), (10, .c (.int .i64 i8))], [(0, .rc [.imm (.int .u8) i3.1, .int .i64 i3.2]), (1, .sl 3 (.int .i64) o1 .shallow), (2, .sl 124 (.pair (.int .i64) (.pair (.sl (.int .i64)) (.pair (.sl (.int .i64)) (.pair (.int .i64) (.sl (.sl (.int .i64))))))) o2 (.deep true .no)), (10004000, .sl 3 (.int .i64) i9 .shallow)]))) (f := spec_l6Some__rsd_l2 a2 i3) (K := (fun r => k (.c (.own 900 false)) [(0, .rc [.imm (.int .u8) r.1.1, .int .i64 r.1.2]), (1, .sl 3 (.int .i64) o1 .shallow), (2, .sl 124 (.pair (.int .i64) (.pair (.sl (.int .i64)) (.pair (.sl (.int .i64)) (.pair (.int .i64) (.sl (.sl (.int .i64))))))) o2 (.deep true .no)), (900, .sl 3 (.int .i64) r.2 .shallow)])) he (leads_ren [(10004000, 66)] (l := [(0, .c (.ptr 0 0)), (2, .c (.int .i64 a2)), (7, .c (.own 10004000 false)), (10, .c (.int .i64 (0:Int)))]) (st' := [(0, .rc [.imm (.int .u8) i3.1, .int .i64 i3.2]), (1, .sl 3 (.int .i64) o1 .shallow), (2, .sl 124 (.pair (.int .i64) (.pair (.sl (.int .i64)) (.pair (.sl (.int .i64)) (.pair (.int .i64) (.sl (.sl (.int .i64))))))) o2 (.deep true .no)), (10004000, .sl 3 (.int .i64) ([] : List Int) .shallow)]) rfl rfl ⟨⟨.inl rfl, rfl, trivial⟩, ⟨rfl, rfl⟩, ⟨rfl, rfl⟩, ⟨rfl, rfl⟩, trivial⟩ ⟨⟨⟨rfl, rfl⟩, rfl⟩, rfl, ⟨⟨rfl, rfl⟩, trivial⟩, rfl, trivial⟩) ?_
            rintro ⟨i8, i9⟩ J1 he
            refine And.intro (fun hb => ?_) (fun hb => ?_)
            · have he := ok_t he hb
              have he := ok_rq he
              refine And.intro he.1 ?_
              have he := he.2
              have he := ok_rq he
              refine And.intro he.1 ?_
              have he := he.2
              have he := ok_some he
              exact ⟨((i8 + (1:Int)), (i9 ++ [i8])), he, (leads_ren [(10004000, 75)] (l := [(0, .c (.ptr 0 0)), (2, .c (.int .i64 a2)), (7, .c (.own 10004000 false)), (10, .c (.int .i64 (i8 + (1:Int))))]) (st' := [(0, .rc [.imm (.int .u8) i3.1, .int .i64 i3.2]), (1, .sl 3 (.int .i64) o1 .shallow), (2, .sl 124 (.pair (.int .i64) (.pair (.sl (.int .i64)) (.pair (.sl (.int .i64)) (.pair (.int .i64) (.sl (.sl (.int .i64))))))) o2 (.deep true .no)), (10004000, .sl 3 (.int .i64) (i9 ++ [i8]) .shallow)]) rfl rfl ⟨⟨.inl rfl, rfl, trivial⟩, ⟨rfl, rfl⟩, ⟨rfl, rfl⟩, ⟨rfl, rfl⟩, trivial⟩ ⟨⟨⟨rfl, rfl⟩, rfl⟩, rfl, ⟨⟨rfl, rfl⟩, trivial⟩, rfl, trivial⟩)⟩
            · have he := ok_f he hb
              exact ⟨i9, ok_up he, (leads_ren [(10006000, 10004000)] (l := [(0, .c (.ptr 0 0)), (7, .c (.own 10006000 false))]) (st' := [(0, .rc [.imm (.int .u8) i3.1, .int .i64 i3.2]), (1, .sl 3 (.int .i64) o1 .shallow), (2, .sl 124 (.pair (.int .i64) (.pair (.sl (.int .i64)) (.pair (.sl (.int .i64)) (.pair (.int .i64) (.sl (.sl (.int .i64))))))) o2 (.deep true .no)), (10006000, .sl 3 (.int .i64) i9 .shallow)]) rfl rfl ⟨⟨.inl rfl, rfl, trivial⟩, ⟨rfl, rfl⟩, ⟨rfl, rfl⟩, ⟨rfl, rfl⟩, trivial⟩ ⟨⟨⟨rfl, rfl⟩, rfl⟩, ⟨⟨rfl, rfl⟩, trivial⟩, trivial⟩)⟩
          · have he := ok_f he hb
            exact ⟨i7, he, (leads_ren [(10006000, 10003000)] (l := [(0, .c (.ptr 0 0)), (7, .c (.own 10006000 false))]) (st' := [(0, .rc [.imm (.int .u8) i3.1, .int .i64 i3.2]), (1, .sl 3 (.int .i64) o1 .shallow), (2, .sl 124 (.pair (.int .i64) (.pair (.sl (.int .i64)) (.pair (.sl (.int .i64)) (.pair (.int .i64) (.sl (.sl (.int .i64))))))) o2 (.deep true .no)), (10006000, .sl 3 (.int .i64) i7 .shallow)]) rfl rfl ⟨⟨.inl rfl, rfl, trivial⟩, ⟨rfl, rfl⟩, ⟨rfl, rfl⟩, ⟨rfl, rfl⟩, trivial⟩ ⟨⟨⟨rfl, rfl⟩, rfl⟩, ⟨⟨rfl, rfl⟩, trivial⟩, trivial⟩)⟩
        · have he := ok_t he hb
          refine loop_model mixed tys_ok t_spec_l6Some__rsd (S := Int × (List Int)) (I := (fun (i10, i11) => (envOf [(0, .c (.ptr 0 0)), (2, .c (.int .i64 a2)), (7, .c (.own 10005000 false)), (10, .c (.int .i64 i10))], [(0, .rc [.imm (.int .u8) i3.1, .int .i64 i3.2]), (1, .sl 3 (.int .i64) o1 .shallow), (2, .sl 124 (.pair (.int .i64) (.pair (.sl (.int .i64)) (.pair (.sl (.int .i64)) (.pair (.int .i64) (.sl (.sl (.int .i64))))))) o2 (.deep true .no)), (10005000, .sl 3 (.int .i64) i11 .shallow)]))) (f := spec_l6Some__rsd_l1 a2 i3) (K := (fun r => k (.c (.own 900 false)) [(0, .rc [.imm (.int .u8) r.1.1, .int .i64 r.1.2]), (1, .sl 3 (.int .i64) o1 .shallow), (2, .sl 124 (.pair (.int .i64) (.pair (.sl (.int .i64)) (.pair (.sl (.int .i64)) (.pair (.int .i64) (.sl (.sl (.int .i64))))))) o2 (.deep true .no)), (900, .sl 3 (.int .i64) r.2 .shallow)])) he (leads_ren [(10005000, 66)] (l := [(0, .c (.ptr 0 0)), (2, .c (.int .i64 a2)), (7, .c (.own 10005000 false)), (10, .c (.int .i64 (0:Int)))]) (st' := [(0, .rc [.imm (.int .u8) i3.1, .int .i64 i3.2]), (1, .sl 3 (.int .i64) o1 .shallow), (2, .sl 124 (.pair (.int .i64) (.pair (.sl (.int .i64)) (.pair (.sl (.int .i64)) (.pair (.int .i64) (.sl (.sl (.int .i64))))))) o2 (.deep true .no)), (10005000, .sl 3 (.int .i64) ([] : List Int) .shallow)]) rfl rfl ⟨⟨.inl rfl, rfl, trivial⟩, ⟨rfl, rfl⟩, ⟨rfl, rfl⟩, ⟨rfl, rfl⟩, trivial⟩ ⟨⟨⟨rfl, rfl⟩, rfl⟩, rfl, ⟨⟨rfl, rfl⟩, trivial⟩, rfl, trivial⟩) ?_
          rintro ⟨i10, i11⟩ J1 he
          refine And.intro (fun hb => ?_) (fun hb => ?_)
          · have he := ok_t he hb
            have he := ok_rq he
            refine And.intro he.1 ?_
            have he := he.2
            have he := ok_rq he
            refine And.intro he.1 ?_
            have he := he.2
            have he := ok_some he
            exact ⟨((i10 + (1:Int)), (i11 ++ [i10])), he, (leads_ren [(10005000, 75)] (l := [(0, .c (.ptr 0 0)), (2, .c (.int .i64 a2)), (7, .c (.own 10005000 false)), (10, .c (.int .i64 (i10 + (1:Int))))]) (st' := [(0, .rc [.imm (.int .u8) i3.1, .int .i64 i3.2]), (1, .sl 3 (.int .i64) o1 .shallow), (2, .sl 124 (.pair (.int .i64) (.pair (.sl (.int .i64)) (.pair (.sl (.int .i64)) (.pair (.int .i64) (.sl (.sl (.int .i64))))))) o2 (.deep true .no)), (10005000, .sl 3 (.int .i64) (i11 ++ [i10]) .shallow)]) rfl rfl ⟨⟨.inl rfl, rfl, trivial⟩, ⟨rfl, rfl⟩, ⟨rfl, rfl⟩, ⟨rfl, rfl⟩, trivial⟩ ⟨⟨⟨rfl, rfl⟩, rfl⟩, rfl, ⟨⟨rfl, rfl⟩, trivial⟩, rfl, trivial⟩)⟩
          · have he := ok_f he hb
            exact ⟨i11, ok_up he, (leads_ren [(10006000, 10005000)] (l := [(0, .c (.ptr 0 0)), (7, .c (.own 10006000 false))]) (st' := [(0, .rc [.imm (.int .u8) i3.1, .int .i64 i3.2]), (1, .sl 3 (.int .i64) o1 .shallow), (2, .sl 124 (.pair (.int .i64) (.pair (.sl (.int .i64)) (.pair (.sl (.int .i64)) (.pair (.int .i64) (.sl (.sl (.int .i64))))))) o2 (.deep true .no)), (10006000, .sl 3 (.int .i64) i11 .shallow)]) rfl rfl ⟨⟨.inl rfl, rfl, trivial⟩, ⟨rfl, rfl⟩, ⟨rfl, rfl⟩, ⟨rfl, rfl⟩, trivial⟩ ⟨⟨⟨rfl, rfl⟩, rfl⟩, ⟨⟨rfl, rfl⟩, trivial⟩, trivial⟩)⟩
    · skip
      refine loop_model mixed tys_ok t_spec_l6Some__rsd (S := Int × (List Int)) (I := (fun (i5, i6) => (envOf [(0, .c (.ptr 0 0)), (2, .c (.int .i64 a2)), (4, .c (.ptr 10002000 0)), (7, .c (.own 10002001 false)), (9, .c (.int .i64 i5))], [(0, .rc [.imm (.int .u8) i3.1, .int .i64 i3.2]), (1, .sl 3 (.int .i64) o1 .shallow), (2, .sl 124 (.pair (.int .i64) (.pair (.sl (.int .i64)) (.pair (.sl (.int .i64)) (.pair (.int .i64) (.sl (.sl (.int .i64))))))) o2 (.deep true .no)), (10002000, .rc [.own 1 false, .own 2 false]), (10002001, .sl 3 (.int .i64) i6 .shallow)]))) (f := spec_l6Some__rsd_l3 a2 o1 i3) (K := (fun r => k (.c (.own 900 false)) [(0, .rc [.imm (.int .u8) r.1.1, .int .i64 r.1.2]), (1, .sl 3 (.int .i64) o1 .shallow), (2, .sl 124 (.pair (.int .i64) (.pair (.sl (.int .i64)) (.pair (.sl (.int .i64)) (.pair (.int .i64) (.sl (.sl (.int .i64))))))) o2 (.deep true .no)), (900, .sl 3 (.int .i64) r.2 .shallow)])) he (leads_ren [(10002000, 10001000), (10002001, 10001001)] (l := [(0, .c (.ptr 0 0)), (2, .c (.int .i64 a2)), (4, .c (.ptr 10002000 0)), (7, .c (.own 10002001 false)), (9, .c (.int .i64 (0:Int)))]) (st' := [(0, .rc [.imm (.int .u8) i3.1, .int .i64 i3.2]), (1, .sl 3 (.int .i64) o1 .shallow), (2, .sl 124 (.pair (.int .i64) (.pair (.sl (.int .i64)) (.pair (.sl (.int .i64)) (.pair (.int .i64) (.sl (.sl (.int .i64))))))) o2 (.deep true .no)), (10002000, .rc [.own 1 false, .own 2 false]), (10002001, .sl 3 (.int .i64) i4 .shallow)]) rfl rfl ⟨⟨.inl rfl, rfl, trivial⟩, ⟨rfl, rfl⟩, ⟨rfl, rfl⟩, ⟨⟨⟨rfl, rfl⟩, trivial⟩, ⟨⟨rfl, rfl⟩, trivial⟩, trivial⟩, ⟨rfl, rfl⟩, trivial⟩ ⟨⟨⟨rfl, rfl⟩, rfl⟩, rfl, ⟨⟨rfl, rfl⟩, rfl⟩, ⟨⟨rfl, rfl⟩, trivial⟩, rfl, trivial⟩) ?_
      rintro ⟨i5, i6⟩ J1 he
      refine And.intro (fun hb => ?_) (fun hb => ?_)
      · have he := ok_t he hb
        refine And.intro (fun hb => ?_) (fun hb => ?_)
        · have he := ok_t he hb
          refine And.intro (fun hb => ?_) (fun hb => ?_)
          · have he := ok_f he hb
            have he := ok_rq he
            refine And.intro he.1 ?_
            have he := he.2
            have he := ok_rq he
            refine And.intro he.1 ?_
            have he := he.2
            refine And.intro (fun hb => ?_) (fun hb => ?_)
            · have he := ok_t he hb
              have he := ok_rq he
              refine And.intro he.1 ?_
              have he := he.2
              have he := ok_rq he
              refine And.intro he.1 ?_
              have he := he.2
              have he := ok_some he
              exact ⟨((i5 + (1:Int)), (i6 ++ [i5])), he, (leads_ren [(10002001, 56)] (l := [(0, .c (.ptr 0 0)), (2, .c (.int .i64 a2)), (4, .c (.ptr 10002000 0)), (7, .c (.own 10002001 false)), (9, .c (.int .i64 (i5 + (1:Int))))]) (st' := [(0, .rc [.imm (.int .u8) i3.1, .int .i64 i3.2]), (1, .sl 3 (.int .i64) o1 .shallow), (2, .sl 124 (.pair (.int .i64) (.pair (.sl (.int .i64)) (.pair (.sl (.int .i64)) (.pair (.int .i64) (.sl (.sl (.int .i64))))))) o2 (.deep true .no)), (10002000, .rc [.own 1 false, .own 2 false]), (10002001, .sl 3 (.int .i64) (i6 ++ [i5]) .shallow)]) rfl rfl ⟨⟨.inl rfl, rfl, trivial⟩, ⟨rfl, rfl⟩, ⟨rfl, rfl⟩, ⟨⟨⟨rfl, rfl⟩, trivial⟩, ⟨⟨rfl, rfl⟩, trivial⟩, trivial⟩, ⟨rfl, rfl⟩, trivial⟩ ⟨⟨⟨rfl, rfl⟩, rfl⟩, rfl, ⟨⟨rfl, rfl⟩, rfl⟩, ⟨⟨rfl, rfl⟩, trivial⟩, rfl, trivial⟩)⟩
            · have he := ok_f he hb
              have he := ok_rq he
              refine And.intro he.1 ?_
              have he := he.2
              have he := ok_some he
              exact ⟨((i5 + (1:Int)), i6), he, (leads_ren [] (l := [(0, .c (.ptr 0 0)), (2, .c (.int .i64 a2)), (4, .c (.ptr 10002000 0)), (7, .c (.own 10002001 false)), (9, .c (.int .i64 (i5 + (1:Int))))]) (st' := [(0, .rc [.imm (.int .u8) i3.1, .int .i64 i3.2]), (1, .sl 3 (.int .i64) o1 .shallow), (2, .sl 124 (.pair (.int .i64) (.pair (.sl (.int .i64)) (.pair (.sl (.int .i64)) (.pair (.int .i64) (.sl (.sl (.int .i64))))))) o2 (.deep true .no)), (10002000, .rc [.own 1 false, .own 2 false]), (10002001, .sl 3 (.int .i64) i6 .shallow)]) rfl rfl ⟨⟨.inl rfl, rfl, trivial⟩, ⟨rfl, rfl⟩, ⟨rfl, rfl⟩, ⟨⟨⟨rfl, rfl⟩, trivial⟩, ⟨⟨rfl, rfl⟩, trivial⟩, trivial⟩, ⟨rfl, rfl⟩, trivial⟩ ⟨⟨⟨rfl, rfl⟩, rfl⟩, rfl, ⟨⟨rfl, rfl⟩, rfl⟩, ⟨⟨rfl, rfl⟩, trivial⟩, rfl, trivial⟩)⟩
          · have he := ok_t he hb
            have he := ok_rq he
            refine And.intro he.1 ?_
            have he := he.2
            have he := ok_rq he
            refine And.intro he.1 ?_
            have he := he.2
            have he := ok_some he
            exact ⟨((i5 + (1:Int)), (i6 ++ [i5])), he, (leads_ren [(10002001, 56)] (l := [(0, .c (.ptr 0 0)), (2, .c (.int .i64 a2)), (4, .c (.ptr 10002000 0)), (7, .c (.own 10002001 false)), (9, .c (.int .i64 (i5 + (1:Int))))]) (st' := [(0, .rc [.imm (.int .u8) i3.1, .int .i64 i3.2]), (1, .sl 3 (.int .i64) o1 .shallow), (2, .sl 124 (.pair (.int .i64) (.pair (.sl (.int .i64)) (.pair (.sl (.int .i64)) (.pair (.int .i64) (.sl (.sl (.int .i64))))))) o2 (.deep true .no)), (10002000, .rc [.own 1 false, .own 2 false]), (10002001, .sl 3 (.int .i64) (i6 ++ [i5]) .shallow)]) rfl rfl ⟨⟨.inl rfl, rfl, trivial⟩, ⟨rfl, rfl⟩, ⟨rfl, rfl⟩, ⟨⟨⟨rfl, rfl⟩, trivial⟩, ⟨⟨rfl, rfl⟩, trivial⟩, trivial⟩, ⟨rfl, rfl⟩, trivial⟩ ⟨⟨⟨rfl, rfl⟩, rfl⟩, rfl, ⟨⟨rfl, rfl⟩, rfl⟩, ⟨⟨rfl, rfl⟩, trivial⟩, rfl, trivial⟩)⟩
        · have he := ok_f he hb
          exact ⟨i6, ok_up he, (leads_ren [(10003000, 10002001)] (l := [(0, .c (.ptr 0 0)), (2, .c (.int .i64 a2)), (7, .c (.own 10003000 false))]) (st' := [(0, .rc [.imm (.int .u8) i3.1, .int .i64 i3.2]), (1, .sl 3 (.int .i64) o1 .shallow), (2, .sl 124 (.pair (.int .i64) (.pair (.sl (.int .i64)) (.pair (.sl (.int .i64)) (.pair (.int .i64) (.sl (.sl (.int .i64))))))) o2 (.deep true .no)), (10003000, .sl 3 (.int .i64) i6 .shallow)]) rfl rfl ⟨⟨.inl rfl, rfl, trivial⟩, ⟨rfl, rfl⟩, ⟨rfl, rfl⟩, ⟨rfl, rfl⟩, trivial⟩ ⟨⟨⟨rfl, rfl⟩, rfl⟩, rfl, ⟨⟨rfl, rfl⟩, trivial⟩, trivial⟩)⟩
      · have he := ok_f he hb
        exact ⟨i6, ok_up he, (leads_ren [(10003000, 10002001)] (l := [(0, .c (.ptr 0 0)), (2, .c (.int .i64 a2)), (7, .c (.own 10003000 false))]) (st' := [(0, .rc [.imm (.int .u8) i3.1, .int .i64 i3.2]), (1, .sl 3 (.int .i64) o1 .shallow), (2, .sl 124 (.pair (.int .i64) (.pair (.sl (.int .i64)) (.pair (.sl (.int .i64)) (.pair (.int .i64) (.sl (.sl (.int .i64))))))) o2 (.deep true .no)), (10003000, .sl 3 (.int .i64) i6 .shallow)]) rfl rfl ⟨⟨.inl rfl, rfl, trivial⟩, ⟨rfl, rfl⟩, ⟨rfl, rfl⟩, ⟨rfl, rfl⟩, trivial⟩ ⟨⟨⟨rfl, rfl⟩, rfl⟩, rfl, ⟨⟨rfl, rfl⟩, trivial⟩, trivial⟩)⟩
  · skip
    refine loop_model mixed tys_ok t_spec_l6Some__rsd (S := Int × ((List Int) × Int) × (List Int)) (I := (fun (i, i1, i2) => (envOf [(0, .c (.ptr 0 0)), (2, .c (.int .i64 a2)), (4, .c (.ptr 10000000 0)), (7, .c (.own 10000001 false)), (8, .c (.int .i64 i))], [(0, .rc [.imm (.int .u8) i1.1, .int .i64 i1.2]), (1, .sl 3 (.int .i64) o1 .shallow), (2, .sl 124 (.pair (.int .i64) (.pair (.sl (.int .i64)) (.pair (.sl (.int .i64)) (.pair (.int .i64) (.sl (.sl (.int .i64))))))) o2 (.deep true .no)), (10000000, .rc [.own 1 false, .own 2 false]), (10000001, .sl 3 (.int .i64) i2 .shallow)]))) (f := spec_l6Some__rsd_l4 a2 o1) (K := (fun r => k (.c (.own 900 false)) [(0, .rc [.imm (.int .u8) r.1.1, .int .i64 r.1.2]), (1, .sl 3 (.int .i64) o1 .shallow), (2, .sl 124 (.pair (.int .i64) (.pair (.sl (.int .i64)) (.pair (.sl (.int .i64)) (.pair (.int .i64) (.sl (.sl (.int .i64))))))) o2 (.deep true .no)), (900, .sl 3 (.int .i64) r.2 .shallow)])) he (leads_ren [(10000000, 4), (10000001, 12)] (l := [(0, .c (.ptr 0 0)), (2, .c (.int .i64 a2)), (4, .c (.ptr 10000000 0)), (7, .c (.own 10000001 false)), (8, .c (.int .i64 (0:Int)))]) (st' := [(0, .rc [.imm (.int .u8) (o0_0, o0_1).1, .int .i64 (o0_0, o0_1).2]), (1, .sl 3 (.int .i64) o1 .shallow), (2, .sl 124 (.pair (.int .i64) (.pair (.sl (.int .i64)) (.pair (.sl (.int .i64)) (.pair (.int .i64) (.sl (.sl (.int .i64))))))) o2 (.deep true .no)), (10000000, .rc [.own 1 false, .own 2 false]), (10000001, .sl 3 (.int .i64) ([] : List Int) .shallow)]) rfl rfl ⟨⟨.inl rfl, rfl, trivial⟩, ⟨rfl, rfl⟩, ⟨rfl, rfl⟩, ⟨⟨⟨rfl, rfl⟩, trivial⟩, ⟨⟨rfl, rfl⟩, trivial⟩, trivial⟩, ⟨rfl, rfl⟩, trivial⟩ ⟨⟨⟨rfl, rfl⟩, rfl⟩, rfl, ⟨⟨rfl, rfl⟩, rfl⟩, ⟨⟨rfl, rfl⟩, trivial⟩, rfl, trivial⟩) ?_
    rintro ⟨i, i1, i2⟩ J1 he
    refine And.intro (fun hb => ?_) (fun hb => ?_)
    · have he := ok_t he hb
      obtain ⟨r2_, hr, he⟩ := ok_bind he
      refine ⟨r2_, hr, ?_⟩
      refine And.intro (fun hb => ?_) (fun hb => ?_)
      · have he := ok_t he hb
        have he := ok_rq he
        refine And.intro he.1 ?_
        have he := he.2
        have he := ok_rq he
        refine And.intro he.1 ?_
        have he := he.2
        have he := ok_some he
        exact ⟨((i + (1:Int)), r2_.2, (i2 ++ [i])), he, (leads_ren [(10000001, 26)] (l := [(0, .c (.ptr 0 0)), (2, .c (.int .i64 a2)), (4, .c (.ptr 10000000 0)), (7, .c (.own 10000001 false)), (8, .c (.int .i64 (i + (1:Int))))]) (st' := [(0, .rc [.imm (.int .u8) r2_.2.1, .int .i64 r2_.2.2]), (1, .sl 3 (.int .i64) o1 .shallow), (2, .sl 124 (.pair (.int .i64) (.pair (.sl (.int .i64)) (.pair (.sl (.int .i64)) (.pair (.int .i64) (.sl (.sl (.int .i64))))))) o2 (.deep true .no)), (10000000, .rc [.own 1 false, .own 2 false]), (10000001, .sl 3 (.int .i64) (i2 ++ [i]) .shallow)]) rfl rfl ⟨⟨.inl rfl, rfl, trivial⟩, ⟨rfl, rfl⟩, ⟨rfl, rfl⟩, ⟨⟨⟨rfl, rfl⟩, trivial⟩, ⟨⟨rfl, rfl⟩, trivial⟩, trivial⟩, ⟨rfl, rfl⟩, trivial⟩ ⟨⟨⟨rfl, rfl⟩, rfl⟩, rfl, ⟨⟨rfl, rfl⟩, rfl⟩, ⟨⟨rfl, rfl⟩, trivial⟩, rfl, trivial⟩)⟩
      · have he := ok_f he hb
        have he := ok_rq he
        refine And.intro he.1 ?_
        have he := he.2
        have he := ok_some he
        exact ⟨((i + (1:Int)), r2_.2, i2), he, (leads_ren [] (l := [(0, .c (.ptr 0 0)), (2, .c (.int .i64 a2)), (4, .c (.ptr 10000000 0)), (7, .c (.own 10000001 false)), (8, .c (.int .i64 (i + (1:Int))))]) (st' := [(0, .rc [.imm (.int .u8) r2_.2.1, .int .i64 r2_.2.2]), (1, .sl 3 (.int .i64) o1 .shallow), (2, .sl 124 (.pair (.int .i64) (.pair (.sl (.int .i64)) (.pair (.sl (.int .i64)) (.pair (.int .i64) (.sl (.sl (.int .i64))))))) o2 (.deep true .no)), (10000000, .rc [.own 1 false, .own 2 false]), (10000001, .sl 3 (.int .i64) i2 .shallow)]) rfl rfl ⟨⟨.inl rfl, rfl, trivial⟩, ⟨rfl, rfl⟩, ⟨rfl, rfl⟩, ⟨⟨⟨rfl, rfl⟩, trivial⟩, ⟨⟨rfl, rfl⟩, trivial⟩, trivial⟩, ⟨rfl, rfl⟩, trivial⟩ ⟨⟨⟨rfl, rfl⟩, rfl⟩, rfl, ⟨⟨rfl, rfl⟩, rfl⟩, ⟨⟨rfl, rfl⟩, trivial⟩, rfl, trivial⟩)⟩
    · have he := ok_f he hb
      exact ⟨(i1, i2), ok_up he, (leads_ren [(10001000, 10000000), (10001001, 10000001)] (l := [(0, .c (.ptr 0 0)), (2, .c (.int .i64 a2)), (4, .c (.ptr 10001000 0)), (7, .c (.own 10001001 false))]) (st' := [(0, .rc [.imm (.int .u8) i1.1, .int .i64 i1.2]), (1, .sl 3 (.int .i64) o1 .shallow), (2, .sl 124 (.pair (.int .i64) (.pair (.sl (.int .i64)) (.pair (.sl (.int .i64)) (.pair (.int .i64) (.sl (.sl (.int .i64))))))) o2 (.deep true .no)), (10001000, .rc [.own 1 false, .own 2 false]), (10001001, .sl 3 (.int .i64) i2 .shallow)]) rfl rfl ⟨⟨.inl rfl, rfl, trivial⟩, ⟨rfl, rfl⟩, ⟨rfl, rfl⟩, ⟨⟨⟨rfl, rfl⟩, trivial⟩, ⟨⟨rfl, rfl⟩, trivial⟩, trivial⟩, ⟨rfl, rfl⟩, trivial⟩ ⟨⟨⟨rfl, rfl⟩, rfl⟩, rfl, ⟨⟨rfl, rfl⟩, rfl⟩, ⟨⟨rfl, rfl⟩, trivial⟩, trivial⟩)⟩

noncomputable def c_spec_l6Draw__rsd : Con := fun args st => match args, st with
  | [.c (.ptr 0 0), .agg [.own 1 false, .own 2 false]], [(0, .rc [.imm (.int .u8) o0_0, .int .i64 o0_1]), (1, .sl 3 (.int .i64) o1 .shallow), (2, .sl 124 (.pair (.int .i64) (.pair (.sl (.int .i64)) (.pair (.sl (.int .i64)) (.pair (.int .i64) (.sl (.sl (.int .i64))))))) o2 (.deep true .no))] => .opt (((List Int) × Int) × Int × Int × (List Int) × (List Int) × (List (List Int))) (spec_l6Draw__rsd (o0_0, o0_1) o1 o2) (fun r => .ret (.agg [.int .i64 r.2.1, .own 901 false, .own 902 false, .int .i64 r.2.2.1, .own 903 false]) [(0, .rc [.imm (.int .u8) r.1.1, .int .i64 r.1.2]), (1, .sl 3 (.int .i64) o1 .shallow), (2, .sl 124 (.pair (.int .i64) (.pair (.sl (.int .i64)) (.pair (.sl (.int .i64)) (.pair (.int .i64) (.sl (.sl (.int .i64))))))) o2 (.deep true .no)), (900, .rc [.int .i64 r.2.1, .own 901 false, .own 902 false, .int .i64 r.2.2.1, .own 903 false]), (901, .sl 3 (.int .i64) r.2.2.2.1 .shallow), (902, .sl 3 (.int .i64) r.2.2.2.2.1 .shallow), (903, .sl 23 (.sl (.int .i64)) r.2.2.2.2.2 (.deep true .no))])
  | _, _ => .fail

noncomputable def C_spec_l6Draw__rsd : Cfg := { y := tys, n := 77, h := 3, tab := [(99, c_spec_l17Rd_num), (166, c_spec_l17Rd_pick), (259, c_spec_l6Some__rsd)], cut := [9, 19], hand := [(259, [1])], good := [], deep := [66], sched := [(8, (.first 0 (.first 2 (.alt 1 (.alt 3 (.alt 4 (.alt 5 (.alt 6 (.first 7 (.alt 8 .done .stop)) .stop) .stop) .stop) .stop) (.alt 3 (.alt 1 (.alt 4 (.alt 5 (.alt 6 (.first 7 (.alt 8 .done .stop)) .stop) .stop) .stop) (.alt 4 (.alt 1 (.alt 5 (.alt 6 (.first 7 (.alt 8 .done .stop)) .stop) .stop) (.alt 5 (.alt 1 (.alt 6 (.first 7 (.alt 8 .done .stop)) .stop) .stop) .stop)) .stop)) .stop)))))] }

theorem t_spec_l6Draw__rsd : TabOk Try.prog C_spec_l6Draw__rsd := by
  refine tabOk_of ?_
  simp only [C_spec_l6Draw__rsd, List.forall_mem_cons]
  exact ⟨k_spec_l17Rd_num, k_spec_l17Rd_pick, k_spec_l6Some__rsd, fun p h => by cases h⟩

theorem k_spec_l6Draw__rsd : Entry Try.prog 204 c_spec_l6Draw__rsd := by
  refine entry_by (C := C_spec_l6Draw__rsd) mixed tys_ok t_spec_l6Draw__rsd (fn := Try.f204) (c := bd Try.f204) (by kernel_rfl) (by kernel_rfl) (by kernel_rfl) (by kernel_rfl) ?_
  intro args st k he
  unfold c_spec_l6Draw__rsd at he
  split at he
  rotate_left
  · exact he.elim
  rename_i o0_0 o0_1 o1 o2
  have he : Ok (spec_l6Draw__rsd (o0_0, o0_1) o1 o2) (fun r => k (.agg [.int .i64 r.2.1, .own 901 false, .own 902 false, .int .i64 r.2.2.1, .own 903 false]) [(0, .rc [.imm (.int .u8) r.1.1, .int .i64 r.1.2]), (1, .sl 3 (.int .i64) o1 .shallow), (2, .sl 124 (.pair (.int .i64) (.pair (.sl (.int .i64)) (.pair (.sl (.int .i64)) (.pair (.int .i64) (.sl (.sl (.int .i64))))))) o2 (.deep true .no)), (900, .rc [.int .i64 r.2.1, .own 901 false, .own 902 false, .int .i64 r.2.2.1, .own 903 false]), (901, .sl 3 (.int .i64) r.2.2.2.1 .shallow), (902, .sl 3 (.int .i64) r.2.2.2.2.1 .shallow), (903, .sl 23 (.sl (.int .i64)) r.2.2.2.2.2 (.deep true .no))]) := he
  refine ⟨rfl, rfl, ?_⟩
  obtain ⟨r1_, hr, he⟩ := ok_bind he
  refine ⟨r1_, hr, ?_⟩
  obtain ⟨r2_, hr, he⟩ := ok_bind he
  refine ⟨r2_, hr, ?_⟩
  refine And.intro (fun hb => ?_) (fun hb => ?_)
  · have he := ok_t he hb
    refine seq_model mixed tys_ok t_spec_l6Draw__rsd (S := ((List Int) × Int) × (List Int)) (I := (fun (i2, i_21) => (envOf [(0, .c (.ptr 0 0)), (4, .c (.ptr 10001000 0)), (5, .c (.ptr 10001001 0))], [(0, .rc [.imm (.int .u8) i2.1, .int .i64 i2.2]), (1, .sl 3 (.int .i64) o1 .shallow), (2, .sl 124 (.pair (.int .i64) (.pair (.sl (.int .i64)) (.pair (.sl (.int .i64)) (.pair (.int .i64) (.sl (.sl (.int .i64))))))) o2 (.deep true .no)), (10001000, .rc [.int .i64 (0:Int), .nil, .nil, .int .i64 (0:Int), .nil]), (10001001, .rc [.int .i64 r1_.1, .own 10001002 false, .own 10001003 false, .int .i64 (0:Int), .nil]), (10001002, .sl 3 (.int .i64) r2_.2 .shallow), (10001003, .sl 3 (.int .i64) i_21 .shallow)]))) (B := fun s => Ok (spec_l6Draw__rsd_j1 r1_ r2_ s) (fun r => k (.agg [.int .i64 r.2.1, .own 901 false, .own 902 false, .int .i64 r.2.2.1, .own 903 false]) [(0, .rc [.imm (.int .u8) r.1.1, .int .i64 r.1.2]), (1, .sl 3 (.int .i64) o1 .shallow), (2, .sl 124 (.pair (.int .i64) (.pair (.sl (.int .i64)) (.pair (.sl (.int .i64)) (.pair (.int .i64) (.sl (.sl (.int .i64))))))) o2 (.deep true .no)), (900, .rc [.int .i64 r.2.1, .own 901 false, .own 902 false, .int .i64 r.2.2.1, .own 903 false]), (901, .sl 3 (.int .i64) r.2.2.2.1 .shallow), (902, .sl 3 (.int .i64) r.2.2.2.2.1 .shallow), (903, .sl 23 (.sl (.int .i64)) r.2.2.2.2.2 (.deep true .no))])) ?_ ?_
    · rintro ⟨i2, i_21⟩ he
      obtain ⟨r6_, hr, he⟩ := ok_bind he
      refine ⟨r6_, hr, ?_⟩
      have he := ok_some he
      exact ⟨rfl, _, _, (leads_ren [(900, 10001000), (901, 10001002), (902, 10001003)] (l := [(4, .c (.ptr 900 0))]) (st' := [(0, .rc [.imm (.int .u8) r6_.2.1, .int .i64 r6_.2.2]), (1, .sl 3 (.int .i64) o1 .shallow), (2, .sl 124 (.pair (.int .i64) (.pair (.sl (.int .i64)) (.pair (.sl (.int .i64)) (.pair (.int .i64) (.sl (.sl (.int .i64))))))) o2 (.deep true .no)), (900, .rc [.int .i64 r1_.1, .own 901 false, .own 902 false, .int .i64 r6_.1, .own 903 false]), (901, .sl 3 (.int .i64) r2_.2 .shallow), (902, .sl 3 (.int .i64) i_21 .shallow), (903, .sl 23 (.sl (.int .i64)) ([] : List (List Int)) (.deep true .no))]) rfl rfl ⟨⟨.inl rfl, rfl, trivial⟩, ⟨rfl, rfl⟩, ⟨rfl, rfl⟩, ⟨rfl, ⟨⟨rfl, rfl⟩, trivial⟩, ⟨⟨rfl, rfl⟩, trivial⟩, rfl, ⟨rfl, trivial⟩, trivial⟩, ⟨rfl, rfl⟩, ⟨rfl, rfl⟩, trivial, trivial⟩ ⟨⟨⟨rfl, rfl⟩, rfl⟩, trivial⟩), he⟩
    · skip
      refine loop_model mixed tys_ok t_spec_l6Draw__rsd (S := Int × ((List Int) × Int) × (List Int)) (I := (fun (i, i1, i_2) => (envOf [(0, .c (.ptr 0 0)), (4, .c (.ptr 10000000 0)), (5, .c (.ptr 10000001 0)), (6, .c (.int .i64 i))], [(0, .rc [.imm (.int .u8) i1.1, .int .i64 i1.2]), (1, .sl 3 (.int .i64) o1 .shallow), (2, .sl 124 (.pair (.int .i64) (.pair (.sl (.int .i64)) (.pair (.sl (.int .i64)) (.pair (.int .i64) (.sl (.sl (.int .i64))))))) o2 (.deep true .no)), (10000000, .rc [.int .i64 (0:Int), .nil, .nil, .int .i64 (0:Int), .nil]), (10000001, .rc [.int .i64 r1_.1, .own 10000002 false, .own 10000003 false, .int .i64 (0:Int), .nil]), (10000002, .sl 3 (.int .i64) r2_.2 .shallow), (10000003, .sl 3 (.int .i64) i_2 .shallow)]))) (f := spec_l6Draw__rsd_l1 r1_ r2_) (K := (fun r => k (.agg [.int .i64 r.2.1, .own 901 false, .own 902 false, .int .i64 r.2.2.1, .own 903 false]) [(0, .rc [.imm (.int .u8) r.1.1, .int .i64 r.1.2]), (1, .sl 3 (.int .i64) o1 .shallow), (2, .sl 124 (.pair (.int .i64) (.pair (.sl (.int .i64)) (.pair (.sl (.int .i64)) (.pair (.int .i64) (.sl (.sl (.int .i64))))))) o2 (.deep true .no)), (900, .rc [.int .i64 r.2.1, .own 901 false, .own 902 false, .int .i64 r.2.2.1, .own 903 false]), (901, .sl 3 (.int .i64) r.2.2.2.1 .shallow), (902, .sl 3 (.int .i64) r.2.2.2.2.1 .shallow), (903, .sl 23 (.sl (.int .i64)) r.2.2.2.2.2 (.deep true .no))])) he (leads_ren [(10000000, 4), (10000001, 5), (10000002, 17900)] (l := [(0, .c (.ptr 0 0)), (4, .c (.ptr 10000000 0)), (5, .c (.ptr 10000001 0)), (6, .c (.int .i64 (0:Int)))]) (st' := [(0, .rc [.imm (.int .u8) r2_.1.1, .int .i64 r2_.1.2]), (1, .sl 3 (.int .i64) o1 .shallow), (2, .sl 124 (.pair (.int .i64) (.pair (.sl (.int .i64)) (.pair (.sl (.int .i64)) (.pair (.int .i64) (.sl (.sl (.int .i64))))))) o2 (.deep true .no)), (10000000, .rc [.int .i64 (0:Int), .nil, .nil, .int .i64 (0:Int), .nil]), (10000001, .rc [.int .i64 r1_.1, .own 10000002 false, .own 10000003 false, .int .i64 (0:Int), .nil]), (10000002, .sl 3 (.int .i64) r2_.2 .shallow), (10000003, .sl 3 (.int .i64) ([] : List Int) .shallow)]) rfl rfl ⟨⟨.inl rfl, rfl, trivial⟩, ⟨rfl, rfl⟩, ⟨rfl, rfl⟩, ⟨rfl, rfl, rfl, rfl, rfl, trivial⟩, ⟨rfl, ⟨⟨rfl, rfl⟩, trivial⟩, ⟨rfl, trivial⟩, rfl, rfl, trivial⟩, ⟨rfl, rfl⟩, trivial, trivial⟩ ⟨⟨⟨rfl, rfl⟩, rfl⟩, ⟨⟨rfl, rfl⟩, rfl⟩, ⟨⟨rfl, rfl⟩, rfl⟩, rfl, trivial⟩) ?_
      rintro ⟨i, i1, i_2⟩ J1 he
      refine And.intro (fun hb => ?_) (fun hb => ?_)
      · have he := ok_t he hb
        refine And.intro (by kernel_rfl) ?_
        obtain ⟨r5_, hq1, he⟩ := ok_bind he
        have he := ok_rq he
        have hq2 := he.1
        have he := he.2
        refine And.intro ?_ (And.intro ?_ (trivial))
        · skip
          refine And.intro ?_ trivial
          refine And.intro ?_ trivial
          refine ⟨r5_, hq1, ?_⟩
          refine And.intro ?_ trivial
          refine And.intro ?_ trivial
          refine And.intro hq2 ?_
          refine And.intro ?_ trivial
          have he := ok_rq he
          refine And.intro he.1 ?_
          have he := he.2
          have he := ok_some he
          exact ⟨((i + (1:Int)), r5_.2, (i_2 ++ [r5_.1])), he, (leads_ren [(10000003, 35)] (l := [(0, .c (.ptr 0 0)), (4, .c (.ptr 10000000 0)), (5, .c (.ptr 10000001 0)), (6, .c (.int .i64 (i + (1:Int))))]) (st' := [(0, .rc [.imm (.int .u8) r5_.2.1, .int .i64 r5_.2.2]), (1, .sl 3 (.int .i64) o1 .shallow), (2, .sl 124 (.pair (.int .i64) (.pair (.sl (.int .i64)) (.pair (.sl (.int .i64)) (.pair (.int .i64) (.sl (.sl (.int .i64))))))) o2 (.deep true .no)), (10000000, .rc [.int .i64 (0:Int), .nil, .nil, .int .i64 (0:Int), .nil]), (10000001, .rc [.int .i64 r1_.1, .own 10000002 false, .own 10000003 false, .int .i64 (0:Int), .nil]), (10000002, .sl 3 (.int .i64) r2_.2 .shallow), (10000003, .sl 3 (.int .i64) (i_2 ++ [r5_.1]) .shallow)]) rfl rfl ⟨⟨.inl rfl, rfl, trivial⟩, ⟨rfl, rfl⟩, ⟨rfl, rfl⟩, ⟨rfl, rfl, rfl, rfl, rfl, trivial⟩, ⟨rfl, ⟨⟨rfl, rfl⟩, trivial⟩, ⟨⟨rfl, rfl⟩, trivial⟩, rfl, rfl, trivial⟩, ⟨rfl, rfl⟩, ⟨rfl, rfl⟩, trivial⟩ ⟨⟨⟨rfl, rfl⟩, rfl⟩, ⟨⟨rfl, rfl⟩, rfl⟩, ⟨⟨rfl, rfl⟩, rfl⟩, rfl, trivial⟩)⟩
        · skip
          refine And.intro ?_ (And.intro ?_ (trivial))
          · skip
            refine And.intro ?_ trivial
            refine ⟨r5_, hq1, ?_⟩
            refine And.intro ?_ trivial
            refine And.intro ?_ trivial
            refine And.intro hq2 ?_
            refine And.intro ?_ trivial
            have he := ok_rq he
            refine And.intro he.1 ?_
            have he := he.2
            have he := ok_some he
            exact ⟨((i + (1:Int)), r5_.2, (i_2 ++ [r5_.1])), he, (leads_ren [(10000003, 35)] (l := [(0, .c (.ptr 0 0)), (4, .c (.ptr 10000000 0)), (5, .c (.ptr 10000001 0)), (6, .c (.int .i64 (i + (1:Int))))]) (st' := [(0, .rc [.imm (.int .u8) r5_.2.1, .int .i64 r5_.2.2]), (1, .sl 3 (.int .i64) o1 .shallow), (2, .sl 124 (.pair (.int .i64) (.pair (.sl (.int .i64)) (.pair (.sl (.int .i64)) (.pair (.int .i64) (.sl (.sl (.int .i64))))))) o2 (.deep true .no)), (10000000, .rc [.int .i64 (0:Int), .nil, .nil, .int .i64 (0:Int), .nil]), (10000001, .rc [.int .i64 r1_.1, .own 10000002 false, .own 10000003 false, .int .i64 (0:Int), .nil]), (10000002, .sl 3 (.int .i64) r2_.2 .shallow), (10000003, .sl 3 (.int .i64) (i_2 ++ [r5_.1]) .shallow)]) rfl rfl ⟨⟨.inl rfl, rfl, trivial⟩, ⟨rfl, rfl⟩, ⟨rfl, rfl⟩, ⟨rfl, rfl, rfl, rfl, rfl, trivial⟩, ⟨rfl, ⟨⟨rfl, rfl⟩, trivial⟩, ⟨⟨rfl, rfl⟩, trivial⟩, rfl, rfl, trivial⟩, ⟨rfl, rfl⟩, ⟨rfl, rfl⟩, trivial⟩ ⟨⟨⟨rfl, rfl⟩, rfl⟩, ⟨⟨rfl, rfl⟩, rfl⟩, ⟨⟨rfl, rfl⟩, rfl⟩, rfl, trivial⟩)⟩
          · skip
            refine ⟨r5_, hq1, ?_⟩
            refine And.intro ?_ (And.intro ?_ (trivial))
            · skip
              refine And.intro ?_ trivial
              refine And.intro ?_ trivial
              refine And.intro hq2 ?_
              refine And.intro ?_ trivial
              have he := ok_rq he
              refine And.intro he.1 ?_
              have he := he.2
              have he := ok_some he
              exact ⟨((i + (1:Int)), r5_.2, (i_2 ++ [r5_.1])), he, (leads_ren [(10000003, 35)] (l := [(0, .c (.ptr 0 0)), (4, .c (.ptr 10000000 0)), (5, .c (.ptr 10000001 0)), (6, .c (.int .i64 (i + (1:Int))))]) (st' := [(0, .rc [.imm (.int .u8) r5_.2.1, .int .i64 r5_.2.2]), (1, .sl 3 (.int .i64) o1 .shallow), (2, .sl 124 (.pair (.int .i64) (.pair (.sl (.int .i64)) (.pair (.sl (.int .i64)) (.pair (.int .i64) (.sl (.sl (.int .i64))))))) o2 (.deep true .no)), (10000000, .rc [.int .i64 (0:Int), .nil, .nil, .int .i64 (0:Int), .nil]), (10000001, .rc [.int .i64 r1_.1, .own 10000002 false, .own 10000003 false, .int .i64 (0:Int), .nil]), (10000002, .sl 3 (.int .i64) r2_.2 .shallow), (10000003, .sl 3 (.int .i64) (i_2 ++ [r5_.1]) .shallow)]) rfl rfl ⟨⟨.inl rfl, rfl, trivial⟩, ⟨rfl, rfl⟩, ⟨rfl, rfl⟩, ⟨rfl, rfl, rfl, rfl, rfl, trivial⟩, ⟨rfl, ⟨⟨rfl, rfl⟩, trivial⟩, ⟨⟨rfl, rfl⟩, trivial⟩, rfl, rfl, trivial⟩, ⟨rfl, rfl⟩, ⟨rfl, rfl⟩, trivial⟩ ⟨⟨⟨rfl, rfl⟩, rfl⟩, ⟨⟨rfl, rfl⟩, rfl⟩, ⟨⟨rfl, rfl⟩, rfl⟩, rfl, trivial⟩)⟩
            · skip
              refine And.intro ?_ trivial
              refine And.intro ?_ trivial
              refine And.intro hq2 ?_
              refine And.intro ?_ trivial
              have he := ok_rq he
              refine And.intro he.1 ?_
              have he := he.2
              have he := ok_some he
              exact ⟨((i + (1:Int)), r5_.2, (i_2 ++ [r5_.1])), he, (leads_ren [(10000003, 35)] (l := [(0, .c (.ptr 0 0)), (4, .c (.ptr 10000000 0)), (5, .c (.ptr 10000001 0)), (6, .c (.int .i64 (i + (1:Int))))]) (st' := [(0, .rc [.imm (.int .u8) r5_.2.1, .int .i64 r5_.2.2]), (1, .sl 3 (.int .i64) o1 .shallow), (2, .sl 124 (.pair (.int .i64) (.pair (.sl (.int .i64)) (.pair (.sl (.int .i64)) (.pair (.int .i64) (.sl (.sl (.int .i64))))))) o2 (.deep true .no)), (10000000, .rc [.int .i64 (0:Int), .nil, .nil, .int .i64 (0:Int), .nil]), (10000001, .rc [.int .i64 r1_.1, .own 10000002 false, .own 10000003 false, .int .i64 (0:Int), .nil]), (10000002, .sl 3 (.int .i64) r2_.2 .shallow), (10000003, .sl 3 (.int .i64) (i_2 ++ [r5_.1]) .shallow)]) rfl rfl ⟨⟨.inl rfl, rfl, trivial⟩, ⟨rfl, rfl⟩, ⟨rfl, rfl⟩, ⟨rfl, rfl, rfl, rfl, rfl, trivial⟩, ⟨rfl, ⟨⟨rfl, rfl⟩, trivial⟩, ⟨⟨rfl, rfl⟩, trivial⟩, rfl, rfl, trivial⟩, ⟨rfl, rfl⟩, ⟨rfl, rfl⟩, trivial⟩ ⟨⟨⟨rfl, rfl⟩, rfl⟩, ⟨⟨rfl, rfl⟩, rfl⟩, ⟨⟨rfl, rfl⟩, rfl⟩, rfl, trivial⟩)⟩
      · have he := ok_f he hb
        exact ⟨(i1, i_2), ok_up he, (leads_ren [(10001000, 10000000), (10001001, 10000001), (10001002, 10000002), (10001003, 10000003)] (l := [(0, .c (.ptr 0 0)), (4, .c (.ptr 10001000 0)), (5, .c (.ptr 10001001 0))]) (st' := [(0, .rc [.imm (.int .u8) i1.1, .int .i64 i1.2]), (1, .sl 3 (.int .i64) o1 .shallow), (2, .sl 124 (.pair (.int .i64) (.pair (.sl (.int .i64)) (.pair (.sl (.int .i64)) (.pair (.int .i64) (.sl (.sl (.int .i64))))))) o2 (.deep true .no)), (10001000, .rc [.int .i64 (0:Int), .nil, .nil, .int .i64 (0:Int), .nil]), (10001001, .rc [.int .i64 r1_.1, .own 10001002 false, .own 10001003 false, .int .i64 (0:Int), .nil]), (10001002, .sl 3 (.int .i64) r2_.2 .shallow), (10001003, .sl 3 (.int .i64) i_2 .shallow)]) rfl rfl ⟨⟨.inl rfl, rfl, trivial⟩, ⟨rfl, rfl⟩, ⟨rfl, rfl⟩, ⟨rfl, rfl, rfl, rfl, rfl, trivial⟩, ⟨rfl, ⟨⟨rfl, rfl⟩, trivial⟩, ⟨⟨rfl, rfl⟩, trivial⟩, rfl, rfl, trivial⟩, ⟨rfl, rfl⟩, ⟨rfl, rfl⟩, trivial⟩ ⟨⟨⟨rfl, rfl⟩, rfl⟩, ⟨⟨rfl, rfl⟩, rfl⟩, ⟨⟨rfl, rfl⟩, rfl⟩, trivial⟩)⟩
  · have he := ok_f he hb
    refine And.intro (fun hb => ?_) (fun hb => ?_)
    · have he := ok_t he hb
      obtain ⟨r7_, hr, he⟩ := ok_bind he
      refine ⟨r7_, hr, ?_⟩
      refine loop_model mixed tys_ok t_spec_l6Draw__rsd (S := Int × ((List Int) × Int) × (List (List Int))) (I := (fun (i3, i9, i_4) => (envOf [(0, .c (.ptr 0 0)), (4, .c (.ptr 10002000 0)), (5, .c (.ptr 10002001 0)), (7, .c (.int .i64 i3))], [(0, .rc [.imm (.int .u8) i9.1, .int .i64 i9.2]), (1, .sl 3 (.int .i64) o1 .shallow), (2, .sl 124 (.pair (.int .i64) (.pair (.sl (.int .i64)) (.pair (.sl (.int .i64)) (.pair (.int .i64) (.sl (.sl (.int .i64))))))) o2 (.deep true .no)), (10002000, .rc [.int .i64 (0:Int), .nil, .nil, .int .i64 (0:Int), .nil]), (10002001, .rc [.int .i64 r1_.1, .own 10002002 false, .nil, .int .i64 (0:Int), .own 10002003 false]), (10002002, .sl 3 (.int .i64) r2_.2 .shallow), (10002003, .sl 23 (.sl (.int .i64)) i_4 (.deep true .no))]))) (f := spec_l6Draw__rsd_l2 r1_ r2_) (K := (fun r => k (.agg [.int .i64 r.2.1, .own 901 false, .own 902 false, .int .i64 r.2.2.1, .own 903 false]) [(0, .rc [.imm (.int .u8) r.1.1, .int .i64 r.1.2]), (1, .sl 3 (.int .i64) o1 .shallow), (2, .sl 124 (.pair (.int .i64) (.pair (.sl (.int .i64)) (.pair (.sl (.int .i64)) (.pair (.int .i64) (.sl (.sl (.int .i64))))))) o2 (.deep true .no)), (900, .rc [.int .i64 r.2.1, .own 901 false, .own 902 false, .int .i64 r.2.2.1, .own 903 false]), (901, .sl 3 (.int .i64) r.2.2.2.1 .shallow), (902, .sl 3 (.int .i64) r.2.2.2.2.1 .shallow), (903, .sl 23 (.sl (.int .i64)) r.2.2.2.2.2 (.deep true .no))])) he (leads_ren [(10002000, 4), (10002001, 5), (10002002, 17900)] (l := [(0, .c (.ptr 0 0)), (4, .c (.ptr 10002000 0)), (5, .c (.ptr 10002001 0)), (7, .c (.int .i64 r7_.1))]) (st' := [(0, .rc [.imm (.int .u8) r7_.2.1, .int .i64 r7_.2.2]), (1, .sl 3 (.int .i64) o1 .shallow), (2, .sl 124 (.pair (.int .i64) (.pair (.sl (.int .i64)) (.pair (.sl (.int .i64)) (.pair (.int .i64) (.sl (.sl (.int .i64))))))) o2 (.deep true .no)), (10002000, .rc [.int .i64 (0:Int), .nil, .nil, .int .i64 (0:Int), .nil]), (10002001, .rc [.int .i64 r1_.1, .own 10002002 false, .nil, .int .i64 (0:Int), .own 10002003 false]), (10002002, .sl 3 (.int .i64) r2_.2 .shallow), (10002003, .sl 23 (.sl (.int .i64)) ([] : List (List Int)) (.deep true .no))]) rfl rfl ⟨⟨.inl rfl, rfl, trivial⟩, ⟨rfl, rfl⟩, ⟨rfl, rfl⟩, ⟨rfl, rfl, rfl, rfl, rfl, trivial⟩, ⟨rfl, ⟨⟨rfl, rfl⟩, trivial⟩, rfl, rfl, ⟨rfl, trivial⟩, trivial⟩, ⟨rfl, rfl⟩, trivial, trivial⟩ ⟨⟨⟨rfl, rfl⟩, rfl⟩, ⟨⟨rfl, rfl⟩, rfl⟩, ⟨⟨rfl, rfl⟩, rfl⟩, rfl, trivial⟩) ?_
      rintro ⟨i3, i9, i_4⟩ J1 he
      refine And.intro (fun hb => ?_) (fun hb => ?_)
      · have he := ok_t he hb
        refine seq_model mixed tys_ok t_spec_l6Draw__rsd (S := ((List Int) × Int) × (List Int)) (I := (fun (i13, i14) => (envOf [(0, .c (.ptr 0 0)), (4, .c (.ptr 10006000 0)), (5, .c (.ptr 10006001 0)), (7, .c (.int .i64 i3)), (8, .c (.own 10006002 false))], [(0, .rc [.imm (.int .u8) i13.1, .int .i64 i13.2]), (1, .sl 3 (.int .i64) o1 .shallow), (2, .sl 124 (.pair (.int .i64) (.pair (.sl (.int .i64)) (.pair (.sl (.int .i64)) (.pair (.int .i64) (.sl (.sl (.int .i64))))))) o2 (.deep true .no)), (10006000, .rc [.int .i64 (0:Int), .nil, .nil, .int .i64 (0:Int), .nil]), (10006001, .rc [.int .i64 r1_.1, .own 10006003 false, .nil, .int .i64 (0:Int), .own 10006004 false]), (10006002, .sl 3 (.int .i64) i14 .shallow), (10006003, .sl 3 (.int .i64) r2_.2 .shallow), (10006004, .sl 23 (.sl (.int .i64)) i_4 (.deep true .no))]))) (B := fun s => Ok (spec_l6Draw__rsd_j2 i3 i_4 s) (LK J1 (fun r => k (.agg [.int .i64 r.2.1, .own 901 false, .own 902 false, .int .i64 r.2.2.1, .own 903 false]) [(0, .rc [.imm (.int .u8) r.1.1, .int .i64 r.1.2]), (1, .sl 3 (.int .i64) o1 .shallow), (2, .sl 124 (.pair (.int .i64) (.pair (.sl (.int .i64)) (.pair (.sl (.int .i64)) (.pair (.int .i64) (.sl (.sl (.int .i64))))))) o2 (.deep true .no)), (900, .rc [.int .i64 r.2.1, .own 901 false, .own 902 false, .int .i64 r.2.2.1, .own 903 false]), (901, .sl 3 (.int .i64) r.2.2.2.1 .shallow), (902, .sl 3 (.int .i64) r.2.2.2.2.1 .shallow), (903, .sl 23 (.sl (.int .i64)) r.2.2.2.2.2 (.deep true .no))]))) ?_ ?_
        · rintro ⟨i13, i14⟩ he
          have he := ok_rq he
          refine And.intro he.1 ?_
          have he := he.2
          have he := ok_rq he
          refine And.intro he.1 ?_
          have he := he.2
          have he := ok_some he
          exact ⟨((i3 - (1:Int)), i13, (i_4 ++ [i14])), he, (leads_ren [(10002000, 10006000), (10002001, 10006001), (10002002, 10006003), (10002003, 67)] (l := [(0, .c (.ptr 0 0)), (4, .c (.ptr 10002000 0)), (5, .c (.ptr 10002001 0)), (7, .c (.int .i64 (i3 - (1:Int))))]) (st' := [(0, .rc [.imm (.int .u8) i13.1, .int .i64 i13.2]), (1, .sl 3 (.int .i64) o1 .shallow), (2, .sl 124 (.pair (.int .i64) (.pair (.sl (.int .i64)) (.pair (.sl (.int .i64)) (.pair (.int .i64) (.sl (.sl (.int .i64))))))) o2 (.deep true .no)), (10002000, .rc [.int .i64 (0:Int), .nil, .nil, .int .i64 (0:Int), .nil]), (10002001, .rc [.int .i64 r1_.1, .own 10002002 false, .nil, .int .i64 (0:Int), .own 10002003 false]), (10002002, .sl 3 (.int .i64) r2_.2 .shallow), (10002003, .sl 23 (.sl (.int .i64)) (i_4 ++ [i14]) (.deep true .no))]) rfl rfl ⟨⟨.inl rfl, rfl, trivial⟩, ⟨rfl, rfl⟩, ⟨rfl, rfl⟩, ⟨rfl, rfl, rfl, rfl, rfl, trivial⟩, ⟨rfl, ⟨⟨rfl, rfl⟩, trivial⟩, rfl, rfl, ⟨⟨rfl, rfl⟩, trivial⟩, trivial⟩, ⟨rfl, rfl⟩, ⟨rfl, rfl⟩, trivial⟩ ⟨⟨⟨rfl, rfl⟩, rfl⟩, ⟨⟨rfl, rfl⟩, rfl⟩, ⟨⟨rfl, rfl⟩, rfl⟩, rfl, trivial⟩)⟩
        · skip
          refine loop_model mixed tys_ok t_spec_l6Draw__rsd (S := Int × ((List Int) × Int) × (List Int)) (I := (fun (i10, i11, i12) => (envOf [(0, .c (.ptr 0 0)), (4, .c (.ptr 10005000 0)), (5, .c (.ptr 10005001 0)), (7, .c (.int .i64 i3)), (8, .c (.own 10005002 false)), (9, .c (.int .i64 i10))], [(0, .rc [.imm (.int .u8) i11.1, .int .i64 i11.2]), (1, .sl 3 (.int .i64) o1 .shallow), (2, .sl 124 (.pair (.int .i64) (.pair (.sl (.int .i64)) (.pair (.sl (.int .i64)) (.pair (.int .i64) (.sl (.sl (.int .i64))))))) o2 (.deep true .no)), (10005000, .rc [.int .i64 (0:Int), .nil, .nil, .int .i64 (0:Int), .nil]), (10005001, .rc [.int .i64 r1_.1, .own 10005003 false, .nil, .int .i64 (0:Int), .own 10005004 false]), (10005002, .sl 3 (.int .i64) i12 .shallow), (10005003, .sl 3 (.int .i64) r2_.2 .shallow), (10005004, .sl 23 (.sl (.int .i64)) i_4 (.deep true .no))]))) (f := spec_l6Draw__rsd_l3 r2_ i3 i_4) (K := (LK J1 (fun r => k (.agg [.int .i64 r.2.1, .own 901 false, .own 902 false, .int .i64 r.2.2.1, .own 903 false]) [(0, .rc [.imm (.int .u8) r.1.1, .int .i64 r.1.2]), (1, .sl 3 (.int .i64) o1 .shallow), (2, .sl 124 (.pair (.int .i64) (.pair (.sl (.int .i64)) (.pair (.sl (.int .i64)) (.pair (.int .i64) (.sl (.sl (.int .i64))))))) o2 (.deep true .no)), (900, .rc [.int .i64 r.2.1, .own 901 false, .own 902 false, .int .i64 r.2.2.1, .own 903 false]), (901, .sl 3 (.int .i64) r.2.2.2.1 .shallow), (902, .sl 3 (.int .i64) r.2.2.2.2.1 .shallow), (903, .sl 23 (.sl (.int .i64)) r.2.2.2.2.2 (.deep true .no))]))) he (leads_ren [(10005000, 10002000), (10005001, 10002001), (10005002, 50), (10005003, 10002002), (10005004, 10002003)] (l := [(0, .c (.ptr 0 0)), (4, .c (.ptr 10005000 0)), (5, .c (.ptr 10005001 0)), (7, .c (.int .i64 i3)), (8, .c (.own 10005002 false)), (9, .c (.int .i64 (0:Int)))]) (st' := [(0, .rc [.imm (.int .u8) i9.1, .int .i64 i9.2]), (1, .sl 3 (.int .i64) o1 .shallow), (2, .sl 124 (.pair (.int .i64) (.pair (.sl (.int .i64)) (.pair (.sl (.int .i64)) (.pair (.int .i64) (.sl (.sl (.int .i64))))))) o2 (.deep true .no)), (10005000, .rc [.int .i64 (0:Int), .nil, .nil, .int .i64 (0:Int), .nil]), (10005001, .rc [.int .i64 r1_.1, .own 10005003 false, .nil, .int .i64 (0:Int), .own 10005004 false]), (10005002, .sl 3 (.int .i64) ([] : List Int) .shallow), (10005003, .sl 3 (.int .i64) r2_.2 .shallow), (10005004, .sl 23 (.sl (.int .i64)) i_4 (.deep true .no))]) rfl rfl ⟨⟨.inl rfl, rfl, trivial⟩, ⟨rfl, rfl⟩, ⟨rfl, rfl⟩, ⟨rfl, rfl, rfl, rfl, rfl, trivial⟩, ⟨rfl, ⟨⟨rfl, rfl⟩, trivial⟩, rfl, rfl, ⟨⟨rfl, rfl⟩, trivial⟩, trivial⟩, ⟨rfl, rfl⟩, ⟨rfl, rfl⟩, ⟨rfl, rfl⟩, trivial⟩ ⟨⟨⟨rfl, rfl⟩, rfl⟩, ⟨⟨rfl, rfl⟩, rfl⟩, ⟨⟨rfl, rfl⟩, rfl⟩, rfl, ⟨⟨rfl, rfl⟩, trivial⟩, rfl, trivial⟩) ?_
          rintro ⟨i10, i11, i12⟩ J2 he
          refine And.intro (fun hb => ?_) (fun hb => ?_)
          · have he := ok_t he hb
            obtain ⟨r11_, hr, he⟩ := ok_bind he
            refine ⟨r11_, hr, ?_⟩
            have he := ok_rq he
            refine And.intro he.1 ?_
            have he := he.2
            have he := ok_rq he
            refine And.intro he.1 ?_
            have he := he.2
            have he := ok_some he
            exact ⟨((i10 + (1:Int)), r11_.2, (i12 ++ [r11_.1])), he, (leads_ren [(10005002, 62)] (l := [(0, .c (.ptr 0 0)), (4, .c (.ptr 10005000 0)), (5, .c (.ptr 10005001 0)), (7, .c (.int .i64 i3)), (8, .c (.own 10005002 false)), (9, .c (.int .i64 (i10 + (1:Int))))]) (st' := [(0, .rc [.imm (.int .u8) r11_.2.1, .int .i64 r11_.2.2]), (1, .sl 3 (.int .i64) o1 .shallow), (2, .sl 124 (.pair (.int .i64) (.pair (.sl (.int .i64)) (.pair (.sl (.int .i64)) (.pair (.int .i64) (.sl (.sl (.int .i64))))))) o2 (.deep true .no)), (10005000, .rc [.int .i64 (0:Int), .nil, .nil, .int .i64 (0:Int), .nil]), (10005001, .rc [.int .i64 r1_.1, .own 10005003 false, .nil, .int .i64 (0:Int), .own 10005004 false]), (10005002, .sl 3 (.int .i64) (i12 ++ [r11_.1]) .shallow), (10005003, .sl 3 (.int .i64) r2_.2 .shallow), (10005004, .sl 23 (.sl (.int .i64)) i_4 (.deep true .no))]) rfl rfl ⟨⟨.inl rfl, rfl, trivial⟩, ⟨rfl, rfl⟩, ⟨rfl, rfl⟩, ⟨rfl, rfl, rfl, rfl, rfl, trivial⟩, ⟨rfl, ⟨⟨rfl, rfl⟩, trivial⟩, rfl, rfl, ⟨⟨rfl, rfl⟩, trivial⟩, trivial⟩, ⟨rfl, rfl⟩, ⟨rfl, rfl⟩, ⟨rfl, rfl⟩, trivial⟩ ⟨⟨⟨rfl, rfl⟩, rfl⟩, ⟨⟨rfl, rfl⟩, rfl⟩, ⟨⟨rfl, rfl⟩, rfl⟩, rfl, ⟨⟨rfl, rfl⟩, trivial⟩, rfl, trivial⟩)⟩
          · have he := ok_f he hb
            exact ⟨(i11, i12), ok_up he, (leads_ren [(10006000, 10005000), (10006001, 10005001), (10006002, 10005002), (10006003, 10005003), (10006004, 10005004)] (l := [(0, .c (.ptr 0 0)), (4, .c (.ptr 10006000 0)), (5, .c (.ptr 10006001 0)), (7, .c (.int .i64 i3)), (8, .c (.own 10006002 false))]) (st' := [(0, .rc [.imm (.int .u8) i11.1, .int .i64 i11.2]), (1, .sl 3 (.int .i64) o1 .shallow), (2, .sl 124 (.pair (.int .i64) (.pair (.sl (.int .i64)) (.pair (.sl (.int .i64)) (.pair (.int .i64) (.sl (.sl (.int .i64))))))) o2 (.deep true .no)), (10006000, .rc [.int .i64 (0:Int), .nil, .nil, .int .i64 (0:Int), .nil]), (10006001, .rc [.int .i64 r1_.1, .own 10006003 false, .nil, .int .i64 (0:Int), .own 10006004 false]), (10006002, .sl 3 (.int .i64) i12 .shallow), (10006003, .sl 3 (.int .i64) r2_.2 .shallow), (10006004, .sl 23 (.sl (.int .i64)) i_4 (.deep true .no))]) rfl rfl ⟨⟨.inl rfl, rfl, trivial⟩, ⟨rfl, rfl⟩, ⟨rfl, rfl⟩, ⟨rfl, rfl, rfl, rfl, rfl, trivial⟩, ⟨rfl, ⟨⟨rfl, rfl⟩, trivial⟩, rfl, rfl, ⟨⟨rfl, rfl⟩, trivial⟩, trivial⟩, ⟨rfl, rfl⟩, ⟨rfl, rfl⟩, ⟨rfl, rfl⟩, trivial⟩ ⟨⟨⟨rfl, rfl⟩, rfl⟩, ⟨⟨rfl, rfl⟩, rfl⟩, ⟨⟨rfl, rfl⟩, rfl⟩, rfl, ⟨⟨rfl, rfl⟩, trivial⟩, trivial⟩)⟩
      · have he := ok_f he hb
        have he := ok_some he
        exact ⟨rfl, _, _, (leads_ren [(900, 10002000), (901, 10002002), (903, 10002003)] (l := [(4, .c (.ptr 900 0))]) (st' := [(0, .rc [.imm (.int .u8) i9.1, .int .i64 i9.2]), (1, .sl 3 (.int .i64) o1 .shallow), (2, .sl 124 (.pair (.int .i64) (.pair (.sl (.int .i64)) (.pair (.sl (.int .i64)) (.pair (.int .i64) (.sl (.sl (.int .i64))))))) o2 (.deep true .no)), (900, .rc [.int .i64 r1_.1, .own 901 false, .own 902 false, .int .i64 (0:Int), .own 903 false]), (901, .sl 3 (.int .i64) r2_.2 .shallow), (902, .sl 3 (.int .i64) ([] : List Int) .shallow), (903, .sl 23 (.sl (.int .i64)) i_4 (.deep true .no))]) rfl rfl ⟨⟨.inl rfl, rfl, trivial⟩, ⟨rfl, rfl⟩, ⟨rfl, rfl⟩, ⟨rfl, ⟨⟨rfl, rfl⟩, trivial⟩, ⟨rfl, trivial⟩, rfl, ⟨⟨rfl, rfl⟩, trivial⟩, trivial⟩, ⟨rfl, rfl⟩, trivial, ⟨rfl, rfl⟩, trivial⟩ ⟨⟨⟨rfl, rfl⟩, rfl⟩, trivial⟩), he⟩
    · have he := ok_f he hb
      refine And.intro (fun hb => ?_) (fun hb => ?_)
      · have he := ok_t he hb
        obtain ⟨r12_, hr, he⟩ := ok_bind he
        refine ⟨r12_, hr, ?_⟩
        have he := ok_rq he
        refine And.intro he.1 ?_
        have he := he.2
        have he := ok_some he
        exact ⟨rfl, _, _, (leads_ren [(900, 4), (901, 74)] (l := [(4, .c (.ptr 900 0))]) (st' := [(0, .rc [.imm (.int .u8) r12_.1.1, .int .i64 r12_.1.2]), (1, .sl 3 (.int .i64) o1 .shallow), (2, .sl 124 (.pair (.int .i64) (.pair (.sl (.int .i64)) (.pair (.sl (.int .i64)) (.pair (.int .i64) (.sl (.sl (.int .i64))))))) o2 (.deep true .no)), (900, .rc [.int .i64 r1_.1, .own 901 false, .own 902 false, .int .i64 (0:Int), .own 903 false]), (901, .sl 3 (.int .i64) (r12_.2.take (2:Int).toNat) .shallow), (902, .sl 3 (.int .i64) ([] : List Int) .shallow), (903, .sl 23 (.sl (.int .i64)) ([] : List (List Int)) (.deep true .no))]) rfl rfl ⟨⟨.inl rfl, rfl, trivial⟩, ⟨rfl, rfl⟩, ⟨rfl, rfl⟩, ⟨rfl, ⟨⟨rfl, rfl⟩, trivial⟩, ⟨rfl, trivial⟩, rfl, ⟨rfl, trivial⟩, trivial⟩, ⟨rfl, rfl⟩, trivial, trivial, trivial⟩ ⟨⟨⟨rfl, rfl⟩, rfl⟩, trivial⟩), he⟩
      · have he := ok_f he hb
        have he := ok_some he
        exact ⟨rfl, _, _, (leads_ren [(900, 4), (901, 17900)] (l := [(4, .c (.ptr 900 0))]) (st' := [(0, .rc [.imm (.int .u8) r2_.1.1, .int .i64 r2_.1.2]), (1, .sl 3 (.int .i64) o1 .shallow), (2, .sl 124 (.pair (.int .i64) (.pair (.sl (.int .i64)) (.pair (.sl (.int .i64)) (.pair (.int .i64) (.sl (.sl (.int .i64))))))) o2 (.deep true .no)), (900, .rc [.int .i64 r1_.1, .own 901 false, .own 902 false, .int .i64 (0:Int), .own 903 false]), (901, .sl 3 (.int .i64) r2_.2 .shallow), (902, .sl 3 (.int .i64) ([] : List Int) .shallow), (903, .sl 23 (.sl (.int .i64)) ([] : List (List Int)) (.deep true .no))]) rfl rfl ⟨⟨.inl rfl, rfl, trivial⟩, ⟨rfl, rfl⟩, ⟨rfl, rfl⟩, ⟨rfl, ⟨⟨rfl, rfl⟩, trivial⟩, ⟨rfl, trivial⟩, rfl, ⟨rfl, trivial⟩, trivial⟩, ⟨rfl, rfl⟩, trivial, trivial, trivial⟩ ⟨⟨⟨rfl, rfl⟩, rfl⟩, trivial⟩), he⟩

noncomputable def c_spec_l6Model : Con := fun args st => match args, st with
  | [.c (.ptr 0 0)], [(0, .rc [.imm (.int .u8) o0_0, .int .i64 o0_1])] => .opt (((List Int) × Int) × (List Int) × (List (Int × (List Int) × (List Int) × Int × (List (List Int))))) (spec_l6Model (o0_0, o0_1)) (fun r => .ret (.agg [.own 901 false, .own 902 false]) [(0, .rc [.imm (.int .u8) r.1.1, .int .i64 r.1.2]), (900, .rc [.own 901 false, .own 902 false]), (901, .sl 3 (.int .i64) r.2.1 .shallow), (902, .sl 124 (.pair (.int .i64) (.pair (.sl (.int .i64)) (.pair (.sl (.int .i64)) (.pair (.int .i64) (.sl (.sl (.int .i64))))))) r.2.2 (.deep true .no))])
  | _, _ => .fail

noncomputable def C_spec_l6Model : Cfg := { y := tys, n := 67, h := 1, tab := [(99, c_spec_l17Rd_num), (204, c_spec_l6Draw__rsd)], cut := [6, 15], hand := [(204, [1])], good := [], deep := [63], sched := [(5, (.first 0 (.first 2 (.alt 1 (.alt 3 (.alt 4 (.alt 5 (.alt 6 (.first 7 (.alt 8 .done .stop)) .stop) .stop) .stop) .stop) (.alt 3 (.alt 1 (.alt 4 (.alt 5 (.alt 6 (.first 7 (.alt 8 .done .stop)) .stop) .stop) .stop) (.alt 4 (.alt 1 (.alt 5 (.alt 6 (.first 7 (.alt 8 .done .stop)) .stop) .stop) (.alt 5 (.alt 1 (.alt 6 (.first 7 (.alt 8 .done .stop)) .stop) .stop) .stop)) .stop)) .stop))))), (18, (.first 0 (.first 2 (.alt 1 (.alt 3 (.alt 4 (.alt 5 (.alt 6 (.first 7 (.alt 8 .done .stop)) .stop) .stop) .stop) .stop) (.alt 3 (.alt 1 (.alt 4 (.alt 5 (.alt 6 (.first 7 (.alt 8 .done .stop)) .stop) .stop) .stop) (.alt 4 (.alt 1 (.alt 5 (.alt 6 (.first 7 (.alt 8 .done .stop)) .stop) .stop) (.alt 5 (.alt 1 (.alt 6 (.first 7 (.alt 8 .done .stop)) .stop) .stop) .stop)) .stop)) .stop)))))] }

theorem t_spec_l6Model : TabOk Try.prog C_spec_l6Model := by
  refine tabOk_of ?_
  simp only [C_spec_l6Model, List.forall_mem_cons]
  exact ⟨k_spec_l17Rd_num, k_spec_l6Draw__rsd, fun p h => by cases h⟩

theorem k_spec_l6Model : Entry Try.prog 96 c_spec_l6Model := by
  refine entry_by (C := C_spec_l6Model) mixed tys_ok t_spec_l6Model (fn := Try.f96) (c := bd Try.f96) (by kernel_rfl) (by kernel_rfl) (by kernel_rfl) (by kernel_rfl) ?_
  intro args st k he
  unfold c_spec_l6Model at he
  split at he
  rotate_left
  · exact he.elim
  rename_i o0_0 o0_1
  have he : Ok (spec_l6Model (o0_0, o0_1)) (fun r => k (.agg [.own 901 false, .own 902 false]) [(0, .rc [.imm (.int .u8) r.1.1, .int .i64 r.1.2]), (900, .rc [.own 901 false, .own 902 false]), (901, .sl 3 (.int .i64) r.2.1 .shallow), (902, .sl 124 (.pair (.int .i64) (.pair (.sl (.int .i64)) (.pair (.sl (.int .i64)) (.pair (.int .i64) (.sl (.sl (.int .i64))))))) r.2.2 (.deep true .no))]) := he
  refine ⟨rfl, rfl, ?_⟩
  refine seq_model mixed tys_ok t_spec_l6Model (S := ((List Int) × Int) × (List Int)) (I := (fun (i2, i_01) => (envOf [(0, .c (.ptr 0 0)), (2, .c (.ptr 10001000 0)), (3, .c (.ptr 10001001 0))], [(0, .rc [.imm (.int .u8) i2.1, .int .i64 i2.2]), (10001000, .rc [.nil, .nil]), (10001001, .rc [.own 10001002 false, .nil]), (10001002, .sl 3 (.int .i64) i_01 .shallow)]))) (B := fun s => Ok (spec_l6Model_j1 s) (fun r => k (.agg [.own 901 false, .own 902 false]) [(0, .rc [.imm (.int .u8) r.1.1, .int .i64 r.1.2]), (900, .rc [.own 901 false, .own 902 false]), (901, .sl 3 (.int .i64) r.2.1 .shallow), (902, .sl 124 (.pair (.int .i64) (.pair (.sl (.int .i64)) (.pair (.sl (.int .i64)) (.pair (.int .i64) (.sl (.sl (.int .i64))))))) r.2.2 (.deep true .no))])) ?_ ?_
  · rintro ⟨i2, i_01⟩ he
    refine seq_model mixed tys_ok t_spec_l6Model (S := (List Int)) (I := (fun i_03 => (envOf [(0, .c (.ptr 0 0)), (2, .c (.ptr 10005000 0)), (3, .c (.ptr 10005001 0))], [(0, .rc [.imm (.int .u8) i2.1, .int .i64 i2.2]), (10005000, .rc [.nil, .nil]), (10005001, .rc [.own 10005002 false, .nil]), (10005002, .sl 3 (.int .i64) i_03 .shallow)]))) (B := fun s => Ok (spec_l6Model_j2 i2 s) (fun r => k (.agg [.own 901 false, .own 902 false]) [(0, .rc [.imm (.int .u8) r.1.1, .int .i64 r.1.2]), (900, .rc [.own 901 false, .own 902 false]), (901, .sl 3 (.int .i64) r.2.1 .shallow), (902, .sl 124 (.pair (.int .i64) (.pair (.sl (.int .i64)) (.pair (.sl (.int .i64)) (.pair (.int .i64) (.sl (.sl (.int .i64))))))) r.2.2 (.deep true .no))])) ?_ ?_
    · rintro i_03 he
      obtain ⟨r5_, hr, he⟩ := ok_bind he
      refine ⟨r5_, hr, ?_⟩
      refine loop_model mixed tys_ok t_spec_l6Model (S := Int × ((List Int) × Int) × (List (Int × (List Int) × (List Int) × Int × (List (List Int))))) (I := (fun (i8, i9, i_1) => (envOf [(0, .c (.ptr 0 0)), (2, .c (.ptr 10006000 0)), (3, .c (.ptr 10006001 0)), (7, .c (.int .i64 i8))], [(0, .rc [.imm (.int .u8) i9.1, .int .i64 i9.2]), (10006000, .rc [.nil, .nil]), (10006001, .rc [.own 10006002 false, .own 10006003 false]), (10006002, .sl 3 (.int .i64) i_03 .shallow), (10006003, .sl 124 (.pair (.int .i64) (.pair (.sl (.int .i64)) (.pair (.sl (.int .i64)) (.pair (.int .i64) (.sl (.sl (.int .i64))))))) i_1 (.deep true .no))]))) (f := spec_l6Model_l1 i_03) (K := (fun r => k (.agg [.own 901 false, .own 902 false]) [(0, .rc [.imm (.int .u8) r.1.1, .int .i64 r.1.2]), (900, .rc [.own 901 false, .own 902 false]), (901, .sl 3 (.int .i64) r.2.1 .shallow), (902, .sl 124 (.pair (.int .i64) (.pair (.sl (.int .i64)) (.pair (.sl (.int .i64)) (.pair (.int .i64) (.sl (.sl (.int .i64))))))) r.2.2 (.deep true .no))])) he (leads_ren [(10006000, 10005000), (10006001, 10005001), (10006002, 10005002)] (l := [(0, .c (.ptr 0 0)), (2, .c (.ptr 10006000 0)), (3, .c (.ptr 10006001 0)), (7, .c (.int .i64 r5_.1))]) (st' := [(0, .rc [.imm (.int .u8) r5_.2.1, .int .i64 r5_.2.2]), (10006000, .rc [.nil, .nil]), (10006001, .rc [.own 10006002 false, .own 10006003 false]), (10006002, .sl 3 (.int .i64) i_03 .shallow), (10006003, .sl 124 (.pair (.int .i64) (.pair (.sl (.int .i64)) (.pair (.sl (.int .i64)) (.pair (.int .i64) (.sl (.sl (.int .i64))))))) ([] : List (Int × (List Int) × (List Int) × Int × (List (List Int)))) (.deep true .no))]) rfl rfl ⟨⟨.inl rfl, rfl, trivial⟩, ⟨rfl, rfl, trivial⟩, ⟨⟨⟨rfl, rfl⟩, trivial⟩, ⟨rfl, trivial⟩, trivial⟩, ⟨rfl, rfl⟩, trivial, trivial⟩ ⟨⟨⟨rfl, rfl⟩, rfl⟩, ⟨⟨rfl, rfl⟩, rfl⟩, ⟨⟨rfl, rfl⟩, rfl⟩, rfl, trivial⟩) ?_
      rintro ⟨i8, i9, i_1⟩ J1 he
      refine And.intro (fun hb => ?_) (fun hb => ?_)
      · have he := ok_t he hb
        refine And.intro (by kernel_rfl) ?_
        obtain ⟨r8_, hq1, he⟩ := ok_bind he
        have he := ok_rq he
        have hq2 := he.1
        have he := he.2
        refine And.intro ?_ (And.intro ?_ (trivial))
        · skip
          refine And.intro ?_ trivial
          refine And.intro ?_ trivial
          refine ⟨r8_, hq1, ?_⟩
          refine And.intro ?_ trivial
          refine And.intro ?_ trivial
          refine And.intro hq2 ?_
          refine And.intro ?_ trivial
          have he := ok_rq he
          refine And.intro he.1 ?_
          have he := he.2
          have he := ok_some he
          exact ⟨((i8 - (1:Int)), r8_.1, (i_1 ++ [(r8_.2.1, (r8_.2.2.2.1, (r8_.2.2.2.2.1, (r8_.2.2.1, r8_.2.2.2.2.2))))])), he, (leads_ren [(10006003, 64)] (l := [(0, .c (.ptr 0 0)), (2, .c (.ptr 10006000 0)), (3, .c (.ptr 10006001 0)), (7, .c (.int .i64 (i8 - (1:Int))))]) (st' := [(0, .rc [.imm (.int .u8) r8_.1.1, .int .i64 r8_.1.2]), (10006000, .rc [.nil, .nil]), (10006001, .rc [.own 10006002 false, .own 10006003 false]), (10006002, .sl 3 (.int .i64) i_03 .shallow), (10006003, .sl 124 (.pair (.int .i64) (.pair (.sl (.int .i64)) (.pair (.sl (.int .i64)) (.pair (.int .i64) (.sl (.sl (.int .i64))))))) (i_1 ++ [(r8_.2.1, (r8_.2.2.2.1, (r8_.2.2.2.2.1, (r8_.2.2.1, r8_.2.2.2.2.2))))]) (.deep true .no))]) rfl rfl ⟨⟨.inl rfl, rfl, trivial⟩, ⟨rfl, rfl, trivial⟩, ⟨⟨⟨rfl, rfl⟩, trivial⟩, ⟨⟨rfl, rfl⟩, trivial⟩, trivial⟩, ⟨rfl, rfl⟩, ⟨rfl, rfl⟩, trivial⟩ ⟨⟨⟨rfl, rfl⟩, rfl⟩, ⟨⟨rfl, rfl⟩, rfl⟩, ⟨⟨rfl, rfl⟩, rfl⟩, rfl, trivial⟩)⟩
        · skip
          refine And.intro ?_ (And.intro ?_ (trivial))
          · skip
            refine And.intro ?_ trivial
            refine ⟨r8_, hq1, ?_⟩
            refine And.intro ?_ trivial
            refine And.intro ?_ trivial
            refine And.intro hq2 ?_
            refine And.intro ?_ trivial
            have he := ok_rq he
            refine And.intro he.1 ?_
            have he := he.2
            have he := ok_some he
            exact ⟨((i8 - (1:Int)), r8_.1, (i_1 ++ [(r8_.2.1, (r8_.2.2.2.1, (r8_.2.2.2.2.1, (r8_.2.2.1, r8_.2.2.2.2.2))))])), he, (leads_ren [(10006003, 64)] (l := [(0, .c (.ptr 0 0)), (2, .c (.ptr 10006000 0)), (3, .c (.ptr 10006001 0)), (7, .c (.int .i64 (i8 - (1:Int))))]) (st' := [(0, .rc [.imm (.int .u8) r8_.1.1, .int .i64 r8_.1.2]), (10006000, .rc [.nil, .nil]), (10006001, .rc [.own 10006002 false, .own 10006003 false]), (10006002, .sl 3 (.int .i64) i_03 .shallow), (10006003, .sl 124 (.pair (.int .i64) (.pair (.sl (.int .i64)) (.pair (.sl (.int .i64)) (.pair (.int .i64) (.sl (.sl (.int .i64))))))) (i_1 ++ [(r8_.2.1, (r8_.2.2.2.1, (r8_.2.2.2.2.1, (r8_.2.2.1, r8_.2.2.2.2.2))))]) (.deep true .no))]) rfl rfl ⟨⟨.inl rfl, rfl, trivial⟩, ⟨rfl, rfl, trivial⟩, ⟨⟨⟨rfl, rfl⟩, trivial⟩, ⟨⟨rfl, rfl⟩, trivial⟩, trivial⟩, ⟨rfl, rfl⟩, ⟨rfl, rfl⟩, trivial⟩ ⟨⟨⟨rfl, rfl⟩, rfl⟩, ⟨⟨rfl, rfl⟩, rfl⟩, ⟨⟨rfl, rfl⟩, rfl⟩, rfl, trivial⟩)⟩
          · skip
            refine ⟨r8_, hq1, ?_⟩
            refine And.intro ?_ (And.intro ?_ (trivial))
            · skip
              refine And.intro ?_ trivial
              refine And.intro ?_ trivial
              refine And.intro hq2 ?_
              refine And.intro ?_ trivial
              have he := ok_rq he
              refine And.intro he.1 ?_
              have he := he.2
              have he := ok_some he
              exact ⟨((i8 - (1:Int)), r8_.1, (i_1 ++ [(r8_.2.1, (r8_.2.2.2.1, (r8_.2.2.2.2.1, (r8_.2.2.1, r8_.2.2.2.2.2))))])), he, (leads_ren [(10006003, 64)] (l := [(0, .c (.ptr 0 0)), (2, .c (.ptr 10006000 0)), (3, .c (.ptr 10006001 0)), (7, .c (.int .i64 (i8 - (1:Int))))]) (st' := [(0, .rc [.imm (.int .u8) r8_.1.1, .int .i64 r8_.1.2]), (10006000, .rc [.nil, .nil]), (10006001, .rc [.own 10006002 false, .own 10006003 false]), (10006002, .sl 3 (.int .i64) i_03 .shallow), (10006003, .sl 124 (.pair (.int .i64) (.pair (.sl (.int .i64)) (.pair (.sl (.int .i64)) (.pair (.int .i64) (.sl (.sl (.int .i64))))))) (i_1 ++ [(r8_.2.1, (r8_.2.2.2.1, (r8_.2.2.2.2.1, (r8_.2.2.1, r8_.2.2.2.2.2))))]) (.deep true .no))]) rfl rfl ⟨⟨.inl rfl, rfl, trivial⟩, ⟨rfl, rfl, trivial⟩, ⟨⟨⟨rfl, rfl⟩, trivial⟩, ⟨⟨rfl, rfl⟩, trivial⟩, trivial⟩, ⟨rfl, rfl⟩, ⟨rfl, rfl⟩, trivial⟩ ⟨⟨⟨rfl, rfl⟩, rfl⟩, ⟨⟨rfl, rfl⟩, rfl⟩, ⟨⟨rfl, rfl⟩, rfl⟩, rfl, trivial⟩)⟩
            · skip
              refine And.intro ?_ trivial
              refine And.intro ?_ trivial
              refine And.intro hq2 ?_
              refine And.intro ?_ trivial
              have he := ok_rq he
              refine And.intro he.1 ?_
              have he := he.2
              have he := ok_some he
              exact ⟨((i8 - (1:Int)), r8_.1, (i_1 ++ [(r8_.2.1, (r8_.2.2.2.1, (r8_.2.2.2.2.1, (r8_.2.2.1, r8_.2.2.2.2.2))))])), he, (leads_ren [(10006003, 64)] (l := [(0, .c (.ptr 0 0)), (2, .c (.ptr 10006000 0)), (3, .c (.ptr 10006001 0)), (7, .c (.int .i64 (i8 - (1:Int))))]) (st' := [(0, .rc [.imm (.int .u8) r8_.1.1, .int .i64 r8_.1.2]), (10006000, .rc [.nil, .nil]), (10006001, .rc [.own 10006002 false, .own 10006003 false]), (10006002, .sl 3 (.int .i64) i_03 .shallow), (10006003, .sl 124 (.pair (.int .i64) (.pair (.sl (.int .i64)) (.pair (.sl (.int .i64)) (.pair (.int .i64) (.sl (.sl (.int .i64))))))) (i_1 ++ [(r8_.2.1, (r8_.2.2.2.1, (r8_.2.2.2.2.1, (r8_.2.2.1, r8_.2.2.2.2.2))))]) (.deep true .no))]) rfl rfl ⟨⟨.inl rfl, rfl, trivial⟩, ⟨rfl, rfl, trivial⟩, ⟨⟨⟨rfl, rfl⟩, trivial⟩, ⟨⟨rfl, rfl⟩, trivial⟩, trivial⟩, ⟨rfl, rfl⟩, ⟨rfl, rfl⟩, trivial⟩ ⟨⟨⟨rfl, rfl⟩, rfl⟩, ⟨⟨rfl, rfl⟩, rfl⟩, ⟨⟨rfl, rfl⟩, rfl⟩, rfl, trivial⟩)⟩
      · have he := ok_f he hb
        have he := ok_some he
        exact ⟨rfl, _, _, (leads_ren [(900, 10006000), (901, 10006002), (902, 10006003)] (l := [(2, .c (.ptr 900 0))]) (st' := [(0, .rc [.imm (.int .u8) i9.1, .int .i64 i9.2]), (900, .rc [.own 901 false, .own 902 false]), (901, .sl 3 (.int .i64) i_03 .shallow), (902, .sl 124 (.pair (.int .i64) (.pair (.sl (.int .i64)) (.pair (.sl (.int .i64)) (.pair (.int .i64) (.sl (.sl (.int .i64))))))) i_1 (.deep true .no))]) rfl rfl ⟨⟨.inl rfl, rfl, trivial⟩, ⟨⟨⟨rfl, rfl⟩, trivial⟩, ⟨⟨rfl, rfl⟩, trivial⟩, trivial⟩, ⟨rfl, rfl⟩, ⟨rfl, rfl⟩, trivial⟩ ⟨⟨⟨rfl, rfl⟩, rfl⟩, trivial⟩), he⟩
    · skip
      refine loop_model mixed tys_ok t_spec_l6Model (S := Int × (List Int)) (I := (fun (i3, i_02) => (envOf [(0, .c (.ptr 0 0)), (2, .c (.ptr 10002000 0)), (3, .c (.ptr 10002001 0)), (5, .c (.int .i64 i3))], [(0, .rc [.imm (.int .u8) i2.1, .int .i64 i2.2]), (10002000, .rc [.nil, .nil]), (10002001, .rc [.own 10002002 false, .nil]), (10002002, .sl 3 (.int .i64) i_02 .shallow)]))) (f := spec_l6Model_l2 i2) (K := (fun r => k (.agg [.own 901 false, .own 902 false]) [(0, .rc [.imm (.int .u8) r.1.1, .int .i64 r.1.2]), (900, .rc [.own 901 false, .own 902 false]), (901, .sl 3 (.int .i64) r.2.1 .shallow), (902, .sl 124 (.pair (.int .i64) (.pair (.sl (.int .i64)) (.pair (.sl (.int .i64)) (.pair (.int .i64) (.sl (.sl (.int .i64))))))) r.2.2 (.deep true .no))])) he (leads_ren [(10002000, 10001000), (10002001, 10001001), (10002002, 10001002)] (l := [(0, .c (.ptr 0 0)), (2, .c (.ptr 10002000 0)), (3, .c (.ptr 10002001 0)), (5, .c (.int .i64 (0:Int)))]) (st' := [(0, .rc [.imm (.int .u8) i2.1, .int .i64 i2.2]), (10002000, .rc [.nil, .nil]), (10002001, .rc [.own 10002002 false, .nil]), (10002002, .sl 3 (.int .i64) i_01 .shallow)]) rfl rfl ⟨⟨.inl rfl, rfl, trivial⟩, ⟨rfl, rfl, trivial⟩, ⟨⟨⟨rfl, rfl⟩, trivial⟩, rfl, trivial⟩, ⟨rfl, rfl⟩, trivial⟩ ⟨⟨⟨rfl, rfl⟩, rfl⟩, ⟨⟨rfl, rfl⟩, rfl⟩, ⟨⟨rfl, rfl⟩, rfl⟩, rfl, trivial⟩) ?_
      rintro ⟨i3, i_02⟩ J1 he
      refine And.intro (fun hb => ?_) (fun hb => ?_)
      · have he := ok_t he hb
        refine loop_model mixed tys_ok t_spec_l6Model (S := Int × Int) (I := (fun (i6, i7) => (envOf [(0, .c (.ptr 0 0)), (2, .c (.ptr 10004000 0)), (3, .c (.ptr 10004001 0)), (5, .c (.int .i64 i6)), (6, .c (.int .i64 i7))], [(0, .rc [.imm (.int .u8) i2.1, .int .i64 i2.2]), (10004000, .rc [.nil, .nil]), (10004001, .rc [.own 10004002 false, .nil]), (10004002, .sl 3 (.int .i64) i_02 .shallow)]))) (f := spec_l6Model_l3 i_02) (K := (LK J1 (fun r => k (.agg [.own 901 false, .own 902 false]) [(0, .rc [.imm (.int .u8) r.1.1, .int .i64 r.1.2]), (900, .rc [.own 901 false, .own 902 false]), (901, .sl 3 (.int .i64) r.2.1 .shallow), (902, .sl 124 (.pair (.int .i64) (.pair (.sl (.int .i64)) (.pair (.sl (.int .i64)) (.pair (.int .i64) (.sl (.sl (.int .i64))))))) r.2.2 (.deep true .no))]))) he (leads_ren [(10004000, 10002000), (10004001, 10002001), (10004002, 10002002)] (l := [(0, .c (.ptr 0 0)), (2, .c (.ptr 10004000 0)), (3, .c (.ptr 10004001 0)), (5, .c (.int .i64 i3)), (6, .c (.int .i64 (0:Int)))]) (st' := [(0, .rc [.imm (.int .u8) i2.1, .int .i64 i2.2]), (10004000, .rc [.nil, .nil]), (10004001, .rc [.own 10004002 false, .nil]), (10004002, .sl 3 (.int .i64) i_02 .shallow)]) rfl rfl ⟨⟨.inl rfl, rfl, trivial⟩, ⟨rfl, rfl, trivial⟩, ⟨⟨⟨rfl, rfl⟩, trivial⟩, rfl, trivial⟩, ⟨rfl, rfl⟩, trivial⟩ ⟨⟨⟨rfl, rfl⟩, rfl⟩, ⟨⟨rfl, rfl⟩, rfl⟩, ⟨⟨rfl, rfl⟩, rfl⟩, rfl, rfl, trivial⟩) ?_
        rintro ⟨i6, i7⟩ J2 he
        refine And.intro (fun hb => ?_) (fun hb => ?_)
        · have he := ok_t he hb
          have he := ok_rq he
          refine And.intro he.1 ?_
          have he := he.2
          have he := ok_rq he
          refine And.intro he.1 ?_
          have he := he.2
          have he := ok_rq he
          refine And.intro he.1 ?_
          have he := he.2
          have he := ok_rq he
          refine And.intro he.1 ?_
          have he := he.2
          have he := ok_some he
          exact ⟨(((i6 + (i_02.getD i7.toNat 0)) + (1:Int)), (i7 + (1:Int))), he, (leads_ren [] (l := [(0, .c (.ptr 0 0)), (2, .c (.ptr 10004000 0)), (3, .c (.ptr 10004001 0)), (5, .c (.int .i64 ((i6 + (i_02.getD i7.toNat 0)) + (1:Int)))), (6, .c (.int .i64 (i7 + (1:Int))))]) (st' := [(0, .rc [.imm (.int .u8) i2.1, .int .i64 i2.2]), (10004000, .rc [.nil, .nil]), (10004001, .rc [.own 10004002 false, .nil]), (10004002, .sl 3 (.int .i64) i_02 .shallow)]) rfl rfl ⟨⟨.inl rfl, rfl, trivial⟩, ⟨rfl, rfl, trivial⟩, ⟨⟨⟨rfl, rfl⟩, trivial⟩, rfl, trivial⟩, ⟨rfl, rfl⟩, trivial⟩ ⟨⟨⟨rfl, rfl⟩, rfl⟩, ⟨⟨rfl, rfl⟩, rfl⟩, ⟨⟨rfl, rfl⟩, rfl⟩, rfl, rfl, trivial⟩)⟩
        · have he := ok_f he hb
          refine And.intro (fun hb => ?_) (fun hb => ?_)
          · have he := ok_t he hb
            have he := ok_rq he
            refine And.intro he.1 ?_
            have he := he.2
            have he := ok_rq he
            refine And.intro he.1 ?_
            have he := he.2
            have he := ok_some he
            exact ⟨((0:Int), (i_02.take ((i_02.length:Int) - (1:Int)).toNat)), he, (leads_ren [(10002000, 10004000), (10002001, 10004001), (10002002, 49)] (l := [(0, .c (.ptr 0 0)), (2, .c (.ptr 10002000 0)), (3, .c (.ptr 10002001 0)), (5, .c (.int .i64 (0:Int)))]) (st' := [(0, .rc [.imm (.int .u8) i2.1, .int .i64 i2.2]), (10002000, .rc [.nil, .nil]), (10002001, .rc [.own 10002002 false, .nil]), (10002002, .sl 3 (.int .i64) (i_02.take ((i_02.length:Int) - (1:Int)).toNat) .shallow)]) rfl rfl ⟨⟨.inl rfl, rfl, trivial⟩, ⟨rfl, rfl, trivial⟩, ⟨⟨⟨rfl, rfl⟩, trivial⟩, rfl, trivial⟩, ⟨rfl, rfl⟩, trivial⟩ ⟨⟨⟨rfl, rfl⟩, rfl⟩, ⟨⟨rfl, rfl⟩, rfl⟩, ⟨⟨rfl, rfl⟩, rfl⟩, rfl, trivial⟩)⟩
          · have he := ok_f he hb
            have he := ok_some he
            exact ⟨(i6, i_02), he, (leads_ren [(10002000, 10004000), (10002001, 10004001), (10002002, 10004002)] (l := [(0, .c (.ptr 0 0)), (2, .c (.ptr 10002000 0)), (3, .c (.ptr 10002001 0)), (5, .c (.int .i64 i6))]) (st' := [(0, .rc [.imm (.int .u8) i2.1, .int .i64 i2.2]), (10002000, .rc [.nil, .nil]), (10002001, .rc [.own 10002002 false, .nil]), (10002002, .sl 3 (.int .i64) i_02 .shallow)]) rfl rfl ⟨⟨.inl rfl, rfl, trivial⟩, ⟨rfl, rfl, trivial⟩, ⟨⟨⟨rfl, rfl⟩, trivial⟩, rfl, trivial⟩, ⟨rfl, rfl⟩, trivial⟩ ⟨⟨⟨rfl, rfl⟩, rfl⟩, ⟨⟨rfl, rfl⟩, rfl⟩, ⟨⟨rfl, rfl⟩, rfl⟩, rfl, trivial⟩)⟩
      · have he := ok_f he hb
        exact ⟨i_02, ok_up he, (leads_ren [(10005000, 10002000), (10005001, 10002001), (10005002, 10002002)] (l := [(0, .c (.ptr 0 0)), (2, .c (.ptr 10005000 0)), (3, .c (.ptr 10005001 0))]) (st' := [(0, .rc [.imm (.int .u8) i2.1, .int .i64 i2.2]), (10005000, .rc [.nil, .nil]), (10005001, .rc [.own 10005002 false, .nil]), (10005002, .sl 3 (.int .i64) i_02 .shallow)]) rfl rfl ⟨⟨.inl rfl, rfl, trivial⟩, ⟨rfl, rfl, trivial⟩, ⟨⟨⟨rfl, rfl⟩, trivial⟩, rfl, trivial⟩, ⟨rfl, rfl⟩, trivial⟩ ⟨⟨⟨rfl, rfl⟩, rfl⟩, ⟨⟨rfl, rfl⟩, rfl⟩, ⟨⟨rfl, rfl⟩, rfl⟩, trivial⟩)⟩
  · skip
    obtain ⟨r1_, hr, he⟩ := ok_bind he
    refine ⟨r1_, hr, ?_⟩
    refine loop_model mixed tys_ok t_spec_l6Model (S := Int × ((List Int) × Int) × (List Int)) (I := (fun (i, i1, i_0) => (envOf [(0, .c (.ptr 0 0)), (2, .c (.ptr 10000000 0)), (3, .c (.ptr 10000001 0)), (4, .c (.int .i64 i))], [(0, .rc [.imm (.int .u8) i1.1, .int .i64 i1.2]), (10000000, .rc [.nil, .nil]), (10000001, .rc [.own 10000002 false, .nil]), (10000002, .sl 3 (.int .i64) i_0 .shallow)]))) (f := spec_l6Model_l4) (K := (fun r => k (.agg [.own 901 false, .own 902 false]) [(0, .rc [.imm (.int .u8) r.1.1, .int .i64 r.1.2]), (900, .rc [.own 901 false, .own 902 false]), (901, .sl 3 (.int .i64) r.2.1 .shallow), (902, .sl 124 (.pair (.int .i64) (.pair (.sl (.int .i64)) (.pair (.sl (.int .i64)) (.pair (.int .i64) (.sl (.sl (.int .i64))))))) r.2.2 (.deep true .no))])) he (leads_ren [(10000000, 2), (10000001, 3)] (l := [(0, .c (.ptr 0 0)), (2, .c (.ptr 10000000 0)), (3, .c (.ptr 10000001 0)), (4, .c (.int .i64 r1_.1))]) (st' := [(0, .rc [.imm (.int .u8) r1_.2.1, .int .i64 r1_.2.2]), (10000000, .rc [.nil, .nil]), (10000001, .rc [.own 10000002 false, .nil]), (10000002, .sl 3 (.int .i64) ([] : List Int) .shallow)]) rfl rfl ⟨⟨.inl rfl, rfl, trivial⟩, ⟨rfl, rfl, trivial⟩, ⟨⟨rfl, trivial⟩, rfl, trivial⟩, trivial, trivial⟩ ⟨⟨⟨rfl, rfl⟩, rfl⟩, ⟨⟨rfl, rfl⟩, rfl⟩, ⟨⟨rfl, rfl⟩, rfl⟩, rfl, trivial⟩) ?_
    rintro ⟨i, i1, i_0⟩ J1 he
    refine And.intro (fun hb => ?_) (fun hb => ?_)
    · have he := ok_t he hb
      refine And.intro (by kernel_rfl) ?_
      obtain ⟨r4_, hq1, he⟩ := ok_bind he
      have he := ok_rq he
      have hq2 := he.1
      have he := he.2
      refine And.intro ?_ (And.intro ?_ (trivial))
      · skip
        refine And.intro ?_ trivial
        refine And.intro ?_ trivial
        refine ⟨r4_, hq1, ?_⟩
        refine And.intro ?_ trivial
        refine And.intro ?_ trivial
        refine And.intro hq2 ?_
        refine And.intro ?_ trivial
        have he := ok_rq he
        refine And.intro he.1 ?_
        have he := he.2
        have he := ok_some he
        exact ⟨((i - (1:Int)), r4_.2, (i_0 ++ [r4_.1])), he, (leads_ren [(10000002, 22)] (l := [(0, .c (.ptr 0 0)), (2, .c (.ptr 10000000 0)), (3, .c (.ptr 10000001 0)), (4, .c (.int .i64 (i - (1:Int))))]) (st' := [(0, .rc [.imm (.int .u8) r4_.2.1, .int .i64 r4_.2.2]), (10000000, .rc [.nil, .nil]), (10000001, .rc [.own 10000002 false, .nil]), (10000002, .sl 3 (.int .i64) (i_0 ++ [r4_.1]) .shallow)]) rfl rfl ⟨⟨.inl rfl, rfl, trivial⟩, ⟨rfl, rfl, trivial⟩, ⟨⟨⟨rfl, rfl⟩, trivial⟩, rfl, trivial⟩, ⟨rfl, rfl⟩, trivial⟩ ⟨⟨⟨rfl, rfl⟩, rfl⟩, ⟨⟨rfl, rfl⟩, rfl⟩, ⟨⟨rfl, rfl⟩, rfl⟩, rfl, trivial⟩)⟩
      · skip
        refine And.intro ?_ (And.intro ?_ (trivial))
        · skip
          refine And.intro ?_ trivial
          refine ⟨r4_, hq1, ?_⟩
          refine And.intro ?_ trivial
          refine And.intro ?_ trivial
          refine And.intro hq2 ?_
          refine And.intro ?_ trivial
          have he := ok_rq he
          refine And.intro he.1 ?_
          have he := he.2
          have he := ok_some he
          exact ⟨((i - (1:Int)), r4_.2, (i_0 ++ [r4_.1])), he, (leads_ren [(10000002, 22)] (l := [(0, .c (.ptr 0 0)), (2, .c (.ptr 10000000 0)), (3, .c (.ptr 10000001 0)), (4, .c (.int .i64 (i - (1:Int))))]) (st' := [(0, .rc [.imm (.int .u8) r4_.2.1, .int .i64 r4_.2.2]), (10000000, .rc [.nil, .nil]), (10000001, .rc [.own 10000002 false, .nil]), (10000002, .sl 3 (.int .i64) (i_0 ++ [r4_.1]) .shallow)]) rfl rfl ⟨⟨.inl rfl, rfl, trivial⟩, ⟨rfl, rfl, trivial⟩, ⟨⟨⟨rfl, rfl⟩, trivial⟩, rfl, trivial⟩, ⟨rfl, rfl⟩, trivial⟩ ⟨⟨⟨rfl, rfl⟩, rfl⟩, ⟨⟨rfl, rfl⟩, rfl⟩, ⟨⟨rfl, rfl⟩, rfl⟩, rfl, trivial⟩)⟩
        · skip
          refine ⟨r4_, hq1, ?_⟩
          refine And.intro ?_ (And.intro ?_ (trivial))
          · skip
            refine And.intro ?_ trivial
            refine And.intro ?_ trivial
            refine And.intro hq2 ?_
            refine And.intro ?_ trivial
            have he := ok_rq he
            refine And.intro he.1 ?_
            have he := he.2
            have he := ok_some he
            exact ⟨((i - (1:Int)), r4_.2, (i_0 ++ [r4_.1])), he, (leads_ren [(10000002, 22)] (l := [(0, .c (.ptr 0 0)), (2, .c (.ptr 10000000 0)), (3, .c (.ptr 10000001 0)), (4, .c (.int .i64 (i - (1:Int))))]) (st' := [(0, .rc [.imm (.int .u8) r4_.2.1, .int .i64 r4_.2.2]), (10000000, .rc [.nil, .nil]), (10000001, .rc [.own 10000002 false, .nil]), (10000002, .sl 3 (.int .i64) (i_0 ++ [r4_.1]) .shallow)]) rfl rfl ⟨⟨.inl rfl, rfl, trivial⟩, ⟨rfl, rfl, trivial⟩, ⟨⟨⟨rfl, rfl⟩, trivial⟩, rfl, trivial⟩, ⟨rfl, rfl⟩, trivial⟩ ⟨⟨⟨rfl, rfl⟩, rfl⟩, ⟨⟨rfl, rfl⟩, rfl⟩, ⟨⟨rfl, rfl⟩, rfl⟩, rfl, trivial⟩)⟩
          · skip
            refine And.intro ?_ trivial
            refine And.intro ?_ trivial
            refine And.intro hq2 ?_
            refine And.intro ?_ trivial
            have he := ok_rq he
            refine And.intro he.1 ?_
            have he := he.2
            have he := ok_some he
            exact ⟨((i - (1:Int)), r4_.2, (i_0 ++ [r4_.1])), he, (leads_ren [(10000002, 22)] (l := [(0, .c (.ptr 0 0)), (2, .c (.ptr 10000000 0)), (3, .c (.ptr 10000001 0)), (4, .c (.int .i64 (i - (1:Int))))]) (st' := [(0, .rc [.imm (.int .u8) r4_.2.1, .int .i64 r4_.2.2]), (10000000, .rc [.nil, .nil]), (10000001, .rc [.own 10000002 false, .nil]), (10000002, .sl 3 (.int .i64) (i_0 ++ [r4_.1]) .shallow)]) rfl rfl ⟨⟨.inl rfl, rfl, trivial⟩, ⟨rfl, rfl, trivial⟩, ⟨⟨⟨rfl, rfl⟩, trivial⟩, rfl, trivial⟩, ⟨rfl, rfl⟩, trivial⟩ ⟨⟨⟨rfl, rfl⟩, rfl⟩, ⟨⟨rfl, rfl⟩, rfl⟩, ⟨⟨rfl, rfl⟩, rfl⟩, rfl, trivial⟩)⟩
    · have he := ok_f he hb
      exact ⟨(i1, i_0), ok_up he, (leads_ren [(10001000, 10000000), (10001001, 10000001), (10001002, 10000002)] (l := [(0, .c (.ptr 0 0)), (2, .c (.ptr 10001000 0)), (3, .c (.ptr 10001001 0))]) (st' := [(0, .rc [.imm (.int .u8) i1.1, .int .i64 i1.2]), (10001000, .rc [.nil, .nil]), (10001001, .rc [.own 10001002 false, .nil]), (10001002, .sl 3 (.int .i64) i_0 .shallow)]) rfl rfl ⟨⟨.inl rfl, rfl, trivial⟩, ⟨rfl, rfl, trivial⟩, ⟨⟨⟨rfl, rfl⟩, trivial⟩, rfl, trivial⟩, ⟨rfl, rfl⟩, trivial⟩ ⟨⟨⟨rfl, rfl⟩, rfl⟩, ⟨⟨rfl, rfl⟩, rfl⟩, ⟨⟨rfl, rfl⟩, rfl⟩, trivial⟩)⟩

noncomputable def c_spec_l6Copy : Con := fun args st => match args, st with
  | [.agg [.imm (.int .i64) m_0, .imm (.pair (.int .i64) (.pair (.sl (.int .i64)) (.pair (.sl (.int .i64)) (.pair (.int .i64) (.sl (.sl (.int .i64))))))) m_1]], [] => .opt ((List Int) × (List (Int × (List Int) × (List Int) × Int × (List (List Int))))) (spec_l6Copy (m_0, m_1)) (fun r => .ret (.agg [.own 901 false, .own 902 false]) [(900, .rc [.own 901 false, .own 902 false]), (901, .sl 3 (.int .i64) r.1 .shallow), (902, .sl 124 (.pair (.int .i64) (.pair (.sl (.int .i64)) (.pair (.sl (.int .i64)) (.pair (.int .i64) (.sl (.sl (.int .i64))))))) r.2 (.deep true .no))])
  | _, _ => .fail

noncomputable def C_spec_l6Copy : Cfg := { y := tys, n := 64, h := 0, tab := [], cut := [6, 7, 11], hand := [], good := [], deep := [54, 60], sched := [(6, (.first 0 (.first 1 (.first 3 (.first 4 (.first 7 (.first 8 (.first 10 (.first 11 (.alt 2 (.alt 5 (.alt 6 (.alt 9 (.alt 12 (.alt 13 (.alt 14 .done .stop) .stop) (.alt 13 (.alt 12 (.alt 14 .done .stop) .stop) .stop)) (.alt 13 (.alt 9 (.alt 12 (.alt 14 .done .stop) .stop) .stop) .stop)) (.alt 13 (.alt 6 (.alt 9 (.alt 12 (.alt 14 .done .stop) .stop) .stop) .stop) .stop)) (.alt 6 (.alt 5 (.alt 9 (.alt 12 (.alt 13 (.alt 14 .done .stop) .stop) (.alt 13 (.alt 12 (.alt 14 .done .stop) .stop) .stop)) (.alt 13 (.alt 9 (.alt 12 (.alt 14 .done .stop) .stop) .stop) .stop)) (.alt 13 (.alt 5 (.alt 9 (.alt 12 (.alt 14 .done .stop) .stop) .stop) .stop) .stop)) (.alt 13 (.alt 5 (.alt 6 (.alt 9 (.alt 12 (.alt 14 .done .stop) .stop) .stop) .stop) (.alt 6 (.alt 5 (.alt 9 (.alt 12 (.alt 14 .done .stop) .stop) .stop) .stop) .stop)) .stop))) (.alt 6 (.alt 2 (.alt 5 (.alt 9 (.alt 12 (.alt 13 (.alt 14 .done .stop) .stop) (.alt 13 (.alt 12 (.alt 14 .done .stop) .stop) .stop)) (.alt 13 (.alt 9 (.alt 12 (.alt 14 .done .stop) .stop) .stop) .stop)) (.alt 13 (.alt 5 (.alt 9 (.alt 12 (.alt 14 .done .stop) .stop) .stop) .stop) .stop)) (.alt 13 (.alt 2 (.alt 5 (.alt 9 (.alt 12 (.alt 14 .done .stop) .stop) .stop) .stop) .stop) .stop)) (.alt 13 (.alt 2 (.alt 5 (.alt 6 (.alt 9 (.alt 12 (.alt 14 .done .stop) .stop) .stop) .stop) (.alt 6 (.alt 5 (.alt 9 (.alt 12 (.alt 14 .done .stop) .stop) .stop) .stop) .stop)) (.alt 6 (.alt 2 (.alt 5 (.alt 9 (.alt 12 (.alt 14 .done .stop) .stop) .stop) .stop) .stop) .stop)) .stop)))))))))))), (10, (.first 0 (.first 3 (.first 4 (.first 5 (.first 6 (.first 7 (.alt 1 (.alt 2 (.alt 8 (.alt 9 (.alt 10 (.first 11 (.alt 12 .done .stop)) .stop) .stop) .stop) .stop) (.alt 2 (.alt 1 (.alt 8 (.alt 9 (.alt 10 (.first 11 (.alt 12 .done .stop)) .stop) .stop) .stop) (.alt 8 (.alt 1 (.alt 9 (.alt 10 (.first 11 (.alt 12 .done .stop)) .stop) .stop) (.alt 9 (.alt 1 (.alt 10 (.first 11 (.alt 12 .done .stop)) .stop) .stop) .stop)) .stop)) .stop)))))))))] }

theorem t_spec_l6Copy : TabOk Try.prog C_spec_l6Copy := tabOk_of (fun p h => by cases h)

theorem k_spec_l6Copy : Entry Try.prog 203 c_spec_l6Copy := by
  refine entry_by (C := C_spec_l6Copy) mixed tys_ok t_spec_l6Copy (fn := Try.f203) (c := bd Try.f203) (by kernel_rfl) (by kernel_rfl) (by kernel_rfl) (by kernel_rfl) ?_
  intro args st k he
  unfold c_spec_l6Copy at he
  split at he
  rotate_left
  · exact he.elim
  rename_i m_0 m_1
  have he : Ok (spec_l6Copy (m_0, m_1)) (fun r => k (.agg [.own 901 false, .own 902 false]) [(900, .rc [.own 901 false, .own 902 false]), (901, .sl 3 (.int .i64) r.1 .shallow), (902, .sl 124 (.pair (.int .i64) (.pair (.sl (.int .i64)) (.pair (.sl (.int .i64)) (.pair (.int .i64) (.sl (.sl (.int .i64))))))) r.2 (.deep true .no))]) := he
  refine ⟨rfl, rfl, ?_⟩
  have he := ok_rq he
  refine And.intro he.1 ?_
  have he := he.2
  refine loop_model mixed tys_ok t_spec_l6Copy (S := Int × (List (Int × (List Int) × (List Int) × Int × (List (List Int))))) (I := (fun (i, out_1) => (envOf [(1, .c (.ptr 10000000 0)), (2, .c (.ptr 10000001 0)), (3, .c (.ptr 10000002 0)), (4, .c (.int .i64 i))], [(10000000, .rc [.imm (.int .i64) (m_0, m_1).1, .imm (.pair (.int .i64) (.pair (.sl (.int .i64)) (.pair (.sl (.int .i64)) (.pair (.int .i64) (.sl (.sl (.int .i64))))))) (m_0, m_1).2]), (10000001, .rc [.nil, .nil]), (10000002, .rc [.own 10000003 false, .own 10000004 false]), (10000003, .sl 3 (.int .i64) (([] : List Int) ++ (m_0, m_1).1) .shallow), (10000004, .sl 124 (.pair (.int .i64) (.pair (.sl (.int .i64)) (.pair (.sl (.int .i64)) (.pair (.int .i64) (.sl (.sl (.int .i64))))))) out_1 (.deep true .no))]))) (f := spec_l6Copy_l1 (m_0, m_1)) (K := (fun r => k (.agg [.own 901 false, .own 902 false]) [(900, .rc [.own 901 false, .own 902 false]), (901, .sl 3 (.int .i64) r.1 .shallow), (902, .sl 124 (.pair (.int .i64) (.pair (.sl (.int .i64)) (.pair (.sl (.int .i64)) (.pair (.int .i64) (.sl (.sl (.int .i64))))))) r.2 (.deep true .no))])) he (leads_ren [(10000000, 1), (10000001, 2), (10000002, 3), (10000003, 11)] (l := [(1, .c (.ptr 10000000 0)), (2, .c (.ptr 10000001 0)), (3, .c (.ptr 10000002 0)), (4, .c (.int .i64 (0:Int)))]) (st' := [(10000000, .rc [.imm (.int .i64) (m_0, m_1).1, .imm (.pair (.int .i64) (.pair (.sl (.int .i64)) (.pair (.sl (.int .i64)) (.pair (.int .i64) (.sl (.sl (.int .i64))))))) (m_0, m_1).2]), (10000001, .rc [.nil, .nil]), (10000002, .rc [.own 10000003 false, .own 10000004 false]), (10000003, .sl 3 (.int .i64) (([] : List Int) ++ (m_0, m_1).1) .shallow), (10000004, .sl 124 (.pair (.int .i64) (.pair (.sl (.int .i64)) (.pair (.sl (.int .i64)) (.pair (.int .i64) (.sl (.sl (.int .i64))))))) ([] : List (Int × (List Int) × (List Int) × Int × (List (List Int)))) (.deep true .no))]) rfl rfl ⟨⟨.inl rfl, .inl rfl, trivial⟩, ⟨rfl, rfl, trivial⟩, ⟨⟨⟨rfl, rfl⟩, trivial⟩, ⟨rfl, trivial⟩, trivial⟩, ⟨rfl, rfl⟩, trivial, trivial⟩ ⟨⟨⟨rfl, rfl⟩, rfl⟩, ⟨⟨rfl, rfl⟩, rfl⟩, ⟨⟨rfl, rfl⟩, rfl⟩, rfl, trivial⟩) ?_
  rintro ⟨i, out_1⟩ J1 he
  refine And.intro (fun hb => ?_) (fun hb => ?_)
  · have he := ok_t he hb
    refine seq_model mixed tys_ok t_spec_l6Copy (S := Unit) (I := (fun _ => (envOf [(1, .c (.ptr 10005000 0)), (2, .c (.ptr 10005001 0)), (3, .c (.ptr 10005002 0)), (4, .c (.int .i64 i)), (5, .c (.iptr (.pair (.int .i64) (.pair (.sl (.int .i64)) (.pair (.sl (.int .i64)) (.pair (.int .i64) (.sl (.sl (.int .i64))))))) ((m_0, m_1).2.getD i.toNat (0, ([], ([], (0, []))))) 0))], [(10005000, .rc [.imm (.int .i64) (m_0, m_1).1, .imm (.pair (.int .i64) (.pair (.sl (.int .i64)) (.pair (.sl (.int .i64)) (.pair (.int .i64) (.sl (.sl (.int .i64))))))) (m_0, m_1).2]), (10005001, .rc [.nil, .nil]), (10005002, .rc [.own 10005003 false, .own 10005004 false]), (10005003, .sl 3 (.int .i64) (([] : List Int) ++ (m_0, m_1).1) .shallow), (10005004, .sl 124 (.pair (.int .i64) (.pair (.sl (.int .i64)) (.pair (.sl (.int .i64)) (.pair (.int .i64) (.sl (.sl (.int .i64))))))) out_1 (.deep true .no))]))) (B := fun s => Ok (spec_l6Copy_j1 (m_0, m_1) i out_1 s) (LK J1 (fun r => k (.agg [.own 901 false, .own 902 false]) [(900, .rc [.own 901 false, .own 902 false]), (901, .sl 3 (.int .i64) r.1 .shallow), (902, .sl 124 (.pair (.int .i64) (.pair (.sl (.int .i64)) (.pair (.sl (.int .i64)) (.pair (.int .i64) (.sl (.sl (.int .i64))))))) r.2 (.deep true .no))]))) ?_ ?_
    · rintro ⟨⟩ he
      refine seq_model mixed tys_ok t_spec_l6Copy (S := Unit) (I := (fun _ => (envOf [(1, .c (.ptr 10006000 0)), (2, .c (.ptr 10006001 0)), (3, .c (.ptr 10006002 0)), (4, .c (.int .i64 i)), (5, .c (.iptr (.pair (.int .i64) (.pair (.sl (.int .i64)) (.pair (.sl (.int .i64)) (.pair (.int .i64) (.sl (.sl (.int .i64))))))) ((m_0, m_1).2.getD i.toNat (0, ([], ([], (0, []))))) 0)), (6, .c (.ptr 10006003 0))], [(10006000, .rc [.imm (.int .i64) (m_0, m_1).1, .imm (.pair (.int .i64) (.pair (.sl (.int .i64)) (.pair (.sl (.int .i64)) (.pair (.int .i64) (.sl (.sl (.int .i64))))))) (m_0, m_1).2]), (10006001, .rc [.nil, .nil]), (10006002, .rc [.own 10006004 false, .own 10006005 false]), (10006003, .rc [.int .i64 ((m_0, m_1).2.getD i.toNat (0, ([], ([], (0, []))))).1, .own 10006006 false, .own 10006007 false, .int .i64 ((m_0, m_1).2.getD i.toNat (0, ([], ([], (0, []))))).2.2.2.1, .nil]), (10006004, .sl 3 (.int .i64) (([] : List Int) ++ (m_0, m_1).1) .shallow), (10006005, .sl 124 (.pair (.int .i64) (.pair (.sl (.int .i64)) (.pair (.sl (.int .i64)) (.pair (.int .i64) (.sl (.sl (.int .i64))))))) out_1 (.deep true .no)), (10006006, .sl 3 (.int .i64) (([] : List Int) ++ ((m_0, m_1).2.getD i.toNat (0, ([], ([], (0, []))))).2.1) .shallow), (10006007, .sl 3 (.int .i64) (([] : List Int) ++ ((m_0, m_1).2.getD i.toNat (0, ([], ([], (0, []))))).2.2.1) .shallow)]))) (B := fun s => Ok (spec_l6Copy_j2 (m_0, m_1) i out_1 s) (LK J1 (fun r => k (.agg [.own 901 false, .own 902 false]) [(900, .rc [.own 901 false, .own 902 false]), (901, .sl 3 (.int .i64) r.1 .shallow), (902, .sl 124 (.pair (.int .i64) (.pair (.sl (.int .i64)) (.pair (.sl (.int .i64)) (.pair (.int .i64) (.sl (.sl (.int .i64))))))) r.2 (.deep true .no))]))) ?_ ?_
      · rintro ⟨⟩ he
        refine seq_model mixed tys_ok t_spec_l6Copy (S := (List (List Int))) (I := (fun y_43 => (envOf [(1, .c (.ptr 10008000 0)), (2, .c (.ptr 10008001 0)), (3, .c (.ptr 10008002 0)), (4, .c (.int .i64 i)), (6, .c (.ptr 10008003 0))], [(10008000, .rc [.imm (.int .i64) (m_0, m_1).1, .imm (.pair (.int .i64) (.pair (.sl (.int .i64)) (.pair (.sl (.int .i64)) (.pair (.int .i64) (.sl (.sl (.int .i64))))))) (m_0, m_1).2]), (10008001, .rc [.nil, .nil]), (10008002, .rc [.own 10008004 false, .own 10008005 false]), (10008003, .rc [.int .i64 ((m_0, m_1).2.getD i.toNat (0, ([], ([], (0, []))))).1, .own 10008006 false, .own 10008007 false, .int .i64 ((m_0, m_1).2.getD i.toNat (0, ([], ([], (0, []))))).2.2.2.1, .own 10008008 false]), (10008004, .sl 3 (.int .i64) (([] : List Int) ++ (m_0, m_1).1) .shallow), (10008005, .sl 124 (.pair (.int .i64) (.pair (.sl (.int .i64)) (.pair (.sl (.int .i64)) (.pair (.int .i64) (.sl (.sl (.int .i64))))))) out_1 (.deep true .no)), (10008006, .sl 3 (.int .i64) (([] : List Int) ++ ((m_0, m_1).2.getD i.toNat (0, ([], ([], (0, []))))).2.1) .shallow), (10008007, .sl 3 (.int .i64) (([] : List Int) ++ ((m_0, m_1).2.getD i.toNat (0, ([], ([], (0, []))))).2.2.1) .shallow), (10008008, .sl 23 (.sl (.int .i64)) y_43 (.deep true .no))]))) (B := fun s => Ok (spec_l6Copy_j3 (m_0, m_1) i out_1 s) (LK J1 (fun r => k (.agg [.own 901 false, .own 902 false]) [(900, .rc [.own 901 false, .own 902 false]), (901, .sl 3 (.int .i64) r.1 .shallow), (902, .sl 124 (.pair (.int .i64) (.pair (.sl (.int .i64)) (.pair (.sl (.int .i64)) (.pair (.int .i64) (.sl (.sl (.int .i64))))))) r.2 (.deep true .no))]))) ?_ ?_
        · rintro y_43 he
          have he := ok_rq he
          refine And.intro he.1 ?_
          have he := he.2
          have he := ok_rq he
          refine And.intro he.1 ?_
          have he := he.2
          have he := ok_some he
          exact ⟨((i + (1:Int)), (out_1 ++ [(((m_0, m_1).2.getD i.toNat (0, ([], ([], (0, []))))).1, ((([] : List Int) ++ ((m_0, m_1).2.getD i.toNat (0, ([], ([], (0, []))))).2.1), ((([] : List Int) ++ ((m_0, m_1).2.getD i.toNat (0, ([], ([], (0, []))))).2.2.1), (((m_0, m_1).2.getD i.toNat (0, ([], ([], (0, []))))).2.2.2.1, y_43))))])), he, (leads_ren [(10000000, 10008000), (10000001, 10008001), (10000002, 10008002), (10000003, 10008004), (10000004, 61)] (l := [(1, .c (.ptr 10000000 0)), (2, .c (.ptr 10000001 0)), (3, .c (.ptr 10000002 0)), (4, .c (.int .i64 (i + (1:Int))))]) (st' := [(10000000, .rc [.imm (.int .i64) (m_0, m_1).1, .imm (.pair (.int .i64) (.pair (.sl (.int .i64)) (.pair (.sl (.int .i64)) (.pair (.int .i64) (.sl (.sl (.int .i64))))))) (m_0, m_1).2]), (10000001, .rc [.nil, .nil]), (10000002, .rc [.own 10000003 false, .own 10000004 false]), (10000003, .sl 3 (.int .i64) (([] : List Int) ++ (m_0, m_1).1) .shallow), (10000004, .sl 124 (.pair (.int .i64) (.pair (.sl (.int .i64)) (.pair (.sl (.int .i64)) (.pair (.int .i64) (.sl (.sl (.int .i64))))))) (out_1 ++ [(((m_0, m_1).2.getD i.toNat (0, ([], ([], (0, []))))).1, ((([] : List Int) ++ ((m_0, m_1).2.getD i.toNat (0, ([], ([], (0, []))))).2.1), ((([] : List Int) ++ ((m_0, m_1).2.getD i.toNat (0, ([], ([], (0, []))))).2.2.1), (((m_0, m_1).2.getD i.toNat (0, ([], ([], (0, []))))).2.2.2.1, y_43))))]) (.deep true .no))]) rfl rfl ⟨⟨.inl rfl, .inl rfl, trivial⟩, ⟨rfl, rfl, trivial⟩, ⟨⟨⟨rfl, rfl⟩, trivial⟩, ⟨⟨rfl, rfl⟩, trivial⟩, trivial⟩, ⟨rfl, rfl⟩, ⟨rfl, rfl⟩, trivial⟩ ⟨⟨⟨rfl, rfl⟩, rfl⟩, ⟨⟨rfl, rfl⟩, rfl⟩, ⟨⟨rfl, rfl⟩, rfl⟩, rfl, trivial⟩)⟩
        · skip
          refine loop_model mixed tys_ok t_spec_l6Copy (S := Int × (List (List Int))) (I := (fun (k_1, y_42) => (envOf [(1, .c (.ptr 10007000 0)), (2, .c (.ptr 10007001 0)), (3, .c (.ptr 10007002 0)), (4, .c (.int .i64 i)), (5, .c (.iptr (.pair (.int .i64) (.pair (.sl (.int .i64)) (.pair (.sl (.int .i64)) (.pair (.int .i64) (.sl (.sl (.int .i64))))))) ((m_0, m_1).2.getD i.toNat (0, ([], ([], (0, []))))) 0)), (6, .c (.ptr 10007003 0)), (7, .c (.int .i64 k_1))], [(10007000, .rc [.imm (.int .i64) (m_0, m_1).1, .imm (.pair (.int .i64) (.pair (.sl (.int .i64)) (.pair (.sl (.int .i64)) (.pair (.int .i64) (.sl (.sl (.int .i64))))))) (m_0, m_1).2]), (10007001, .rc [.nil, .nil]), (10007002, .rc [.own 10007004 false, .own 10007005 false]), (10007003, .rc [.int .i64 ((m_0, m_1).2.getD i.toNat (0, ([], ([], (0, []))))).1, .own 10007006 false, .own 10007007 false, .int .i64 ((m_0, m_1).2.getD i.toNat (0, ([], ([], (0, []))))).2.2.2.1, .own 10007008 false]), (10007004, .sl 3 (.int .i64) (([] : List Int) ++ (m_0, m_1).1) .shallow), (10007005, .sl 124 (.pair (.int .i64) (.pair (.sl (.int .i64)) (.pair (.sl (.int .i64)) (.pair (.int .i64) (.sl (.sl (.int .i64))))))) out_1 (.deep true .no)), (10007006, .sl 3 (.int .i64) (([] : List Int) ++ ((m_0, m_1).2.getD i.toNat (0, ([], ([], (0, []))))).2.1) .shallow), (10007007, .sl 3 (.int .i64) (([] : List Int) ++ ((m_0, m_1).2.getD i.toNat (0, ([], ([], (0, []))))).2.2.1) .shallow), (10007008, .sl 23 (.sl (.int .i64)) y_42 (.deep true .no))]))) (f := spec_l6Copy_l2 (m_0, m_1) i out_1) (K := (LK J1 (fun r => k (.agg [.own 901 false, .own 902 false]) [(900, .rc [.own 901 false, .own 902 false]), (901, .sl 3 (.int .i64) r.1 .shallow), (902, .sl 124 (.pair (.int .i64) (.pair (.sl (.int .i64)) (.pair (.sl (.int .i64)) (.pair (.int .i64) (.sl (.sl (.int .i64))))))) r.2 (.deep true .no))]))) he (leads_ren [(10007000, 10006000), (10007001, 10006001), (10007002, 10006002), (10007003, 10006003), (10007004, 10006004), (10007005, 10006005), (10007006, 10006006), (10007007, 10006007)] (l := [(1, .c (.ptr 10007000 0)), (2, .c (.ptr 10007001 0)), (3, .c (.ptr 10007002 0)), (4, .c (.int .i64 i)), (5, .c (.iptr (.pair (.int .i64) (.pair (.sl (.int .i64)) (.pair (.sl (.int .i64)) (.pair (.int .i64) (.sl (.sl (.int .i64))))))) ((m_0, m_1).2.getD i.toNat (0, ([], ([], (0, []))))) 0)), (6, .c (.ptr 10007003 0)), (7, .c (.int .i64 (0:Int)))]) (st' := [(10007000, .rc [.imm (.int .i64) (m_0, m_1).1, .imm (.pair (.int .i64) (.pair (.sl (.int .i64)) (.pair (.sl (.int .i64)) (.pair (.int .i64) (.sl (.sl (.int .i64))))))) (m_0, m_1).2]), (10007001, .rc [.nil, .nil]), (10007002, .rc [.own 10007004 false, .own 10007005 false]), (10007003, .rc [.int .i64 ((m_0, m_1).2.getD i.toNat (0, ([], ([], (0, []))))).1, .own 10007006 false, .own 10007007 false, .int .i64 ((m_0, m_1).2.getD i.toNat (0, ([], ([], (0, []))))).2.2.2.1, .own 10007008 false]), (10007004, .sl 3 (.int .i64) (([] : List Int) ++ (m_0, m_1).1) .shallow), (10007005, .sl 124 (.pair (.int .i64) (.pair (.sl (.int .i64)) (.pair (.sl (.int .i64)) (.pair (.int .i64) (.sl (.sl (.int .i64))))))) out_1 (.deep true .no)), (10007006, .sl 3 (.int .i64) (([] : List Int) ++ ((m_0, m_1).2.getD i.toNat (0, ([], ([], (0, []))))).2.1) .shallow), (10007007, .sl 3 (.int .i64) (([] : List Int) ++ ((m_0, m_1).2.getD i.toNat (0, ([], ([], (0, []))))).2.2.1) .shallow), (10007008, .sl 23 (.sl (.int .i64)) ([] : List (List Int)) (.deep true .no))]) rfl rfl ⟨⟨.inl rfl, .inl rfl, trivial⟩, ⟨rfl, rfl, trivial⟩, ⟨⟨⟨rfl, rfl⟩, trivial⟩, ⟨⟨rfl, rfl⟩, trivial⟩, trivial⟩, ⟨rfl, ⟨⟨rfl, rfl⟩, trivial⟩, ⟨⟨rfl, rfl⟩, trivial⟩, rfl, ⟨rfl, trivial⟩, trivial⟩, ⟨rfl, rfl⟩, ⟨rfl, rfl⟩, ⟨rfl, rfl⟩, ⟨rfl, rfl⟩, trivial, trivial⟩ ⟨⟨⟨rfl, rfl⟩, rfl⟩, ⟨⟨rfl, rfl⟩, rfl⟩, ⟨⟨rfl, rfl⟩, rfl⟩, rfl, .inl rfl, ⟨⟨rfl, rfl⟩, rfl⟩, rfl, trivial⟩) ?_
          rintro ⟨k_1, y_42⟩ J2 he
          refine And.intro (fun hb => ?_) (fun hb => ?_)
          · have he := ok_t he hb
            refine And.intro (by kernel_rfl) ?_
            have he := ok_rq he
            refine And.intro he.1 ?_
            have he := he.2
            have he := ok_rq he
            have hq1 := he.1
            have he := he.2
            have he := ok_rq he
            have hq2 := he.1
            have he := he.2
            refine And.intro ?_ (And.intro ?_ (trivial))
            · skip
              refine And.intro ?_ trivial
              refine And.intro ?_ trivial
              refine And.intro hq1 ?_
              refine And.intro ?_ trivial
              refine And.intro ?_ trivial
              refine And.intro hq2 ?_
              refine And.intro ?_ trivial
              have he := ok_rq he
              refine And.intro he.1 ?_
              have he := he.2
              have he := ok_some he
              exact ⟨((k_1 + (1:Int)), (y_42 ++ [(([] : List Int) ++ (((m_0, m_1).2.getD i.toNat (0, ([], ([], (0, []))))).2.2.2.2.getD k_1.toNat []))])), he, (leads_ren [(10007008, 55)] (l := [(1, .c (.ptr 10007000 0)), (2, .c (.ptr 10007001 0)), (3, .c (.ptr 10007002 0)), (4, .c (.int .i64 i)), (5, .c (.iptr (.pair (.int .i64) (.pair (.sl (.int .i64)) (.pair (.sl (.int .i64)) (.pair (.int .i64) (.sl (.sl (.int .i64))))))) ((m_0, m_1).2.getD i.toNat (0, ([], ([], (0, []))))) 0)), (6, .c (.ptr 10007003 0)), (7, .c (.int .i64 (k_1 + (1:Int))))]) (st' := [(10007000, .rc [.imm (.int .i64) (m_0, m_1).1, .imm (.pair (.int .i64) (.pair (.sl (.int .i64)) (.pair (.sl (.int .i64)) (.pair (.int .i64) (.sl (.sl (.int .i64))))))) (m_0, m_1).2]), (10007001, .rc [.nil, .nil]), (10007002, .rc [.own 10007004 false, .own 10007005 false]), (10007003, .rc [.int .i64 ((m_0, m_1).2.getD i.toNat (0, ([], ([], (0, []))))).1, .own 10007006 false, .own 10007007 false, .int .i64 ((m_0, m_1).2.getD i.toNat (0, ([], ([], (0, []))))).2.2.2.1, .own 10007008 false]), (10007004, .sl 3 (.int .i64) (([] : List Int) ++ (m_0, m_1).1) .shallow), (10007005, .sl 124 (.pair (.int .i64) (.pair (.sl (.int .i64)) (.pair (.sl (.int .i64)) (.pair (.int .i64) (.sl (.sl (.int .i64))))))) out_1 (.deep true .no)), (10007006, .sl 3 (.int .i64) (([] : List Int) ++ ((m_0, m_1).2.getD i.toNat (0, ([], ([], (0, []))))).2.1) .shallow), (10007007, .sl 3 (.int .i64) (([] : List Int) ++ ((m_0, m_1).2.getD i.toNat (0, ([], ([], (0, []))))).2.2.1) .shallow), (10007008, .sl 23 (.sl (.int .i64)) (y_42 ++ [(([] : List Int) ++ (((m_0, m_1).2.getD i.toNat (0, ([], ([], (0, []))))).2.2.2.2.getD k_1.toNat []))]) (.deep true .no))]) rfl rfl ⟨⟨.inl rfl, .inl rfl, trivial⟩, ⟨rfl, rfl, trivial⟩, ⟨⟨⟨rfl, rfl⟩, trivial⟩, ⟨⟨rfl, rfl⟩, trivial⟩, trivial⟩, ⟨rfl, ⟨⟨rfl, rfl⟩, trivial⟩, ⟨⟨rfl, rfl⟩, trivial⟩, rfl, ⟨⟨rfl, rfl⟩, trivial⟩, trivial⟩, ⟨rfl, rfl⟩, ⟨rfl, rfl⟩, ⟨rfl, rfl⟩, ⟨rfl, rfl⟩, ⟨rfl, rfl⟩, trivial⟩ ⟨⟨⟨rfl, rfl⟩, rfl⟩, ⟨⟨rfl, rfl⟩, rfl⟩, ⟨⟨rfl, rfl⟩, rfl⟩, rfl, .inl rfl, ⟨⟨rfl, rfl⟩, rfl⟩, rfl, trivial⟩)⟩
            · skip
              refine And.intro ?_ (And.intro ?_ (trivial))
              · skip
                refine And.intro ?_ trivial
                refine And.intro hq1 ?_
                refine And.intro ?_ trivial
                refine And.intro ?_ trivial
                refine And.intro hq2 ?_
                refine And.intro ?_ trivial
                have he := ok_rq he
                refine And.intro he.1 ?_
                have he := he.2
                have he := ok_some he
                exact ⟨((k_1 + (1:Int)), (y_42 ++ [(([] : List Int) ++ (((m_0, m_1).2.getD i.toNat (0, ([], ([], (0, []))))).2.2.2.2.getD k_1.toNat []))])), he, (leads_ren [(10007008, 55)] (l := [(1, .c (.ptr 10007000 0)), (2, .c (.ptr 10007001 0)), (3, .c (.ptr 10007002 0)), (4, .c (.int .i64 i)), (5, .c (.iptr (.pair (.int .i64) (.pair (.sl (.int .i64)) (.pair (.sl (.int .i64)) (.pair (.int .i64) (.sl (.sl (.int .i64))))))) ((m_0, m_1).2.getD i.toNat (0, ([], ([], (0, []))))) 0)), (6, .c (.ptr 10007003 0)), (7, .c (.int .i64 (k_1 + (1:Int))))]) (st' := [(10007000, .rc [.imm (.int .i64) (m_0, m_1).1, .imm (.pair (.int .i64) (.pair (.sl (.int .i64)) (.pair (.sl (.int .i64)) (.pair (.int .i64) (.sl (.sl (.int .i64))))))) (m_0, m_1).2]), (10007001, .rc [.nil, .nil]), (10007002, .rc [.own 10007004 false, .own 10007005 false]), (10007003, .rc [.int .i64 ((m_0, m_1).2.getD i.toNat (0, ([], ([], (0, []))))).1, .own 10007006 false, .own 10007007 false, .int .i64 ((m_0, m_1).2.getD i.toNat (0, ([], ([], (0, []))))).2.2.2.1, .own 10007008 false]), (10007004, .sl 3 (.int .i64) (([] : List Int) ++ (m_0, m_1).1) .shallow), (10007005, .sl 124 (.pair (.int .i64) (.pair (.sl (.int .i64)) (.pair (.sl (.int .i64)) (.pair (.int .i64) (.sl (.sl (.int .i64))))))) out_1 (.deep true .no)), (10007006, .sl 3 (.int .i64) (([] : List Int) ++ ((m_0, m_1).2.getD i.toNat (0, ([], ([], (0, []))))).2.1) .shallow), (10007007, .sl 3 (.int .i64) (([] : List Int) ++ ((m_0, m_1).2.getD i.toNat (0, ([], ([], (0, []))))).2.2.1) .shallow), (10007008, .sl 23 (.sl (.int .i64)) (y_42 ++ [(([] : List Int) ++ (((m_0, m_1).2.getD i.toNat (0, ([], ([], (0, []))))).2.2.2.2.getD k_1.toNat []))]) (.deep true .no))]) rfl rfl ⟨⟨.inl rfl, .inl rfl, trivial⟩, ⟨rfl, rfl, trivial⟩, ⟨⟨⟨rfl, rfl⟩, trivial⟩, ⟨⟨rfl, rfl⟩, trivial⟩, trivial⟩, ⟨rfl, ⟨⟨rfl, rfl⟩, trivial⟩, ⟨⟨rfl, rfl⟩, trivial⟩, rfl, ⟨⟨rfl, rfl⟩, trivial⟩, trivial⟩, ⟨rfl, rfl⟩, ⟨rfl, rfl⟩, ⟨rfl, rfl⟩, ⟨rfl, rfl⟩, ⟨rfl, rfl⟩, trivial⟩ ⟨⟨⟨rfl, rfl⟩, rfl⟩, ⟨⟨rfl, rfl⟩, rfl⟩, ⟨⟨rfl, rfl⟩, rfl⟩, rfl, .inl rfl, ⟨⟨rfl, rfl⟩, rfl⟩, rfl, trivial⟩)⟩
              · skip
                refine And.intro hq1 ?_
                refine And.intro ?_ (And.intro ?_ (trivial))
                · skip
                  refine And.intro ?_ trivial
                  refine And.intro ?_ trivial
                  refine And.intro hq2 ?_
                  refine And.intro ?_ trivial
                  have he := ok_rq he
                  refine And.intro he.1 ?_
                  have he := he.2
                  have he := ok_some he
                  exact ⟨((k_1 + (1:Int)), (y_42 ++ [(([] : List Int) ++ (((m_0, m_1).2.getD i.toNat (0, ([], ([], (0, []))))).2.2.2.2.getD k_1.toNat []))])), he, (leads_ren [(10007008, 55)] (l := [(1, .c (.ptr 10007000 0)), (2, .c (.ptr 10007001 0)), (3, .c (.ptr 10007002 0)), (4, .c (.int .i64 i)), (5, .c (.iptr (.pair (.int .i64) (.pair (.sl (.int .i64)) (.pair (.sl (.int .i64)) (.pair (.int .i64) (.sl (.sl (.int .i64))))))) ((m_0, m_1).2.getD i.toNat (0, ([], ([], (0, []))))) 0)), (6, .c (.ptr 10007003 0)), (7, .c (.int .i64 (k_1 + (1:Int))))]) (st' := [(10007000, .rc [.imm (.int .i64) (m_0, m_1).1, .imm (.pair (.int .i64) (.pair (.sl (.int .i64)) (.pair (.sl (.int .i64)) (.pair (.int .i64) (.sl (.sl (.int .i64))))))) (m_0, m_1).2]), (10007001, .rc [.nil, .nil]), (10007002, .rc [.own 10007004 false, .own 10007005 false]), (10007003, .rc [.int .i64 ((m_0, m_1).2.getD i.toNat (0, ([], ([], (0, []))))).1, .own 10007006 false, .own 10007007 false, .int .i64 ((m_0, m_1).2.getD i.toNat (0, ([], ([], (0, []))))).2.2.2.1, .own 10007008 false]), (10007004, .sl 3 (.int .i64) (([] : List Int) ++ (m_0, m_1).1) .shallow), (10007005, .sl 124 (.pair (.int .i64) (.pair (.sl (.int .i64)) (.pair (.sl (.int .i64)) (.pair (.int .i64) (.sl (.sl (.int .i64))))))) out_1 (.deep true .no)), (10007006, .sl 3 (.int .i64) (([] : List Int) ++ ((m_0, m_1).2.getD i.toNat (0, ([], ([], (0, []))))).2.1) .shallow), (10007007, .sl 3 (.int .i64) (([] : List Int) ++ ((m_0, m_1).2.getD i.toNat (0, ([], ([], (0, []))))).2.2.1) .shallow), (10007008, .sl 23 (.sl (.int .i64)) (y_42 ++ [(([] : List Int) ++ (((m_0, m_1).2.getD i.toNat (0, ([], ([], (0, []))))).2.2.2.2.getD k_1.toNat []))]) (.deep true .no))]) rfl rfl ⟨⟨.inl rfl, .inl rfl, trivial⟩, ⟨rfl, rfl, trivial⟩, ⟨⟨⟨rfl, rfl⟩, trivial⟩, ⟨⟨rfl, rfl⟩, trivial⟩, trivial⟩, ⟨rfl, ⟨⟨rfl, rfl⟩, trivial⟩, ⟨⟨rfl, rfl⟩, trivial⟩, rfl, ⟨⟨rfl, rfl⟩, trivial⟩, trivial⟩, ⟨rfl, rfl⟩, ⟨rfl, rfl⟩, ⟨rfl, rfl⟩, ⟨rfl, rfl⟩, ⟨rfl, rfl⟩, trivial⟩ ⟨⟨⟨rfl, rfl⟩, rfl⟩, ⟨⟨rfl, rfl⟩, rfl⟩, ⟨⟨rfl, rfl⟩, rfl⟩, rfl, .inl rfl, ⟨⟨rfl, rfl⟩, rfl⟩, rfl, trivial⟩)⟩
                · skip
                  refine And.intro ?_ trivial
                  refine And.intro ?_ trivial
                  refine And.intro hq2 ?_
                  refine And.intro ?_ trivial
                  have he := ok_rq he
                  refine And.intro he.1 ?_
                  have he := he.2
                  have he := ok_some he
                  exact ⟨((k_1 + (1:Int)), (y_42 ++ [(([] : List Int) ++ (((m_0, m_1).2.getD i.toNat (0, ([], ([], (0, []))))).2.2.2.2.getD k_1.toNat []))])), he, (leads_ren [(10007008, 55)] (l := [(1, .c (.ptr 10007000 0)), (2, .c (.ptr 10007001 0)), (3, .c (.ptr 10007002 0)), (4, .c (.int .i64 i)), (5, .c (.iptr (.pair (.int .i64) (.pair (.sl (.int .i64)) (.pair (.sl (.int .i64)) (.pair (.int .i64) (.sl (.sl (.int .i64))))))) ((m_0, m_1).2.getD i.toNat (0, ([], ([], (0, []))))) 0)), (6, .c (.ptr 10007003 0)), (7, .c (.int .i64 (k_1 + (1:Int))))]) (st' := [(10007000, .rc [.imm (.int .i64) (m_0, m_1).1, .imm (.pair (.int .i64) (.pair (.sl (.int .i64)) (.pair (.sl (.int .i64)) (.pair (.int .i64) (.sl (.sl (.int .i64))))))) (m_0, m_1).2]), (10007001, .rc [.nil, .nil]), (10007002, .rc [.own 10007004 false, .own 10007005 false]), (10007003, .rc [.int .i64 ((m_0, m_1).2.getD i.toNat (0, ([], ([], (0, []))))).1, .own 10007006 false, .own 10007007 false, .int .i64 ((m_0, m_1).2.getD i.toNat (0, ([], ([], (0, []))))).2.2.2.1, .own 10007008 false]), (10007004, .sl 3 (.int .i64) (([] : List Int) ++ (m_0, m_1).1) .shallow), (10007005, .sl 124 (.pair (.int .i64) (.pair (.sl (.int .i64)) (.pair (.sl (.int .i64)) (.pair (.int .i64) (.sl (.sl (.int .i64))))))) out_1 (.deep true .no)), (10007006, .sl 3 (.int .i64) (([] : List Int) ++ ((m_0, m_1).2.getD i.toNat (0, ([], ([], (0, []))))).2.1) .shallow), (10007007, .sl 3 (.int .i64) (([] : List Int) ++ ((m_0, m_1).2.getD i.toNat (0, ([], ([], (0, []))))).2.2.1) .shallow), (10007008, .sl 23 (.sl (.int .i64)) (y_42 ++ [(([] : List Int) ++ (((m_0, m_1).2.getD i.toNat (0, ([], ([], (0, []))))).2.2.2.2.getD k_1.toNat []))]) (.deep true .no))]) rfl rfl ⟨⟨.inl rfl, .inl rfl, trivial⟩, ⟨rfl, rfl, trivial⟩, ⟨⟨⟨rfl, rfl⟩, trivial⟩, ⟨⟨rfl, rfl⟩, trivial⟩, trivial⟩, ⟨rfl, ⟨⟨rfl, rfl⟩, trivial⟩, ⟨⟨rfl, rfl⟩, trivial⟩, rfl, ⟨⟨rfl, rfl⟩, trivial⟩, trivial⟩, ⟨rfl, rfl⟩, ⟨rfl, rfl⟩, ⟨rfl, rfl⟩, ⟨rfl, rfl⟩, ⟨rfl, rfl⟩, trivial⟩ ⟨⟨⟨rfl, rfl⟩, rfl⟩, ⟨⟨rfl, rfl⟩, rfl⟩, ⟨⟨rfl, rfl⟩, rfl⟩, rfl, .inl rfl, ⟨⟨rfl, rfl⟩, rfl⟩, rfl, trivial⟩)⟩
          · have he := ok_f he hb
            exact ⟨y_42, ok_up he, (leads_ren [(10008000, 10007000), (10008001, 10007001), (10008002, 10007002), (10008003, 10007003), (10008004, 10007004), (10008005, 10007005), (10008006, 10007006), (10008007, 10007007), (10008008, 10007008)] (l := [(1, .c (.ptr 10008000 0)), (2, .c (.ptr 10008001 0)), (3, .c (.ptr 10008002 0)), (4, .c (.int .i64 i)), (6, .c (.ptr 10008003 0))]) (st' := [(10008000, .rc [.imm (.int .i64) (m_0, m_1).1, .imm (.pair (.int .i64) (.pair (.sl (.int .i64)) (.pair (.sl (.int .i64)) (.pair (.int .i64) (.sl (.sl (.int .i64))))))) (m_0, m_1).2]), (10008001, .rc [.nil, .nil]), (10008002, .rc [.own 10008004 false, .own 10008005 false]), (10008003, .rc [.int .i64 ((m_0, m_1).2.getD i.toNat (0, ([], ([], (0, []))))).1, .own 10008006 false, .own 10008007 false, .int .i64 ((m_0, m_1).2.getD i.toNat (0, ([], ([], (0, []))))).2.2.2.1, .own 10008008 false]), (10008004, .sl 3 (.int .i64) (([] : List Int) ++ (m_0, m_1).1) .shallow), (10008005, .sl 124 (.pair (.int .i64) (.pair (.sl (.int .i64)) (.pair (.sl (.int .i64)) (.pair (.int .i64) (.sl (.sl (.int .i64))))))) out_1 (.deep true .no)), (10008006, .sl 3 (.int .i64) (([] : List Int) ++ ((m_0, m_1).2.getD i.toNat (0, ([], ([], (0, []))))).2.1) .shallow), (10008007, .sl 3 (.int .i64) (([] : List Int) ++ ((m_0, m_1).2.getD i.toNat (0, ([], ([], (0, []))))).2.2.1) .shallow), (10008008, .sl 23 (.sl (.int .i64)) y_42 (.deep true .no))]) rfl rfl ⟨⟨.inl rfl, .inl rfl, trivial⟩, ⟨rfl, rfl, trivial⟩, ⟨⟨⟨rfl, rfl⟩, trivial⟩, ⟨⟨rfl, rfl⟩, trivial⟩, trivial⟩, ⟨rfl, ⟨⟨rfl, rfl⟩, trivial⟩, ⟨⟨rfl, rfl⟩, trivial⟩, rfl, ⟨⟨rfl, rfl⟩, trivial⟩, trivial⟩, ⟨rfl, rfl⟩, ⟨rfl, rfl⟩, ⟨rfl, rfl⟩, ⟨rfl, rfl⟩, ⟨rfl, rfl⟩, trivial⟩ ⟨⟨⟨rfl, rfl⟩, rfl⟩, ⟨⟨rfl, rfl⟩, rfl⟩, ⟨⟨rfl, rfl⟩, rfl⟩, rfl, ⟨⟨rfl, rfl⟩, rfl⟩, trivial⟩)⟩
      · skip
        refine And.intro (by kernel_rfl) ?_
        have he := ok_rq he
        have hq1 := he.1
        have he := he.2
        have he := ok_rq he
        have hq2 := he.1
        have he := he.2
        refine And.intro ?_ (And.intro ?_ (And.intro ?_ (trivial)))
        · skip
          refine And.intro ?_ (And.intro ?_ (And.intro ?_ (trivial)))
          · skip
            refine And.intro hq1 ?_
            refine And.intro ?_ (And.intro ?_ (trivial))
            · skip
              refine And.intro ?_ (And.intro ?_ (trivial))
              · skip
                refine And.intro hq2 ?_
                refine And.intro ?_ (And.intro ?_ (trivial))
                · skip
                  refine And.intro ?_ trivial
                  refine And.intro ?_ trivial
                  exact ⟨(), he, (leads_ren [(10006000, 10005000), (10006001, 10005001), (10006002, 10005002), (10006003, 6), (10006004, 10005003), (10006005, 10005004), (10006006, 30), (10006007, 34)] (l := [(1, .c (.ptr 10006000 0)), (2, .c (.ptr 10006001 0)), (3, .c (.ptr 10006002 0)), (4, .c (.int .i64 i)), (5, .c (.iptr (.pair (.int .i64) (.pair (.sl (.int .i64)) (.pair (.sl (.int .i64)) (.pair (.int .i64) (.sl (.sl (.int .i64))))))) ((m_0, m_1).2.getD i.toNat (0, ([], ([], (0, []))))) 0)), (6, .c (.ptr 10006003 0))]) (st' := [(10006000, .rc [.imm (.int .i64) (m_0, m_1).1, .imm (.pair (.int .i64) (.pair (.sl (.int .i64)) (.pair (.sl (.int .i64)) (.pair (.int .i64) (.sl (.sl (.int .i64))))))) (m_0, m_1).2]), (10006001, .rc [.nil, .nil]), (10006002, .rc [.own 10006004 false, .own 10006005 false]), (10006003, .rc [.int .i64 ((m_0, m_1).2.getD i.toNat (0, ([], ([], (0, []))))).1, .own 10006006 false, .own 10006007 false, .int .i64 ((m_0, m_1).2.getD i.toNat (0, ([], ([], (0, []))))).2.2.2.1, .nil]), (10006004, .sl 3 (.int .i64) (([] : List Int) ++ (m_0, m_1).1) .shallow), (10006005, .sl 124 (.pair (.int .i64) (.pair (.sl (.int .i64)) (.pair (.sl (.int .i64)) (.pair (.int .i64) (.sl (.sl (.int .i64))))))) out_1 (.deep true .no)), (10006006, .sl 3 (.int .i64) (([] : List Int) ++ ((m_0, m_1).2.getD i.toNat (0, ([], ([], (0, []))))).2.1) .shallow), (10006007, .sl 3 (.int .i64) (([] : List Int) ++ ((m_0, m_1).2.getD i.toNat (0, ([], ([], (0, []))))).2.2.1) .shallow)]) rfl rfl ⟨⟨.inl rfl, .inl rfl, trivial⟩, ⟨rfl, rfl, trivial⟩, ⟨⟨⟨rfl, rfl⟩, trivial⟩, ⟨⟨rfl, rfl⟩, trivial⟩, trivial⟩, ⟨rfl, ⟨⟨rfl, rfl⟩, trivial⟩, ⟨⟨rfl, rfl⟩, trivial⟩, rfl, rfl, trivial⟩, ⟨rfl, rfl⟩, ⟨rfl, rfl⟩, ⟨rfl, rfl⟩, ⟨rfl, rfl⟩, trivial⟩ ⟨⟨⟨rfl, rfl⟩, rfl⟩, ⟨⟨rfl, rfl⟩, rfl⟩, ⟨⟨rfl, rfl⟩, rfl⟩, rfl, .inl rfl, ⟨⟨rfl, rfl⟩, rfl⟩, trivial⟩)⟩
                · skip
                  refine And.intro ?_ trivial
                  refine And.intro ?_ trivial
                  exact ⟨(), he, (leads_ren [(10006000, 10005000), (10006001, 10005001), (10006002, 10005002), (10006003, 6), (10006004, 10005003), (10006005, 10005004), (10006006, 30), (10006007, 34)] (l := [(1, .c (.ptr 10006000 0)), (2, .c (.ptr 10006001 0)), (3, .c (.ptr 10006002 0)), (4, .c (.int .i64 i)), (5, .c (.iptr (.pair (.int .i64) (.pair (.sl (.int .i64)) (.pair (.sl (.int .i64)) (.pair (.int .i64) (.sl (.sl (.int .i64))))))) ((m_0, m_1).2.getD i.toNat (0, ([], ([], (0, []))))) 0)), (6, .c (.ptr 10006003 0))]) (st' := [(10006000, .rc [.imm (.int .i64) (m_0, m_1).1, .imm (.pair (.int .i64) (.pair (.sl (.int .i64)) (.pair (.sl (.int .i64)) (.pair (.int .i64) (.sl (.sl (.int .i64))))))) (m_0, m_1).2]), (10006001, .rc [.nil, .nil]), (10006002, .rc [.own 10006004 false, .own 10006005 false]), (10006003, .rc [.int .i64 ((m_0, m_1).2.getD i.toNat (0, ([], ([], (0, []))))).1, .own 10006006 false, .own 10006007 false, .int .i64 ((m_0, m_1).2.getD i.toNat (0, ([], ([], (0, []))))).2.2.2.1, .nil]), (10006004, .sl 3 (.int .i64) (([] : List Int) ++ (m_0, m_1).1) .shallow), (10006005, .sl 124 (.pair (.int .i64) (.pair (.sl (.int .i64)) (.pair (.sl (.int .i64)) (.pair (.int .i64) (.sl (.sl (.int .i64))))))) out_1 (.deep true .no)), (10006006, .sl 3 (.int .i64) (([] : List Int) ++ ((m_0, m_1).2.getD i.toNat (0, ([], ([], (0, []))))).2.1) .shallow), (10006007, .sl 3 (.int .i64) (([] : List Int) ++ ((m_0, m_1).2.getD i.toNat (0, ([], ([], (0, []))))).2.2.1) .shallow)]) rfl rfl ⟨⟨.inl rfl, .inl rfl, trivial⟩, ⟨rfl, rfl, trivial⟩, ⟨⟨⟨rfl, rfl⟩, trivial⟩, ⟨⟨rfl, rfl⟩, trivial⟩, trivial⟩, ⟨rfl, ⟨⟨rfl, rfl⟩, trivial⟩, ⟨⟨rfl, rfl⟩, trivial⟩, rfl, rfl, trivial⟩, ⟨rfl, rfl⟩, ⟨rfl, rfl⟩, ⟨rfl, rfl⟩, ⟨rfl, rfl⟩, trivial⟩ ⟨⟨⟨rfl, rfl⟩, rfl⟩, ⟨⟨rfl, rfl⟩, rfl⟩, ⟨⟨rfl, rfl⟩, rfl⟩, rfl, .inl rfl, ⟨⟨rfl, rfl⟩, rfl⟩, trivial⟩)⟩
              · skip
                refine And.intro ?_ trivial
                refine And.intro hq2 ?_
                refine And.intro ?_ trivial
                refine And.intro ?_ trivial
                exact ⟨(), he, (leads_ren [(10006000, 10005000), (10006001, 10005001), (10006002, 10005002), (10006003, 6), (10006004, 10005003), (10006005, 10005004), (10006006, 30), (10006007, 34)] (l := [(1, .c (.ptr 10006000 0)), (2, .c (.ptr 10006001 0)), (3, .c (.ptr 10006002 0)), (4, .c (.int .i64 i)), (5, .c (.iptr (.pair (.int .i64) (.pair (.sl (.int .i64)) (.pair (.sl (.int .i64)) (.pair (.int .i64) (.sl (.sl (.int .i64))))))) ((m_0, m_1).2.getD i.toNat (0, ([], ([], (0, []))))) 0)), (6, .c (.ptr 10006003 0))]) (st' := [(10006000, .rc [.imm (.int .i64) (m_0, m_1).1, .imm (.pair (.int .i64) (.pair (.sl (.int .i64)) (.pair (.sl (.int .i64)) (.pair (.int .i64) (.sl (.sl (.int .i64))))))) (m_0, m_1).2]), (10006001, .rc [.nil, .nil]), (10006002, .rc [.own 10006004 false, .own 10006005 false]), (10006003, .rc [.int .i64 ((m_0, m_1).2.getD i.toNat (0, ([], ([], (0, []))))).1, .own 10006006 false, .own 10006007 false, .int .i64 ((m_0, m_1).2.getD i.toNat (0, ([], ([], (0, []))))).2.2.2.1, .nil]), (10006004, .sl 3 (.int .i64) (([] : List Int) ++ (m_0, m_1).1) .shallow), (10006005, .sl 124 (.pair (.int .i64) (.pair (.sl (.int .i64)) (.pair (.sl (.int .i64)) (.pair (.int .i64) (.sl (.sl (.int .i64))))))) out_1 (.deep true .no)), (10006006, .sl 3 (.int .i64) (([] : List Int) ++ ((m_0, m_1).2.getD i.toNat (0, ([], ([], (0, []))))).2.1) .shallow), (10006007, .sl 3 (.int .i64) (([] : List Int) ++ ((m_0, m_1).2.getD i.toNat (0, ([], ([], (0, []))))).2.2.1) .shallow)]) rfl rfl ⟨⟨.inl rfl, .inl rfl, trivial⟩, ⟨rfl, rfl, trivial⟩, ⟨⟨⟨rfl, rfl⟩, trivial⟩, ⟨⟨rfl, rfl⟩, trivial⟩, trivial⟩, ⟨rfl, ⟨⟨rfl, rfl⟩, trivial⟩, ⟨⟨rfl, rfl⟩, trivial⟩, rfl, rfl, trivial⟩, ⟨rfl, rfl⟩, ⟨rfl, rfl⟩, ⟨rfl, rfl⟩, ⟨rfl, rfl⟩, trivial⟩ ⟨⟨⟨rfl, rfl⟩, rfl⟩, ⟨⟨rfl, rfl⟩, rfl⟩, ⟨⟨rfl, rfl⟩, rfl⟩, rfl, .inl rfl, ⟨⟨rfl, rfl⟩, rfl⟩, trivial⟩)⟩
            · skip
              refine And.intro ?_ trivial
              refine And.intro ?_ trivial
              refine And.intro hq2 ?_
              refine And.intro ?_ trivial
              refine And.intro ?_ trivial
              exact ⟨(), he, (leads_ren [(10006000, 10005000), (10006001, 10005001), (10006002, 10005002), (10006003, 6), (10006004, 10005003), (10006005, 10005004), (10006006, 30), (10006007, 34)] (l := [(1, .c (.ptr 10006000 0)), (2, .c (.ptr 10006001 0)), (3, .c (.ptr 10006002 0)), (4, .c (.int .i64 i)), (5, .c (.iptr (.pair (.int .i64) (.pair (.sl (.int .i64)) (.pair (.sl (.int .i64)) (.pair (.int .i64) (.sl (.sl (.int .i64))))))) ((m_0, m_1).2.getD i.toNat (0, ([], ([], (0, []))))) 0)), (6, .c (.ptr 10006003 0))]) (st' := [(10006000, .rc [.imm (.int .i64) (m_0, m_1).1, .imm (.pair (.int .i64) (.pair (.sl (.int .i64)) (.pair (.sl (.int .i64)) (.pair (.int .i64) (.sl (.sl (.int .i64))))))) (m_0, m_1).2]), (10006001, .rc [.nil, .nil]), (10006002, .rc [.own 10006004 false, .own 10006005 false]), (10006003, .rc [.int .i64 ((m_0, m_1).2.getD i.toNat (0, ([], ([], (0, []))))).1, .own 10006006 false, .own 10006007 false, .int .i64 ((m_0, m_1).2.getD i.toNat (0, ([], ([], (0, []))))).2.2.2.1, .nil]), (10006004, .sl 3 (.int .i64) (([] : List Int) ++ (m_0, m_1).1) .shallow), (10006005, .sl 124 (.pair (.int .i64) (.pair (.sl (.int .i64)) (.pair (.sl (.int .i64)) (.pair (.int .i64) (.sl (.sl (.int .i64))))))) out_1 (.deep true .no)), (10006006, .sl 3 (.int .i64) (([] : List Int) ++ ((m_0, m_1).2.getD i.toNat (0, ([], ([], (0, []))))).2.1) .shallow), (10006007, .sl 3 (.int .i64) (([] : List Int) ++ ((m_0, m_1).2.getD i.toNat (0, ([], ([], (0, []))))).2.2.1) .shallow)]) rfl rfl ⟨⟨.inl rfl, .inl rfl, trivial⟩, ⟨rfl, rfl, trivial⟩, ⟨⟨⟨rfl, rfl⟩, trivial⟩, ⟨⟨rfl, rfl⟩, trivial⟩, trivial⟩, ⟨rfl, ⟨⟨rfl, rfl⟩, trivial⟩, ⟨⟨rfl, rfl⟩, trivial⟩, rfl, rfl, trivial⟩, ⟨rfl, rfl⟩, ⟨rfl, rfl⟩, ⟨rfl, rfl⟩, ⟨rfl, rfl⟩, trivial⟩ ⟨⟨⟨rfl, rfl⟩, rfl⟩, ⟨⟨rfl, rfl⟩, rfl⟩, ⟨⟨rfl, rfl⟩, rfl⟩, rfl, .inl rfl, ⟨⟨rfl, rfl⟩, rfl⟩, trivial⟩)⟩
          · skip
            refine And.intro ?_ (And.intro ?_ (trivial))
            · skip
              refine And.intro hq1 ?_
              refine And.intro ?_ (And.intro ?_ (trivial))
              · skip
                refine And.intro hq2 ?_
                refine And.intro ?_ (And.intro ?_ (trivial))
                · skip
                  refine And.intro ?_ trivial
                  refine And.intro ?_ trivial
                  exact ⟨(), he, (leads_ren [(10006000, 10005000), (10006001, 10005001), (10006002, 10005002), (10006003, 6), (10006004, 10005003), (10006005, 10005004), (10006006, 30), (10006007, 34)] (l := [(1, .c (.ptr 10006000 0)), (2, .c (.ptr 10006001 0)), (3, .c (.ptr 10006002 0)), (4, .c (.int .i64 i)), (5, .c (.iptr (.pair (.int .i64) (.pair (.sl (.int .i64)) (.pair (.sl (.int .i64)) (.pair (.int .i64) (.sl (.sl (.int .i64))))))) ((m_0, m_1).2.getD i.toNat (0, ([], ([], (0, []))))) 0)), (6, .c (.ptr 10006003 0))]) (st' := [(10006000, .rc [.imm (.int .i64) (m_0, m_1).1, .imm (.pair (.int .i64) (.pair (.sl (.int .i64)) (.pair (.sl (.int .i64)) (.pair (.int .i64) (.sl (.sl (.int .i64))))))) (m_0, m_1).2]), (10006001, .rc [.nil, .nil]), (10006002, .rc [.own 10006004 false, .own 10006005 false]), (10006003, .rc [.int .i64 ((m_0, m_1).2.getD i.toNat (0, ([], ([], (0, []))))).1, .own 10006006 false, .own 10006007 false, .int .i64 ((m_0, m_1).2.getD i.toNat (0, ([], ([], (0, []))))).2.2.2.1, .nil]), (10006004, .sl 3 (.int .i64) (([] : List Int) ++ (m_0, m_1).1) .shallow), (10006005, .sl 124 (.pair (.int .i64) (.pair (.sl (.int .i64)) (.pair (.sl (.int .i64)) (.pair (.int .i64) (.sl (.sl (.int .i64))))))) out_1 (.deep true .no)), (10006006, .sl 3 (.int .i64) (([] : List Int) ++ ((m_0, m_1).2.getD i.toNat (0, ([], ([], (0, []))))).2.1) .shallow), (10006007, .sl 3 (.int .i64) (([] : List Int) ++ ((m_0, m_1).2.getD i.toNat (0, ([], ([], (0, []))))).2.2.1) .shallow)]) rfl rfl ⟨⟨.inl rfl, .inl rfl, trivial⟩, ⟨rfl, rfl, trivial⟩, ⟨⟨⟨rfl, rfl⟩, trivial⟩, ⟨⟨rfl, rfl⟩, trivial⟩, trivial⟩, ⟨rfl, ⟨⟨rfl, rfl⟩, trivial⟩, ⟨⟨rfl, rfl⟩, trivial⟩, rfl, rfl, trivial⟩, ⟨rfl, rfl⟩, ⟨rfl, rfl⟩, ⟨rfl, rfl⟩, ⟨rfl, rfl⟩, trivial⟩ ⟨⟨⟨rfl, rfl⟩, rfl⟩, ⟨⟨rfl, rfl⟩, rfl⟩, ⟨⟨rfl, rfl⟩, rfl⟩, rfl, .inl rfl, ⟨⟨rfl, rfl⟩, rfl⟩, trivial⟩)⟩
                · skip
                  refine And.intro ?_ trivial
                  refine And.intro ?_ trivial
                  exact ⟨(), he, (leads_ren [(10006000, 10005000), (10006001, 10005001), (10006002, 10005002), (10006003, 6), (10006004, 10005003), (10006005, 10005004), (10006006, 30), (10006007, 34)] (l := [(1, .c (.ptr 10006000 0)), (2, .c (.ptr 10006001 0)), (3, .c (.ptr 10006002 0)), (4, .c (.int .i64 i)), (5, .c (.iptr (.pair (.int .i64) (.pair (.sl (.int .i64)) (.pair (.sl (.int .i64)) (.pair (.int .i64) (.sl (.sl (.int .i64))))))) ((m_0, m_1).2.getD i.toNat (0, ([], ([], (0, []))))) 0)), (6, .c (.ptr 10006003 0))]) (st' := [(10006000, .rc [.imm (.int .i64) (m_0, m_1).1, .imm (.pair (.int .i64) (.pair (.sl (.int .i64)) (.pair (.sl (.int .i64)) (.pair (.int .i64) (.sl (.sl (.int .i64))))))) (m_0, m_1).2]), (10006001, .rc [.nil, .nil]), (10006002, .rc [.own 10006004 false, .own 10006005 false]), (10006003, .rc [.int .i64 ((m_0, m_1).2.getD i.toNat (0, ([], ([], (0, []))))).1, .own 10006006 false, .own 10006007 false, .int .i64 ((m_0, m_1).2.getD i.toNat (0, ([], ([], (0, []))))).2.2.2.1, .nil]), (10006004, .sl 3 (.int .i64) (([] : List Int) ++ (m_0, m_1).1) .shallow), (10006005, .sl 124 (.pair (.int .i64) (.pair (.sl (.int .i64)) (.pair (.sl (.int .i64)) (.pair (.int .i64) (.sl (.sl (.int .i64))))))) out_1 (.deep true .no)), (10006006, .sl 3 (.int .i64) (([] : List Int) ++ ((m_0, m_1).2.getD i.toNat (0, ([], ([], (0, []))))).2.1) .shallow), (10006007, .sl 3 (.int .i64) (([] : List Int) ++ ((m_0, m_1).2.getD i.toNat (0, ([], ([], (0, []))))).2.2.1) .shallow)]) rfl rfl ⟨⟨.inl rfl, .inl rfl, trivial⟩, ⟨rfl, rfl, trivial⟩, ⟨⟨⟨rfl, rfl⟩, trivial⟩, ⟨⟨rfl, rfl⟩, trivial⟩, trivial⟩, ⟨rfl, ⟨⟨rfl, rfl⟩, trivial⟩, ⟨⟨rfl, rfl⟩, trivial⟩, rfl, rfl, trivial⟩, ⟨rfl, rfl⟩, ⟨rfl, rfl⟩, ⟨rfl, rfl⟩, ⟨rfl, rfl⟩, trivial⟩ ⟨⟨⟨rfl, rfl⟩, rfl⟩, ⟨⟨rfl, rfl⟩, rfl⟩, ⟨⟨rfl, rfl⟩, rfl⟩, rfl, .inl rfl, ⟨⟨rfl, rfl⟩, rfl⟩, trivial⟩)⟩
              · skip
                refine And.intro ?_ trivial
                refine And.intro hq2 ?_
                refine And.intro ?_ trivial
                refine And.intro ?_ trivial
                exact ⟨(), he, (leads_ren [(10006000, 10005000), (10006001, 10005001), (10006002, 10005002), (10006003, 6), (10006004, 10005003), (10006005, 10005004), (10006006, 30), (10006007, 34)] (l := [(1, .c (.ptr 10006000 0)), (2, .c (.ptr 10006001 0)), (3, .c (.ptr 10006002 0)), (4, .c (.int .i64 i)), (5, .c (.iptr (.pair (.int .i64) (.pair (.sl (.int .i64)) (.pair (.sl (.int .i64)) (.pair (.int .i64) (.sl (.sl (.int .i64))))))) ((m_0, m_1).2.getD i.toNat (0, ([], ([], (0, []))))) 0)), (6, .c (.ptr 10006003 0))]) (st' := [(10006000, .rc [.imm (.int .i64) (m_0, m_1).1, .imm (.pair (.int .i64) (.pair (.sl (.int .i64)) (.pair (.sl (.int .i64)) (.pair (.int .i64) (.sl (.sl (.int .i64))))))) (m_0, m_1).2]), (10006001, .rc [.nil, .nil]), (10006002, .rc [.own 10006004 false, .own 10006005 false]), (10006003, .rc [.int .i64 ((m_0, m_1).2.getD i.toNat (0, ([], ([], (0, []))))).1, .own 10006006 false, .own 10006007 false, .int .i64 ((m_0, m_1).2.getD i.toNat (0, ([], ([], (0, []))))).2.2.2.1, .nil]), (10006004, .sl 3 (.int .i64) (([] : List Int) ++ (m_0, m_1).1) .shallow), (10006005, .sl 124 (.pair (.int .i64) (.pair (.sl (.int .i64)) (.pair (.sl (.int .i64)) (.pair (.int .i64) (.sl (.sl (.int .i64))))))) out_1 (.deep true .no)), (10006006, .sl 3 (.int .i64) (([] : List Int) ++ ((m_0, m_1).2.getD i.toNat (0, ([], ([], (0, []))))).2.1) .shallow), (10006007, .sl 3 (.int .i64) (([] : List Int) ++ ((m_0, m_1).2.getD i.toNat (0, ([], ([], (0, []))))).2.2.1) .shallow)]) rfl rfl ⟨⟨.inl rfl, .inl rfl, trivial⟩, ⟨rfl, rfl, trivial⟩, ⟨⟨⟨rfl, rfl⟩, trivial⟩, ⟨⟨rfl, rfl⟩, trivial⟩, trivial⟩, ⟨rfl, ⟨⟨rfl, rfl⟩, trivial⟩, ⟨⟨rfl, rfl⟩, trivial⟩, rfl, rfl, trivial⟩, ⟨rfl, rfl⟩, ⟨rfl, rfl⟩, ⟨rfl, rfl⟩, ⟨rfl, rfl⟩, trivial⟩ ⟨⟨⟨rfl, rfl⟩, rfl⟩, ⟨⟨rfl, rfl⟩, rfl⟩, ⟨⟨rfl, rfl⟩, rfl⟩, rfl, .inl rfl, ⟨⟨rfl, rfl⟩, rfl⟩, trivial⟩)⟩
            · skip
              refine And.intro ?_ trivial
              refine And.intro hq1 ?_
              refine And.intro ?_ trivial
              refine And.intro hq2 ?_
              refine And.intro ?_ trivial
              refine And.intro ?_ trivial
              exact ⟨(), he, (leads_ren [(10006000, 10005000), (10006001, 10005001), (10006002, 10005002), (10006003, 6), (10006004, 10005003), (10006005, 10005004), (10006006, 30), (10006007, 34)] (l := [(1, .c (.ptr 10006000 0)), (2, .c (.ptr 10006001 0)), (3, .c (.ptr 10006002 0)), (4, .c (.int .i64 i)), (5, .c (.iptr (.pair (.int .i64) (.pair (.sl (.int .i64)) (.pair (.sl (.int .i64)) (.pair (.int .i64) (.sl (.sl (.int .i64))))))) ((m_0, m_1).2.getD i.toNat (0, ([], ([], (0, []))))) 0)), (6, .c (.ptr 10006003 0))]) (st' := [(10006000, .rc [.imm (.int .i64) (m_0, m_1).1, .imm (.pair (.int .i64) (.pair (.sl (.int .i64)) (.pair (.sl (.int .i64)) (.pair (.int .i64) (.sl (.sl (.int .i64))))))) (m_0, m_1).2]), (10006001, .rc [.nil, .nil]), (10006002, .rc [.own 10006004 false, .own 10006005 false]), (10006003, .rc [.int .i64 ((m_0, m_1).2.getD i.toNat (0, ([], ([], (0, []))))).1, .own 10006006 false, .own 10006007 false, .int .i64 ((m_0, m_1).2.getD i.toNat (0, ([], ([], (0, []))))).2.2.2.1, .nil]), (10006004, .sl 3 (.int .i64) (([] : List Int) ++ (m_0, m_1).1) .shallow), (10006005, .sl 124 (.pair (.int .i64) (.pair (.sl (.int .i64)) (.pair (.sl (.int .i64)) (.pair (.int .i64) (.sl (.sl (.int .i64))))))) out_1 (.deep true .no)), (10006006, .sl 3 (.int .i64) (([] : List Int) ++ ((m_0, m_1).2.getD i.toNat (0, ([], ([], (0, []))))).2.1) .shallow), (10006007, .sl 3 (.int .i64) (([] : List Int) ++ ((m_0, m_1).2.getD i.toNat (0, ([], ([], (0, []))))).2.2.1) .shallow)]) rfl rfl ⟨⟨.inl rfl, .inl rfl, trivial⟩, ⟨rfl, rfl, trivial⟩, ⟨⟨⟨rfl, rfl⟩, trivial⟩, ⟨⟨rfl, rfl⟩, trivial⟩, trivial⟩, ⟨rfl, ⟨⟨rfl, rfl⟩, trivial⟩, ⟨⟨rfl, rfl⟩, trivial⟩, rfl, rfl, trivial⟩, ⟨rfl, rfl⟩, ⟨rfl, rfl⟩, ⟨rfl, rfl⟩, ⟨rfl, rfl⟩, trivial⟩ ⟨⟨⟨rfl, rfl⟩, rfl⟩, ⟨⟨rfl, rfl⟩, rfl⟩, ⟨⟨rfl, rfl⟩, rfl⟩, rfl, .inl rfl, ⟨⟨rfl, rfl⟩, rfl⟩, trivial⟩)⟩
          · skip
            refine And.intro ?_ (And.intro ?_ (trivial))
            · skip
              refine And.intro hq1 ?_
              refine And.intro ?_ trivial
              refine And.intro ?_ trivial
              refine And.intro hq2 ?_
              refine And.intro ?_ trivial
              refine And.intro ?_ trivial
              exact ⟨(), he, (leads_ren [(10006000, 10005000), (10006001, 10005001), (10006002, 10005002), (10006003, 6), (10006004, 10005003), (10006005, 10005004), (10006006, 30), (10006007, 34)] (l := [(1, .c (.ptr 10006000 0)), (2, .c (.ptr 10006001 0)), (3, .c (.ptr 10006002 0)), (4, .c (.int .i64 i)), (5, .c (.iptr (.pair (.int .i64) (.pair (.sl (.int .i64)) (.pair (.sl (.int .i64)) (.pair (.int .i64) (.sl (.sl (.int .i64))))))) ((m_0, m_1).2.getD i.toNat (0, ([], ([], (0, []))))) 0)), (6, .c (.ptr 10006003 0))]) (st' := [(10006000, .rc [.imm (.int .i64) (m_0, m_1).1, .imm (.pair (.int .i64) (.pair (.sl (.int .i64)) (.pair (.sl (.int .i64)) (.pair (.int .i64) (.sl (.sl (.int .i64))))))) (m_0, m_1).2]), (10006001, .rc [.nil, .nil]), (10006002, .rc [.own 10006004 false, .own 10006005 false]), (10006003, .rc [.int .i64 ((m_0, m_1).2.getD i.toNat (0, ([], ([], (0, []))))).1, .own 10006006 false, .own 10006007 false, .int .i64 ((m_0, m_1).2.getD i.toNat (0, ([], ([], (0, []))))).2.2.2.1, .nil]), (10006004, .sl 3 (.int .i64) (([] : List Int) ++ (m_0, m_1).1) .shallow), (10006005, .sl 124 (.pair (.int .i64) (.pair (.sl (.int .i64)) (.pair (.sl (.int .i64)) (.pair (.int .i64) (.sl (.sl (.int .i64))))))) out_1 (.deep true .no)), (10006006, .sl 3 (.int .i64) (([] : List Int) ++ ((m_0, m_1).2.getD i.toNat (0, ([], ([], (0, []))))).2.1) .shallow), (10006007, .sl 3 (.int .i64) (([] : List Int) ++ ((m_0, m_1).2.getD i.toNat (0, ([], ([], (0, []))))).2.2.1) .shallow)]) rfl rfl ⟨⟨.inl rfl, .inl rfl, trivial⟩, ⟨rfl, rfl, trivial⟩, ⟨⟨⟨rfl, rfl⟩, trivial⟩, ⟨⟨rfl, rfl⟩, trivial⟩, trivial⟩, ⟨rfl, ⟨⟨rfl, rfl⟩, trivial⟩, ⟨⟨rfl, rfl⟩, trivial⟩, rfl, rfl, trivial⟩, ⟨rfl, rfl⟩, ⟨rfl, rfl⟩, ⟨rfl, rfl⟩, ⟨rfl, rfl⟩, trivial⟩ ⟨⟨⟨rfl, rfl⟩, rfl⟩, ⟨⟨rfl, rfl⟩, rfl⟩, ⟨⟨rfl, rfl⟩, rfl⟩, rfl, .inl rfl, ⟨⟨rfl, rfl⟩, rfl⟩, trivial⟩)⟩
            · skip
              refine And.intro ?_ trivial
              refine And.intro hq1 ?_
              refine And.intro ?_ trivial
              refine And.intro hq2 ?_
              refine And.intro ?_ trivial
              refine And.intro ?_ trivial
              exact ⟨(), he, (leads_ren [(10006000, 10005000), (10006001, 10005001), (10006002, 10005002), (10006003, 6), (10006004, 10005003), (10006005, 10005004), (10006006, 30), (10006007, 34)] (l := [(1, .c (.ptr 10006000 0)), (2, .c (.ptr 10006001 0)), (3, .c (.ptr 10006002 0)), (4, .c (.int .i64 i)), (5, .c (.iptr (.pair (.int .i64) (.pair (.sl (.int .i64)) (.pair (.sl (.int .i64)) (.pair (.int .i64) (.sl (.sl (.int .i64))))))) ((m_0, m_1).2.getD i.toNat (0, ([], ([], (0, []))))) 0)), (6, .c (.ptr 10006003 0))]) (st' := [(10006000, .rc [.imm (.int .i64) (m_0, m_1).1, .imm (.pair (.int .i64) (.pair (.sl (.int .i64)) (.pair (.sl (.int .i64)) (.pair (.int .i64) (.sl (.sl (.int .i64))))))) (m_0, m_1).2]), (10006001, .rc [.nil, .nil]), (10006002, .rc [.own 10006004 false, .own 10006005 false]), (10006003, .rc [.int .i64 ((m_0, m_1).2.getD i.toNat (0, ([], ([], (0, []))))).1, .own 10006006 false, .own 10006007 false, .int .i64 ((m_0, m_1).2.getD i.toNat (0, ([], ([], (0, []))))).2.2.2.1, .nil]), (10006004, .sl 3 (.int .i64) (([] : List Int) ++ (m_0, m_1).1) .shallow), (10006005, .sl 124 (.pair (.int .i64) (.pair (.sl (.int .i64)) (.pair (.sl (.int .i64)) (.pair (.int .i64) (.sl (.sl (.int .i64))))))) out_1 (.deep true .no)), (10006006, .sl 3 (.int .i64) (([] : List Int) ++ ((m_0, m_1).2.getD i.toNat (0, ([], ([], (0, []))))).2.1) .shallow), (10006007, .sl 3 (.int .i64) (([] : List Int) ++ ((m_0, m_1).2.getD i.toNat (0, ([], ([], (0, []))))).2.2.1) .shallow)]) rfl rfl ⟨⟨.inl rfl, .inl rfl, trivial⟩, ⟨rfl, rfl, trivial⟩, ⟨⟨⟨rfl, rfl⟩, trivial⟩, ⟨⟨rfl, rfl⟩, trivial⟩, trivial⟩, ⟨rfl, ⟨⟨rfl, rfl⟩, trivial⟩, ⟨⟨rfl, rfl⟩, trivial⟩, rfl, rfl, trivial⟩, ⟨rfl, rfl⟩, ⟨rfl, rfl⟩, ⟨rfl, rfl⟩, ⟨rfl, rfl⟩, trivial⟩ ⟨⟨⟨rfl, rfl⟩, rfl⟩, ⟨⟨rfl, rfl⟩, rfl⟩, ⟨⟨rfl, rfl⟩, rfl⟩, rfl, .inl rfl, ⟨⟨rfl, rfl⟩, rfl⟩, trivial⟩)⟩
        · skip
          refine And.intro ?_ (And.intro ?_ (trivial))
          · skip
            refine And.intro ?_ (And.intro ?_ (trivial))
            · skip
              refine And.intro hq1 ?_
              refine And.intro ?_ (And.intro ?_ (trivial))
              · skip
                refine And.intro hq2 ?_
                refine And.intro ?_ (And.intro ?_ (trivial))
                · skip
                  refine And.intro ?_ trivial
                  refine And.intro ?_ trivial
                  exact ⟨(), he, (leads_ren [(10006000, 10005000), (10006001, 10005001), (10006002, 10005002), (10006003, 6), (10006004, 10005003), (10006005, 10005004), (10006006, 30), (10006007, 34)] (l := [(1, .c (.ptr 10006000 0)), (2, .c (.ptr 10006001 0)), (3, .c (.ptr 10006002 0)), (4, .c (.int .i64 i)), (5, .c (.iptr (.pair (.int .i64) (.pair (.sl (.int .i64)) (.pair (.sl (.int .i64)) (.pair (.int .i64) (.sl (.sl (.int .i64))))))) ((m_0, m_1).2.getD i.toNat (0, ([], ([], (0, []))))) 0)), (6, .c (.ptr 10006003 0))]) (st' := [(10006000, .rc [.imm (.int .i64) (m_0, m_1).1, .imm (.pair (.int .i64) (.pair (.sl (.int .i64)) (.pair (.sl (.int .i64)) (.pair (.int .i64) (.sl (.sl (.int .i64))))))) (m_0, m_1).2]), (10006001, .rc [.nil, .nil]), (10006002, .rc [.own 10006004 false, .own 10006005 false]), (10006003, .rc [.int .i64 ((m_0, m_1).2.getD i.toNat (0, ([], ([], (0, []))))).1, .own 10006006 false, .own 10006007 false, .int .i64 ((m_0, m_1).2.getD i.toNat (0, ([], ([], (0, []))))).2.2.2.1, .nil]), (10006004, .sl 3 (.int .i64) (([] : List Int) ++ (m_0, m_1).1) .shallow), (10006005, .sl 124 (.pair (.int .i64) (.pair (.sl (.int .i64)) (.pair (.sl (.int .i64)) (.pair (.int .i64) (.sl (.sl (.int .i64))))))) out_1 (.deep true .no)), (10006006, .sl 3 (.int .i64) (([] : List Int) ++ ((m_0, m_1).2.getD i.toNat (0, ([], ([], (0, []))))).2.1) .shallow), (10006007, .sl 3 (.int .i64) (([] : List Int) ++ ((m_0, m_1).2.getD i.toNat (0, ([], ([], (0, []))))).2.2.1) .shallow)]) rfl rfl ⟨⟨.inl rfl, .inl rfl, trivial⟩, ⟨rfl, rfl, trivial⟩, ⟨⟨⟨rfl, rfl⟩, trivial⟩, ⟨⟨rfl, rfl⟩, trivial⟩, trivial⟩, ⟨rfl, ⟨⟨rfl, rfl⟩, trivial⟩, ⟨⟨rfl, rfl⟩, trivial⟩, rfl, rfl, trivial⟩, ⟨rfl, rfl⟩, ⟨rfl, rfl⟩, ⟨rfl, rfl⟩, ⟨rfl, rfl⟩, trivial⟩ ⟨⟨⟨rfl, rfl⟩, rfl⟩, ⟨⟨rfl, rfl⟩, rfl⟩, ⟨⟨rfl, rfl⟩, rfl⟩, rfl, .inl rfl, ⟨⟨rfl, rfl⟩, rfl⟩, trivial⟩)⟩
                · skip
                  refine And.intro ?_ trivial
                  refine And.intro ?_ trivial
                  exact ⟨(), he, (leads_ren [(10006000, 10005000), (10006001, 10005001), (10006002, 10005002), (10006003, 6), (10006004, 10005003), (10006005, 10005004), (10006006, 30), (10006007, 34)] (l := [(1, .c (.ptr 10006000 0)), (2, .c (.ptr 10006001 0)), (3, .c (.ptr 10006002 0)), (4, .c (.int .i64 i)), (5, .c (.iptr (.pair (.int .i64) (.pair (.sl (.int .i64)) (.pair (.sl (.int .i64)) (.pair (.int .i64) (.sl (.sl (.int .i64))))))) ((m_0, m_1).2.getD i.toNat (0, ([], ([], (0, []))))) 0)), (6, .c (.ptr 10006003 0))]) (st' := [(10006000, .rc [.imm (.int .i64) (m_0, m_1).1, .imm (.pair (.int .i64) (.pair (.sl (.int .i64)) (.pair (.sl (.int .i64)) (.pair (.int .i64) (.sl (.sl (.int .i64))))))) (m_0, m_1).2]), (10006001, .rc [.nil, .nil]), (10006002, .rc [.own 10006004 false, .own 10006005 false]), (10006003, .rc [.int .i64 ((m_0, m_1).2.getD i.toNat (0, ([], ([], (0, []))))).1, .own 10006006 false, .own 10006007 false, .int .i64 ((m_0, m_1).2.getD i.toNat (0, ([], ([], (0, []))))).2.2.2.1, .nil]), (10006004, .sl 3 (.int .i64) (([] : List Int) ++ (m_0, m_1).1) .shallow), (10006005, .sl 124 (.pair (.int .i64) (.pair (.sl (.int .i64)) (.pair (.sl (.int .i64)) (.pair (.int .i64) (.sl (.sl (.int .i64))))))) out_1 (.deep true .no)), (10006006, .sl 3 (.int .i64) (([] : List Int) ++ ((m_0, m_1).2.getD i.toNat (0, ([], ([], (0, []))))).2.1) .shallow), (10006007, .sl 3 (.int .i64) (([] : List Int) ++ ((m_0, m_1).2.getD i.toNat (0, ([], ([], (0, []))))).2.2.1) .shallow)]) rfl rfl ⟨⟨.inl rfl, .inl rfl, trivial⟩, ⟨rfl, rfl, trivial⟩, ⟨⟨⟨rfl, rfl⟩, trivial⟩, ⟨⟨rfl, rfl⟩, trivial⟩, trivial⟩, ⟨rfl, ⟨⟨rfl, rfl⟩, trivial⟩, ⟨⟨rfl, rfl⟩, trivial⟩, rfl, rfl, trivial⟩, ⟨rfl, rfl⟩, ⟨rfl, rfl⟩, ⟨rfl, rfl⟩, ⟨rfl, rfl⟩, trivial⟩ ⟨⟨⟨rfl, rfl⟩, rfl⟩, ⟨⟨rfl, rfl⟩, rfl⟩, ⟨⟨rfl, rfl⟩, rfl⟩, rfl, .inl rfl, ⟨⟨rfl, rfl⟩, rfl⟩, trivial⟩)⟩
              · skip
                refine And.intro ?_ trivial
                refine And.intro hq2 ?_
                refine And.intro ?_ trivial
                refine And.intro ?_ trivial
                exact ⟨(), he, (leads_ren [(10006000, 10005000), (10006001, 10005001), (10006002, 10005002), (10006003, 6), (10006004, 10005003), (10006005, 10005004), (10006006, 30), (10006007, 34)] (l := [(1, .c (.ptr 10006000 0)), (2, .c (.ptr 10006001 0)), (3, .c (.ptr 10006002 0)), (4, .c (.int .i64 i)), (5, .c (.iptr (.pair (.int .i64) (.pair (.sl (.int .i64)) (.pair (.sl (.int .i64)) (.pair (.int .i64) (.sl (.sl (.int .i64))))))) ((m_0, m_1).2.getD i.toNat (0, ([], ([], (0, []))))) 0)), (6, .c (.ptr 10006003 0))]) (st' := [(10006000, .rc [.imm (.int .i64) (m_0, m_1).1, .imm (.pair (.int .i64) (.pair (.sl (.int .i64)) (.pair (.sl (.int .i64)) (.pair (.int .i64) (.sl (.sl (.int .i64))))))) (m_0, m_1).2]), (10006001, .rc [.nil, .nil]), (10006002, .rc [.own 10006004 false, .own 10006005 false]), (10006003, .rc [.int .i64 ((m_0, m_1).2.getD i.toNat (0, ([], ([], (0, []))))).1, .own 10006006 false, .own 10006007 false, .int .i64 ((m_0, m_1).2.getD i.toNat (0, ([], ([], (0, []))))).2.2.2.1, .nil]), (10006004, .sl 3 (.int .i64) (([] : List Int) ++ (m_0, m_1).1) .shallow), (10006005, .sl 124 (.pair (.int .i64) (.pair (.sl (.int .i64)) (.pair (.sl (.int .i64)) (.pair (.int .i64) (.sl (.sl (.int .i64))))))) out_1 (.deep true .no)), (10006006, .sl 3 (.int .i64) (([] : List Int) ++ ((m_0, m_1).2.getD i.toNat (0, ([], ([], (0, []))))).2.1) .shallow), (10006007, .sl 3 (.int .i64) (([] : List Int) ++ ((m_0, m_1).2.getD i.toNat (0, ([], ([], (0, []))))).2.2.1) .shallow)]) rfl rfl ⟨⟨.inl rfl, .inl rfl, trivial⟩, ⟨rfl, rfl, trivial⟩, ⟨⟨⟨rfl, rfl⟩, trivial⟩, ⟨⟨rfl, rfl⟩, trivial⟩, trivial⟩, ⟨rfl, ⟨⟨rfl, rfl⟩, trivial⟩, ⟨⟨rfl, rfl⟩, trivial⟩, rfl, rfl, trivial⟩, ⟨rfl, rfl⟩, ⟨rfl, rfl⟩, ⟨rfl, rfl⟩, ⟨rfl, rfl⟩, trivial⟩ ⟨⟨⟨rfl, rfl⟩, rfl⟩, ⟨⟨rfl, rfl⟩, rfl⟩, ⟨⟨rfl, rfl⟩, rfl⟩, rfl, .inl rfl, ⟨⟨rfl, rfl⟩, rfl⟩, trivial⟩)⟩
            · skip
              refine And.intro ?_ trivial
              refine And.intro hq1 ?_
              refine And.intro ?_ trivial
              refine And.intro hq2 ?_
              refine And.intro ?_ trivial
              refine And.intro ?_ trivial
              exact ⟨(), he, (leads_ren [(10006000, 10005000), (10006001, 10005001), (10006002, 10005002), (10006003, 6), (10006004, 10005003), (10006005, 10005004), (10006006, 30), (10006007, 34)] (l := [(1, .c (.ptr 10006000 0)), (2, .c (.ptr 10006001 0)), (3, .c (.ptr 10006002 0)), (4, .c (.int .i64 i)), (5, .c (.iptr (.pair (.int .i64) (.pair (.sl (.int .i64)) (.pair (.sl (.int .i64)) (.pair (.int .i64) (.sl (.sl (.int .i64))))))) ((m_0, m_1).2.getD i.toNat (0, ([], ([], (0, []))))) 0)), (6, .c (.ptr 10006003 0))]) (st' := [(10006000, .rc [.imm (.int .i64) (m_0, m_1).1, .imm (.pair (.int .i64) (.pair (.sl (.int .i64)) (.pair (.sl (.int .i64)) (.pair (.int .i64) (.sl (.sl (.int .i64))))))) (m_0, m_1).2]), (10006001, .rc [.nil, .nil]), (10006002, .rc [.own 10006004 false, .own 10006005 false]), (10006003, .rc [.int .i64 ((m_0, m_1).2.getD i.toNat (0, ([], ([], (0, []))))).1, .own 10006006 false, .own 10006007 false, .int .i64 ((m_0, m_1).2.getD i.toNat (0, ([], ([], (0, []))))).2.2.2.1, .nil]), (10006004, .sl 3 (.int .i64) (([] : List Int) ++ (m_0, m_1).1) .shallow), (10006005, .sl 124 (.pair (.int .i64) (.pair (.sl (.int .i64)) (.pair (.sl (.int .i64)) (.pair (.int .i64) (.sl (.sl (.int .i64))))))) out_1 (.deep true .no)), (10006006, .sl 3 (.int .i64) (([] : List Int) ++ ((m_0, m_1).2.getD i.toNat (0, ([], ([], (0, []))))).2.1) .shallow), (10006007, .sl 3 (.int .i64) (([] : List Int) ++ ((m_0, m_1).2.getD i.toNat (0, ([], ([], (0, []))))).2.2.1) .shallow)]) rfl rfl ⟨⟨.inl rfl, .inl rfl, trivial⟩, ⟨rfl, rfl, trivial⟩, ⟨⟨⟨rfl, rfl⟩, trivial⟩, ⟨⟨rfl, rfl⟩, trivial⟩, trivial⟩, ⟨rfl, ⟨⟨rfl, rfl⟩, trivial⟩, ⟨⟨rfl, rfl⟩, trivial⟩, rfl, rfl, trivial⟩, ⟨rfl, rfl⟩, ⟨rfl, rfl⟩, ⟨rfl, rfl⟩, ⟨rfl, rfl⟩, trivial⟩ ⟨⟨⟨rfl, rfl⟩, rfl⟩, ⟨⟨rfl, rfl⟩, rfl⟩, ⟨⟨rfl, rfl⟩, rfl⟩, rfl, .inl rfl, ⟨⟨rfl, rfl⟩, rfl⟩, trivial⟩)⟩
          · skip
            refine And.intro ?_ trivial
            refine And.intro ?_ trivial
            refine And.intro hq1 ?_
            refine And.intro ?_ trivial
            refine And.intro hq2 ?_
            refine And.intro ?_ trivial
            refine And.intro ?_ trivial
            exact ⟨(), he, (leads_ren [(10006000, 10005000), (10006001, 10005001), (10006002, 10005002), (10006003, 6), (10006004, 10005003), (10006005, 10005004), (10006006, 30), (10006007, 34)] (l := [(1, .c (.ptr 10006000 0)), (2, .c (.ptr 10006001 0)), (3, .c (.ptr 10006002 0)), (4, .c (.int .i64 i)), (5, .c (.iptr (.pair (.int .i64) (.pair (.sl (.int .i64)) (.pair (.sl (.int .i64)) (.pair (.int .i64) (.sl (.sl (.int .i64))))))) ((m_0, m_1).2.getD i.toNat (0, ([], ([], (0, []))))) 0)), (6, .c (.ptr 10006003 0))]) (st' := [(10006000, .rc [.imm (.int .i64) (m_0, m_1).1, .imm (.pair (.int .i64) (.pair (.sl (.int .i64)) (.pair (.sl (.int .i64)) (.pair (.int .i64) (.sl (.sl (.int .i64))))))) (m_0, m_1).2]), (10006001, .rc [.nil, .nil]), (10006002, .rc [.own 10006004 false, .own 10006005 false]), (10006003, .rc [.int .i64 ((m_0, m_1).2.getD i.toNat (0, ([], ([], (0, []))))).1, .own 10006006 false, .own 10006007 false, .int .i64 ((m_0, m_1).2.getD i.toNat (0, ([], ([], (0, []))))).2.2.2.1, .nil]), (10006004, .sl 3 (.int .i64) (([] : List Int) ++ (m_0, m_1).1) .shallow), (10006005, .sl 124 (.pair (.int .i64) (.pair (.sl (.int .i64)) (.pair (.sl (.int .i64)) (.pair (.int .i64) (.sl (.sl (.int .i64))))))) out_1 (.deep true .no)), (10006006, .sl 3 (.int .i64) (([] : List Int) ++ ((m_0, m_1).2.getD i.toNat (0, ([], ([], (0, []))))).2.1) .shallow), (10006007, .sl 3 (.int .i64) (([] : List Int) ++ ((m_0, m_1).2.getD i.toNat (0, ([], ([], (0, []))))).2.2.1) .shallow)]) rfl rfl ⟨⟨.inl rfl, .inl rfl, trivial⟩, ⟨rfl, rfl, trivial⟩, ⟨⟨⟨rfl, rfl⟩, trivial⟩, ⟨⟨rfl, rfl⟩, trivial⟩, trivial⟩, ⟨rfl, ⟨⟨rfl, rfl⟩, trivial⟩, ⟨⟨rfl, rfl⟩, trivial⟩, rfl, rfl, trivial⟩, ⟨rfl, rfl⟩, ⟨rfl, rfl⟩, ⟨rfl, rfl⟩, ⟨rfl, rfl⟩, trivial⟩ ⟨⟨⟨rfl, rfl⟩, rfl⟩, ⟨⟨rfl, rfl⟩, rfl⟩, ⟨⟨rfl, rfl⟩, rfl⟩, rfl, .inl rfl, ⟨⟨rfl, rfl⟩, rfl⟩, trivial⟩)⟩
        · skip
          refine And.intro ?_ (And.intro ?_ (trivial))
          · skip
            refine And.intro ?_ (And.intro ?_ (trivial))
            · skip
              refine And.intro hq1 ?_
              refine And.intro ?_ trivial
              refine And.intro ?_ trivial
              refine And.intro hq2 ?_
              refine And.intro ?_ trivial
              refine And.intro ?_ trivial
              exact ⟨(), he, (leads_ren [(10006000, 10005000), (10006001, 10005001), (10006002, 10005002), (10006003, 6), (10006004, 10005003), (10006005, 10005004), (10006006, 30), (10006007, 34)] (l := [(1, .c (.ptr 10006000 0)), (2, .c (.ptr 10006001 0)), (3, .c (.ptr 10006002 0)), (4, .c (.int .i64 i)), (5, .c (.iptr (.pair (.int .i64) (.pair (.sl (.int .i64)) (.pair (.sl (.int .i64)) (.pair (.int .i64) (.sl (.sl (.int .i64))))))) ((m_0, m_1).2.getD i.toNat (0, ([], ([], (0, []))))) 0)), (6, .c (.ptr 10006003 0))]) (st' := [(10006000, .rc [.imm (.int .i64) (m_0, m_1).1, .imm (.pair (.int .i64) (.pair (.sl (.int .i64)) (.pair (.sl (.int .i64)) (.pair (.int .i64) (.sl (.sl (.int .i64))))))) (m_0, m_1).2]), (10006001, .rc [.nil, .nil]), (10006002, .rc [.own 10006004 false, .own 10006005 false]), (10006003, .rc [.int .i64 ((m_0, m_1).2.getD i.toNat (0, ([], ([], (0, []))))).1, .own 10006006 false, .own 10006007 false, .int .i64 ((m_0, m_1).2.getD i.toNat (0, ([], ([], (0, []))))).2.2.2.1, .nil]), (10006004, .sl 3 (.int .i64) (([] : List Int) ++ (m_0, m_1).1) .shallow), (10006005, .sl 124 (.pair (.int .i64) (.pair (.sl (.int .i64)) (.pair (.sl (.int .i64)) (.pair (.int .i64) (.sl (.sl (.int .i64))))))) out_1 (.deep true .no)), (10006006, .sl 3 (.int .i64) (([] : List Int) ++ ((m_0, m_1).2.getD i.toNat (0, ([], ([], (0, []))))).2.1) .shallow), (10006007, .sl 3 (.int .i64) (([] : List Int) ++ ((m_0, m_1).2.getD i.toNat (0, ([], ([], (0, []))))).2.2.1) .shallow)]) rfl rfl ⟨⟨.inl rfl, .inl rfl, trivial⟩, ⟨rfl, rfl, trivial⟩, ⟨⟨⟨rfl, rfl⟩, trivial⟩, ⟨⟨rfl, rfl⟩, trivial⟩, trivial⟩, ⟨rfl, ⟨⟨rfl, rfl⟩, trivial⟩, ⟨⟨rfl, rfl⟩, trivial⟩, rfl, rfl, trivial⟩, ⟨rfl, rfl⟩, ⟨rfl, rfl⟩, ⟨rfl, rfl⟩, ⟨rfl, rfl⟩, trivial⟩ ⟨⟨⟨rfl, rfl⟩, rfl⟩, ⟨⟨rfl, rfl⟩, rfl⟩, ⟨⟨rfl, rfl⟩, rfl⟩, rfl, .inl rfl, ⟨⟨rfl, rfl⟩, rfl⟩, trivial⟩)⟩
            · skip
              refine And.intro ?_ trivial
              refine And.intro hq1 ?_
              refine And.intro ?_ trivial
              refine And.intro hq2 ?_
              refine And.intro ?_ trivial
              refine And.intro ?_ trivial
              exact ⟨(), he, (leads_ren [(10006000, 10005000), (10006001, 10005001), (10006002, 10005002), (10006003, 6), (10006004, 10005003), (10006005, 10005004), (10006006, 30), (10006007, 34)] (l := [(1, .c (.ptr 10006000 0)), (2, .c (.ptr 10006001 0)), (3, .c (.ptr 10006002 0)), (4, .c (.int .i64 i)), (5, .c (.iptr (.pair (.int .i64) (.pair (.sl (.int .i64)) (.pair (.sl (.int .i64)) (.pair (.int .i64) (.sl (.sl (.int .i64))))))) ((m_0, m_1).2.getD i.toNat (0, ([], ([], (0, []))))) 0)), (6, .c (.ptr 10006003 0))]) (st' := [(10006000, .rc [.imm (.int .i64) (m_0, m_1).1, .imm (.pair (.int .i64) (.pair (.sl (.int .i64)) (.pair (.sl (.int .i64)) (.pair (.int .i64) (.sl (.sl (.int .i64))))))) (m_0, m_1).2]), (10006001, .rc [.nil, .nil]), (10006002, .rc [.own 10006004 false, .own 10006005 false]), (10006003, .rc [.int .i64 ((m_0, m_1).2.getD i.toNat (0, ([], ([], (0, []))))).1, .own 10006006 false, .own 10006007 false, .int .i64 ((m_0, m_1).2.getD i.toNat (0, ([], ([], (0, []))))).2.2.2.1, .nil]), (10006004, .sl 3 (.int .i64) (([] : List Int) ++ (m_0, m_1).1) .shallow), (10006005, .sl 124 (.pair (.int .i64) (.pair (.sl (.int .i64)) (.pair (.sl (.int .i64)) (.pair (.int .i64) (.sl (.sl (.int .i64))))))) out_1 (.deep true .no)), (10006006, .sl 3 (.int .i64) (([] : List Int) ++ ((m_0, m_1).2.getD i.toNat (0, ([], ([], (0, []))))).2.1) .shallow), (10006007, .sl 3 (.int .i64) (([] : List Int) ++ ((m_0, m_1).2.getD i.toNat (0, ([], ([], (0, []))))).2.2.1) .shallow)]) rfl rfl ⟨⟨.inl rfl, .inl rfl, trivial⟩, ⟨rfl, rfl, trivial⟩, ⟨⟨⟨rfl, rfl⟩, trivial⟩, ⟨⟨rfl, rfl⟩, trivial⟩, trivial⟩, ⟨rfl, ⟨⟨rfl, rfl⟩, trivial⟩, ⟨⟨rfl, rfl⟩, trivial⟩, rfl, rfl, trivial⟩, ⟨rfl, rfl⟩, ⟨rfl, rfl⟩, ⟨rfl, rfl⟩, ⟨rfl, rfl⟩, trivial⟩ ⟨⟨⟨rfl, rfl⟩, rfl⟩, ⟨⟨rfl, rfl⟩, rfl⟩, ⟨⟨rfl, rfl⟩, rfl⟩, rfl, .inl rfl, ⟨⟨rfl, rfl⟩, rfl⟩, trivial⟩)⟩
          · skip
            refine And.intro ?_ trivial
            refine And.intro ?_ trivial
            refine And.intro hq1 ?_
            refine And.intro ?_ trivial
            refine And.intro hq2 ?_
            refine And.intro ?_ trivial
            refine And.intro ?_ trivial
            exact ⟨(), he, (leads_ren [(10006000, 10005000), (10006001, 10005001), (10006002, 10005002), (10006003, 6), (10006004, 10005003), (10006005, 10005004), (10006006, 30), (10006007, 34)] (l := [(1, .c (.ptr 10006000 0)), (2, .c (.ptr 10006001 0)), (3, .c (.ptr 10006002 0)), (4, .c (.int .i64 i)), (5, .c (.iptr (.pair (.int .i64) (.pair (.sl (.int .i64)) (.pair (.sl (.int .i64)) (.pair (.int .i64) (.sl (.sl (.int .i64))))))) ((m_0, m_1).2.getD i.toNat (0, ([], ([], (0, []))))) 0)), (6, .c (.ptr 10006003 0))]) (st' := [(10006000, .rc [.imm (.int .i64) (m_0, m_1).1, .imm (.pair (.int .i64) (.pair (.sl (.int .i64)) (.pair (.sl (.int .i64)) (.pair (.int .i64) (.sl (.sl (.int .i64))))))) (m_0, m_1).2]), (10006001, .rc [.nil, .nil]), (10006002, .rc [.own 10006004 false, .own 10006005 false]), (10006003, .rc [.int .i64 ((m_0, m_1).2.getD i.toNat (0, ([], ([], (0, []))))).1, .own 10006006 false, .own 10006007 false, .int .i64 ((m_0, m_1).2.getD i.toNat (0, ([], ([], (0, []))))).2.2.2.1, .nil]), (10006004, .sl 3 (.int .i64) (([] : List Int) ++ (m_0, m_1).1) .shallow), (10006005, .sl 124 (.pair (.int .i64) (.pair (.sl (.int .i64)) (.pair (.sl (.int .i64)) (.pair (.int .i64) (.sl (.sl (.int .i64))))))) out_1 (.deep true .no)), (10006006, .sl 3 (.int .i64) (([] : List Int) ++ ((m_0, m_1).2.getD i.toNat (0, ([], ([], (0, []))))).2.1) .shallow), (10006007, .sl 3 (.int .i64) (([] : List Int) ++ ((m_0, m_1).2.getD i.toNat (0, ([], ([], (0, []))))).2.2.1) .shallow)]) rfl rfl ⟨⟨.inl rfl, .inl rfl, trivial⟩, ⟨rfl, rfl, trivial⟩, ⟨⟨⟨rfl, rfl⟩, trivial⟩, ⟨⟨rfl, rfl⟩, trivial⟩, trivial⟩, ⟨rfl, ⟨⟨rfl, rfl⟩, trivial⟩, ⟨⟨rfl, rfl⟩, trivial⟩, rfl, rfl, trivial⟩, ⟨rfl, rfl⟩, ⟨rfl, rfl⟩, ⟨rfl, rfl⟩, ⟨rfl, rfl⟩, trivial⟩ ⟨⟨⟨rfl, rfl⟩, rfl⟩, ⟨⟨rfl, rfl⟩, rfl⟩, ⟨⟨rfl, rfl⟩, rfl⟩, rfl, .inl rfl, ⟨⟨rfl, rfl⟩, rfl⟩, trivial⟩)⟩
    · skip
      have he := ok_rq he
      refine And.intro he.1 ?_
      have he := he.2
      exact ⟨(), he, (leads_ren [(10005000, 10000000), (10005001, 10000001), (10005002, 10000002), (10005003, 10000003), (10005004, 10000004)] (l := [(1, .c (.ptr 10005000 0)), (2, .c (.ptr 10005001 0)), (3, .c (.ptr 10005002 0)), (4, .c (.int .i64 i)), (5, .c (.iptr (.pair (.int .i64) (.pair (.sl (.int .i64)) (.pair (.sl (.int .i64)) (.pair (.int .i64) (.sl (.sl (.int .i64))))))) ((m_0, m_1).2.getD i.toNat (0, ([], ([], (0, []))))) 0))]) (st' := [(10005000, .rc [.imm (.int .i64) (m_0, m_1).1, .imm (.pair (.int .i64) (.pair (.sl (.int .i64)) (.pair (.sl (.int .i64)) (.pair (.int .i64) (.sl (.sl (.int .i64))))))) (m_0, m_1).2]), (10005001, .rc [.nil, .nil]), (10005002, .rc [.own 10005003 false, .own 10005004 false]), (10005003, .sl 3 (.int .i64) (([] : List Int) ++ (m_0, m_1).1) .shallow), (10005004, .sl 124 (.pair (.int .i64) (.pair (.sl (.int .i64)) (.pair (.sl (.int .i64)) (.pair (.int .i64) (.sl (.sl (.int .i64))))))) out_1 (.deep true .no))]) rfl rfl ⟨⟨.inl rfl, .inl rfl, trivial⟩, ⟨rfl, rfl, trivial⟩, ⟨⟨⟨rfl, rfl⟩, trivial⟩, ⟨⟨rfl, rfl⟩, trivial⟩, trivial⟩, ⟨rfl, rfl⟩, ⟨rfl, rfl⟩, trivial⟩ ⟨⟨⟨rfl, rfl⟩, rfl⟩, ⟨⟨rfl, rfl⟩, rfl⟩, ⟨⟨rfl, rfl⟩, rfl⟩, rfl, .inr ⟨5, rfl, ⟨rfl, rfl⟩, rfl⟩, trivial⟩)⟩
  · have he := ok_f he hb
    have he := ok_some he
    exact ⟨rfl, _, _, (leads_ren [(900, 10000001), (901, 10000003), (902, 10000004)] (l := [(2, .c (.ptr 900 0))]) (st' := [(900, .rc [.own 901 false, .own 902 false]), (901, .sl 3 (.int .i64) (([] : List Int) ++ (m_0, m_1).1) .shallow), (902, .sl 124 (.pair (.int .i64) (.pair (.sl (.int .i64)) (.pair (.sl (.int .i64)) (.pair (.int .i64) (.sl (.sl (.int .i64))))))) out_1 (.deep true .no))]) rfl rfl ⟨⟨⟨⟨rfl, rfl⟩, trivial⟩, ⟨⟨rfl, rfl⟩, trivial⟩, trivial⟩, ⟨rfl, rfl⟩, ⟨rfl, rfl⟩, trivial⟩ ⟨⟨⟨rfl, rfl⟩, rfl⟩, trivial⟩), he⟩

noncomputable def c_spec_l6Mutate : Con := fun args st => match args, st with
  | [.c (.ptr 0 0), .agg [.imm (.int .i64) a1_0, .imm (.pair (.int .i64) (.pair (.sl (.int .i64)) (.pair (.sl (.int .i64)) (.pair (.int .i64) (.sl (.sl (.int .i64))))))) a1_1]], [(0, .rc [.imm (.int .u8) o0_0, .int .i64 o0_1])] => .opt (((List Int) × Int) × (List Int) × (List (Int × (List Int) × (List Int) × Int × (List (List Int))))) (spec_l6Mutate (a1_0, a1_1) (o0_0, o0_1)) (fun r => .ret (.agg [.own 901 false, .own 902 false]) [(0, .rc [.imm (.int .u8) r.1.1, .int .i64 r.1.2]), (900, .rc [.own 901 false, .own 902 false]), (901, .sl 3 (.int .i64) r.2.1 .shallow), (902, .sl 124 (.pair (.int .i64) (.pair (.sl (.int .i64)) (.pair (.sl (.int .i64)) (.pair (.int .i64) (.sl (.sl (.int .i64))))))) r.2.2 (.deep true .no))])
  | _, _ => .fail

noncomputable def C_spec_l6Mutate : Cfg := { y := tys, n := 89, h := 1, tab := [(99, c_spec_l17Rd_num), (166, c_spec_l17Rd_pick), (203, c_spec_l6Copy)], cut := [], hand := [], good := [], deep := [], sched := [(6, (.first 0 (.first 2 (.alt 1 (.alt 3 (.alt 4 (.first 5 (.alt 6 .done .stop)) .stop) .stop) (.alt 3 (.alt 1 (.alt 4 (.first 5 (.alt 6 .done .stop)) .stop) (.alt 4 (.alt 1 (.first 5 (.alt 6 .done .stop)) .stop) .stop)) .stop))))), (12, (.first 0 (.first 2 (.alt 1 (.alt 3 (.alt 4 (.first 5 (.first 6 (.alt 7 .done .stop))) .stop) .stop) (.alt 3 (.alt 1 (.alt 4 (.first 5 (.first 6 (.alt 7 .done .stop))) .stop) (.alt 4 (.alt 1 (.first 5 (.first 6 (.alt 7 .done .stop))) .stop) .stop)) .stop))))), (15, (.first 0 (.first 2 (.first 3 (.first 7 (.alt 1 (.first 4 (.first 5 (.alt 6 (.alt 8 (.alt 9 (.first 10 (.alt 11 .done .stop)) .stop) .stop) (.alt 8 (.alt 6 (.alt 9 (.first 10 (.alt 11 .done .stop)) .stop) (.alt 9 (.alt 6 (.first 10 (.alt 11 .done .stop)) .stop) .stop)) .stop)))) (.alt 8 (.alt 1 (.first 4 (.first 5 (.alt 6 (.alt 9 (.first 10 (.alt 11 .done .stop)) .stop) (.alt 9 (.alt 6 (.first 10 (.alt 11 .done .stop)) .stop) .stop)))) (.alt 9 (.alt 1 (.first 4 (.first 5 (.alt 6 (.first 10 (.alt 11 .done .stop)) .stop))) .stop) .stop)) .stop))))))), (18, (.first 0 (.first 2 (.alt 1 (.alt 3 (.alt 4 (.first 5 (.first 6 (.alt 7 .done .stop))) .stop) .stop) (.alt 3 (.alt 1 (.alt 4 (.first 5 (.first 6 (.alt 7 .done .stop))) .stop) (.alt 4 (.alt 1 (.first 5 (.first 6 (.alt 7 .done .stop))) .stop) .stop)) .stop)))))] }

theorem t_spec_l6Mutate : TabOk Try.prog C_spec_l6Mutate := by
  refine tabOk_of ?_
  simp only [C_spec_l6Mutate, List.forall_mem_cons]
  exact ⟨k_spec_l17Rd_num, k_spec_l17Rd_pick, k_spec_l6Copy, fun p h => by cases h⟩

theorem k_spec_l6Mutate : Entry Try.prog 95 c_spec_l6Mutate := by
  refine entry_by (C := C_spec_l6Mutate) mixed tys_ok t_spec_l6Mutate (fn := Try.f95) (c := bd Try.f95) (by kernel_rfl) (by kernel_rfl) (by kernel_rfl) (by kernel_rfl) ?_
  intro args st k he
  unfold c_spec_l6Mutate at he
  split at he
  rotate_left
  · exact he.elim
  rename_i a1_0 a1_1 o0_0 o0_1
  have he : Ok (spec_l6Mutate (a1_0, a1_1) (o0_0, o0_1)) (fun r => k (.agg [.own 901 false, .own 902 false]) [(0, .rc [.imm (.int .u8) r.1.1, .int .i64 r.1.2]), (900, .rc [.own 901 false, .own 902 false]), (901, .sl 3 (.int .i64) r.2.1 .shallow), (902, .sl 124 (.pair (.int .i64) (.pair (.sl (.int .i64)) (.pair (.sl (.int .i64)) (.pair (.int .i64) (.sl (.sl (.int .i64))))))) r.2.2 (.deep true .no))]) := he
  refine ⟨rfl, rfl, ?_⟩
  obtain ⟨r1_, hr, he⟩ := ok_bind he
  refine ⟨r1_, hr, ?_⟩
  obtain ⟨r2_, hr, he⟩ := ok_bind he
  refine ⟨r2_, hr, ?_⟩
  refine And.intro (fun hb => ?_) (fun hb => ?_)
  · have he := ok_t he hb
    refine And.intro (fun hb => ?_) (fun hb => ?_)
    · have he := ok_t he hb
      refine And.intro (by kernel_rfl) ?_
      obtain ⟨r4_, hq1, he⟩ := ok_bind he
      have he := ok_rq he
      have hq2 := he.1
      have he := he.2
      refine And.intro ?_ (And.intro ?_ (trivial))
      · skip
        refine And.intro ?_ trivial
        refine And.intro ?_ trivial
        refine ⟨r4_, hq1, ?_⟩
        refine And.intro hq2 ?_
        refine And.intro ?_ trivial
        have he := ok_some he
        exact ⟨rfl, _, _, (leads_ren [(900, 4), (901, 9901), (902, 9902)] (l := [(4, .c (.ptr 900 0))]) (st' := [(0, .rc [.imm (.int .u8) r4_.2.1, .int .i64 r4_.2.2]), (900, .rc [.own 901 false, .own 902 false]), (901, .sl 3 (.int .i64) (r1_.1.set (0:Int).toNat r4_.1) .shallow), (902, .sl 124 (.pair (.int .i64) (.pair (.sl (.int .i64)) (.pair (.sl (.int .i64)) (.pair (.int .i64) (.sl (.sl (.int .i64))))))) r1_.2 (.deep true .no))]) rfl rfl ⟨⟨.inl rfl, rfl, trivial⟩, ⟨⟨⟨rfl, rfl⟩, trivial⟩, ⟨⟨rfl, rfl⟩, trivial⟩, trivial⟩, ⟨rfl, rfl⟩, ⟨rfl, rfl⟩, trivial⟩ ⟨⟨⟨rfl, rfl⟩, rfl⟩, trivial⟩), he⟩
      · skip
        refine And.intro ?_ (And.intro ?_ (trivial))
        · skip
          refine And.intro ?_ trivial
          refine ⟨r4_, hq1, ?_⟩
          refine And.intro hq2 ?_
          refine And.intro ?_ trivial
          have he := ok_some he
          exact ⟨rfl, _, _, (leads_ren [(900, 4), (901, 9901), (902, 9902)] (l := [(4, .c (.ptr 900 0))]) (st' := [(0, .rc [.imm (.int .u8) r4_.2.1, .int .i64 r4_.2.2]), (900, .rc [.own 901 false, .own 902 false]), (901, .sl 3 (.int .i64) (r1_.1.set (0:Int).toNat r4_.1) .shallow), (902, .sl 124 (.pair (.int .i64) (.pair (.sl (.int .i64)) (.pair (.sl (.int .i64)) (.pair (.int .i64) (.sl (.sl (.int .i64))))))) r1_.2 (.deep true .no))]) rfl rfl ⟨⟨.inl rfl, rfl, trivial⟩, ⟨⟨⟨rfl, rfl⟩, trivial⟩, ⟨⟨rfl, rfl⟩, trivial⟩, trivial⟩, ⟨rfl, rfl⟩, ⟨rfl, rfl⟩, trivial⟩ ⟨⟨⟨rfl, rfl⟩, rfl⟩, trivial⟩), he⟩
        · skip
          refine ⟨r4_, hq1, ?_⟩
          refine And.intro ?_ trivial
          refine And.intro hq2 ?_
          refine And.intro ?_ trivial
          have he := ok_some he
          exact ⟨rfl, _, _, (leads_ren [(900, 4), (901, 9901), (902, 9902)] (l := [(4, .c (.ptr 900 0))]) (st' := [(0, .rc [.imm (.int .u8) r4_.2.1, .int .i64 r4_.2.2]), (900, .rc [.own 901 false, .own 902 false]), (901, .sl 3 (.int .i64) (r1_.1.set (0:Int).toNat r4_.1) .shallow), (902, .sl 124 (.pair (.int .i64) (.pair (.sl (.int .i64)) (.pair (.sl (.int .i64)) (.pair (.int .i64) (.sl (.sl (.int .i64))))))) r1_.2 (.deep true .no))]) rfl rfl ⟨⟨.inl rfl, rfl, trivial⟩, ⟨⟨⟨rfl, rfl⟩, trivial⟩, ⟨⟨rfl, rfl⟩, trivial⟩, trivial⟩, ⟨rfl, rfl⟩, ⟨rfl, rfl⟩, trivial⟩ ⟨⟨⟨rfl, rfl⟩, rfl⟩, trivial⟩), he⟩
    · have he := ok_f he hb
      have he := ok_some he
      exact ⟨rfl, _, _, (leads_ren [(900, 4), (901, 9901), (902, 9902)] (l := [(4, .c (.ptr 900 0))]) (st' := [(0, .rc [.imm (.int .u8) r2_.2.1, .int .i64 r2_.2.2]), (900, .rc [.own 901 false, .own 902 false]), (901, .sl 3 (.int .i64) r1_.1 .shallow), (902, .sl 124 (.pair (.int .i64) (.pair (.sl (.int .i64)) (.pair (.sl (.int .i64)) (.pair (.int .i64) (.sl (.sl (.int .i64))))))) r1_.2 (.deep true .no))]) rfl rfl ⟨⟨.inl rfl, rfl, trivial⟩, ⟨⟨⟨rfl, rfl⟩, trivial⟩, ⟨⟨rfl, rfl⟩, trivial⟩, trivial⟩, ⟨rfl, rfl⟩, ⟨rfl, rfl⟩, trivial⟩ ⟨⟨⟨rfl, rfl⟩, rfl⟩, trivial⟩), he⟩
  · have he := ok_f he hb
    refine And.intro (fun hb => ?_) (fun hb => ?_)
    · have he := ok_t he hb
      refine loop_model mixed tys_ok t_spec_l6Mutate (S := (List Int)) (I := (fun i_0 => (envOf [(4, .c (.ptr 10000000 0)), (5, .c (.ptr 10000001 0))], [(0, .rc [.imm (.int .u8) r2_.2.1, .int .i64 r2_.2.2]), (10000000, .rc [.nil, .nil]), (10000001, .rc [.own 10000002 false, .own 10000003 false]), (10000002, .sl 3 (.int .i64) i_0 .shallow), (10000003, .sl 124 (.pair (.int .i64) (.pair (.sl (.int .i64)) (.pair (.sl (.int .i64)) (.pair (.int .i64) (.sl (.sl (.int .i64))))))) r1_.2 (.deep true .no))]))) (f := spec_l6Mutate_l1 r1_ r2_) (K := (fun r => k (.agg [.own 901 false, .own 902 false]) [(0, .rc [.imm (.int .u8) r.1.1, .int .i64 r.1.2]), (900, .rc [.own 901 false, .own 902 false]), (901, .sl 3 (.int .i64) r.2.1 .shallow), (902, .sl 124 (.pair (.int .i64) (.pair (.sl (.int .i64)) (.pair (.sl (.int .i64)) (.pair (.int .i64) (.sl (.sl (.int .i64))))))) r.2.2 (.deep true .no))])) he (leads_ren [(10000000, 4), (10000001, 5), (10000002, 9901), (10000003, 9902)] (l := [(4, .c (.ptr 10000000 0)), (5, .c (.ptr 10000001 0))]) (st' := [(0, .rc [.imm (.int .u8) r2_.2.1, .int .i64 r2_.2.2]), (10000000, .rc [.nil, .nil]), (10000001, .rc [.own 10000002 false, .own 10000003 false]), (10000002, .sl 3 (.int .i64) r1_.1 .shallow), (10000003, .sl 124 (.pair (.int .i64) (.pair (.sl (.int .i64)) (.pair (.sl (.int .i64)) (.pair (.int .i64) (.sl (.sl (.int .i64))))))) r1_.2 (.deep true .no))]) rfl rfl ⟨⟨.inl rfl, rfl, trivial⟩, ⟨rfl, rfl, trivial⟩, ⟨⟨⟨rfl, rfl⟩, trivial⟩, ⟨⟨rfl, rfl⟩, trivial⟩, trivial⟩, ⟨rfl, rfl⟩, ⟨rfl, rfl⟩, trivial⟩ ⟨⟨⟨rfl, rfl⟩, rfl⟩, ⟨⟨rfl, rfl⟩, rfl⟩, trivial⟩) ?_
      rintro i_0 J1 he
      refine And.intro (fun hb => ?_) (fun hb => ?_)
      · have he := ok_t he hb
        have he := ok_rq he
        refine And.intro he.1 ?_
        have he := he.2
        have he := ok_some he
        exact ⟨(i_0 ++ [(0:Int)]), he, (leads_ren [(10000002, 35)] (l := [(4, .c (.ptr 10000000 0)), (5, .c (.ptr 10000001 0))]) (st' := [(0, .rc [.imm (.int .u8) r2_.2.1, .int .i64 r2_.2.2]), (10000000, .rc [.nil, .nil]), (10000001, .rc [.own 10000002 false, .own 10000003 false]), (10000002, .sl 3 (.int .i64) (i_0 ++ [(0:Int)]) .shallow), (10000003, .sl 124 (.pair (.int .i64) (.pair (.sl (.int .i64)) (.pair (.sl (.int .i64)) (.pair (.int .i64) (.sl (.sl (.int .i64))))))) r1_.2 (.deep true .no))]) rfl rfl ⟨⟨.inl rfl, rfl, trivial⟩, ⟨rfl, rfl, trivial⟩, ⟨⟨⟨rfl, rfl⟩, trivial⟩, ⟨⟨rfl, rfl⟩, trivial⟩, trivial⟩, ⟨rfl, rfl⟩, ⟨rfl, rfl⟩, trivial⟩ ⟨⟨⟨rfl, rfl⟩, rfl⟩, ⟨⟨rfl, rfl⟩, rfl⟩, trivial⟩)⟩
      · have he := ok_f he hb
        have he := ok_some he
        exact ⟨rfl, _, _, (leads_ren [(900, 10000000), (901, 10000002), (902, 10000003)] (l := [(4, .c (.ptr 900 0))]) (st' := [(0, .rc [.imm (.int .u8) r2_.2.1, .int .i64 r2_.2.2]), (900, .rc [.own 901 false, .own 902 false]), (901, .sl 3 (.int .i64) i_0 .shallow), (902, .sl 124 (.pair (.int .i64) (.pair (.sl (.int .i64)) (.pair (.sl (.int .i64)) (.pair (.int .i64) (.sl (.sl (.int .i64))))))) r1_.2 (.deep true .no))]) rfl rfl ⟨⟨.inl rfl, rfl, trivial⟩, ⟨⟨⟨rfl, rfl⟩, trivial⟩, ⟨⟨rfl, rfl⟩, trivial⟩, trivial⟩, ⟨rfl, rfl⟩, ⟨rfl, rfl⟩, trivial⟩ ⟨⟨⟨rfl, rfl⟩, rfl⟩, trivial⟩), he⟩
    · have he := ok_f he hb
      refine And.intro (fun hb => ?_) (fun hb => ?_)
      · have he := ok_t he hb
        refine And.intro (fun hb => ?_) (fun hb => ?_)
        · have he := ok_t he hb
          refine And.intro (by kernel_rfl) ?_
          obtain ⟨r6_, hq1, he⟩ := ok_bind he
          have he := ok_rq he
          have hq2 := he.1
          have he := he.2
          refine And.intro ?_ (And.intro ?_ (trivial))
          · skip
            refine And.intro ?_ trivial
            refine And.intro ?_ trivial
            refine ⟨r6_, hq1, ?_⟩
            refine And.intro hq2 ?_
            refine And.intro ?_ trivial
            have he := ok_some he
            exact ⟨rfl, _, _, (leads_ren [(900, 4), (901, 9901), (902, 9902)] (l := [(4, .c (.ptr 900 0))]) (st' := [(0, .rc [.imm (.int .u8) r6_.2.1, .int .i64 r6_.2.2]), (900, .rc [.own 901 false, .own 902 false]), (901, .sl 3 (.int .i64) r1_.1 .shallow), (902, .sl 124 (.pair (.int .i64) (.pair (.sl (.int .i64)) (.pair (.sl (.int .i64)) (.pair (.int .i64) (.sl (.sl (.int .i64))))))) (r1_.2.set (0:Int).toNat (r6_.1, (r1_.2.getD (0:Int).toNat (0, ([], ([], (0, []))))).2)) (.deep true .no))]) rfl rfl ⟨⟨.inl rfl, rfl, trivial⟩, ⟨⟨⟨rfl, rfl⟩, trivial⟩, ⟨⟨rfl, rfl⟩, trivial⟩, trivial⟩, ⟨rfl, rfl⟩, ⟨rfl, rfl⟩, trivial⟩ ⟨⟨⟨rfl, rfl⟩, rfl⟩, trivial⟩), he⟩
          · skip
            refine And.intro ?_ (And.intro ?_ (trivial))
            · skip
              refine And.intro ?_ trivial
              refine ⟨r6_, hq1, ?_⟩
              refine And.intro hq2 ?_
              refine And.intro ?_ trivial
              have he := ok_some he
              exact ⟨rfl, _, _, (leads_ren [(900, 4), (901, 9901), (902, 9902)] (l := [(4, .c (.ptr 900 0))]) (st' := [(0, .rc [.imm (.int .u8) r6_.2.1, .int .i64 r6_.2.2]), (900, .rc [.own 901 false, .own 902 false]), (901, .sl 3 (.int .i64) r1_.1 .shallow), (902, .sl 124 (.pair (.int .i64) (.pair (.sl (.int .i64)) (.pair (.sl (.int .i64)) (.pair (.int .i64) (.sl (.sl (.int .i64))))))) (r1_.2.set (0:Int).toNat (r6_.1, (r1_.2.getD (0:Int).toNat (0, ([], ([], (0, []))))).2)) (.deep true .no))]) rfl rfl ⟨⟨.inl rfl, rfl, trivial⟩, ⟨⟨⟨rfl, rfl⟩, trivial⟩, ⟨⟨rfl, rfl⟩, trivial⟩, trivial⟩, ⟨rfl, rfl⟩, ⟨rfl, rfl⟩, trivial⟩ ⟨⟨⟨rfl, rfl⟩, rfl⟩, trivial⟩), he⟩
            · skip
              refine ⟨r6_, hq1, ?_⟩
              refine And.intro ?_ trivial
              refine And.intro hq2 ?_
              refine And.intro ?_ trivial
              have he := ok_some he
              exact ⟨rfl, _, _, (leads_ren [(900, 4), (901, 9901), (902, 9902)] (l := [(4, .c (.ptr 900 0))]) (st' := [(0, .rc [.imm (.int .u8) r6_.2.1, .int .i64 r6_.2.2]), (900, .rc [.own 901 false, .own 902 false]), (901, .sl 3 (.int .i64) r1_.1 .shallow), (902, .sl 124 (.pair (.int .i64) (.pair (.sl (.int .i64)) (.pair (.sl (.int .i64)) (.pair (.int .i64) (.sl (.sl (.int .i64))))))) (r1_.2.set (0:Int).toNat (r6_.1, (r1_.2.getD (0:Int).toNat (0, ([], ([], (0, []))))).2)) (.deep true .no))]) rfl rfl ⟨⟨.inl rfl, rfl, trivial⟩, ⟨⟨⟨rfl, rfl⟩, trivial⟩, ⟨⟨rfl, rfl⟩, trivial⟩, trivial⟩, ⟨rfl, rfl⟩, ⟨rfl, rfl⟩, trivial⟩ ⟨⟨⟨rfl, rfl⟩, rfl⟩, trivial⟩), he⟩
        · have he := ok_f he hb
          have he := ok_some he
          exact ⟨rfl, _, _, (leads_ren [(900, 4), (901, 9901), (902, 9902)] (l := [(4, .c (.ptr 900 0))]) (st' := [(0, .rc [.imm (.int .u8) r2_.2.1, .int .i64 r2_.2.2]), (900, .rc [.own 901 false, .own 902 false]), (901, .sl 3 (.int .i64) r1_.1 .shallow), (902, .sl 124 (.pair (.int .i64) (.pair (.sl (.int .i64)) (.pair (.sl (.int .i64)) (.pair (.int .i64) (.sl (.sl (.int .i64))))))) r1_.2 (.deep true .no))]) rfl rfl ⟨⟨.inl rfl, rfl, trivial⟩, ⟨⟨⟨rfl, rfl⟩, trivial⟩, ⟨⟨rfl, rfl⟩, trivial⟩, trivial⟩, ⟨rfl, rfl⟩, ⟨rfl, rfl⟩, trivial⟩ ⟨⟨⟨rfl, rfl⟩, rfl⟩, trivial⟩), he⟩
      · have he := ok_f he hb
        refine And.intro (fun hb => ?_) (fun hb => ?_)
        · have he := ok_t he hb
          refine And.intro (fun hb => ?_) (fun hb => ?_)
          · have he := ok_t he hb
            have he := ok_rq he
            refine And.intro he.1 ?_
            have he := he.2
            have he := ok_rq he
            refine And.intro he.1 ?_
            have he := he.2
            refine And.intro (fun hb => ?_) (fun hb => ?_)
            · have he := ok_t he hb
              refine And.intro (by kernel_rfl) ?_
              have he := ok_rq he
              refine And.intro he.1 ?_
              have he := he.2
              have he := ok_rq he
              have hq1 := he.1
              have he := he.2
              obtain ⟨r8_, hq2, he⟩ := ok_bind he
              have he := ok_rq he
              have hq3 := he.1
              have he := he.2
              refine And.intro ?_ (And.intro ?_ (trivial))
              · skip
                refine And.intro hq1 ?_
                refine And.intro ?_ (And.intro ?_ (trivial))
                · skip
                  refine And.intro ?_ trivial
                  refine And.intro ?_ trivial
                  refine ⟨r8_, hq2, ?_⟩
                  refine And.intro hq3 ?_
                  refine And.intro ?_ trivial
                  have he := ok_some he
                  exact ⟨rfl, _, _, ((leads_close [9902] rfl).trans (leads_ren [(900, 4), (901, 9901), (902, 9902)] (l := [(4, .c (.ptr 900 0))]) (st' := [(0, .rc [.imm (.int .u8) r8_.2.1, .int .i64 r8_.2.2]), (900, .rc [.own 901 false, .own 902 false]), (901, .sl 3 (.int .i64) r1_.1 .shallow), (902, .sl 124 (.pair (.int .i64) (.pair (.sl (.int .i64)) (.pair (.sl (.int .i64)) (.pair (.int .i64) (.sl (.sl (.int .i64))))))) ((r1_.2.set ((r1_.2.length:Int) - (1:Int)).toNat (r1_.2.getD ((r1_.2.length:Int) - (1:Int)).toNat (0, ([], ([], (0, [])))))).set ((r1_.2.length:Int) - (1:Int)).toNat (((r1_.2.set ((r1_.2.length:Int) - (1:Int)).toNat (r1_.2.getD ((r1_.2.length:Int) - (1:Int)).toNat (0, ([], ([], (0, [])))))).getD ((r1_.2.length:Int) - (1:Int)).toNat (0, ([], ([], (0, []))))).1, ((((r1_.2.set ((r1_.2.length:Int) - (1:Int)).toNat (r1_.2.getD ((r1_.2.length:Int) - (1:Int)).toNat (0, ([], ([], (0, [])))))).getD ((r1_.2.length:Int) - (1:Int)).toNat (0, ([], ([], (0, []))))).2.1.set (0:Int).toNat r8_.1), ((r1_.2.set ((r1_.2.length:Int) - (1:Int)).toNat (r1_.2.getD ((r1_.2.length:Int) - (1:Int)).toNat (0, ([], ([], (0, [])))))).getD ((r1_.2.length:Int) - (1:Int)).toNat (0, ([], ([], (0, []))))).2.2))) (.deep true .no))]) rfl rfl (by exact ⟨⟨.inl rfl, rfl, trivial⟩, ⟨⟨⟨rfl, rfl⟩, trivial⟩, ⟨⟨rfl, rfl⟩, trivial⟩, trivial⟩, ⟨rfl, rfl⟩, ⟨rfl, rfl⟩, trivial⟩) (by exact ⟨⟨⟨rfl, rfl⟩, rfl⟩, trivial⟩))), he⟩
                · skip
                  refine And.intro ?_ (And.intro ?_ (trivial))
                  · skip
                    refine And.intro ?_ trivial
                    refine ⟨r8_, hq2, ?_⟩
                    refine And.intro hq3 ?_
                    refine And.intro ?_ trivial
                    have he := ok_some he
                    exact ⟨rfl, _, _, ((leads_close [9902] rfl).trans (leads_ren [(900, 4), (901, 9901), (902, 9902)] (l := [(4, .c (.ptr 900 0))]) (st' := [(0, .rc [.imm (.int .u8) r8_.2.1, .int .i64 r8_.2.2]), (900, .rc [.own 901 false, .own 902 false]), (901, .sl 3 (.int .i64) r1_.1 .shallow), (902, .sl 124 (.pair (.int .i64) (.pair (.sl (.int .i64)) (.pair (.sl (.int .i64)) (.pair (.int .i64) (.sl (.sl (.int .i64))))))) ((r1_.2.set ((r1_.2.length:Int) - (1:Int)).toNat (r1_.2.getD ((r1_.2.length:Int) - (1:Int)).toNat (0, ([], ([], (0, [])))))).set ((r1_.2.length:Int) - (1:Int)).toNat (((r1_.2.set ((r1_.2.length:Int) - (1:Int)).toNat (r1_.2.getD ((r1_.2.length:Int) - (1:Int)).toNat (0, ([], ([], (0, [])))))).getD ((r1_.2.length:Int) - (1:Int)).toNat (0, ([], ([], (0, []))))).1, ((((r1_.2.set ((r1_.2.length:Int) - (1:Int)).toNat (r1_.2.getD ((r1_.2.length:Int) - (1:Int)).toNat (0, ([], ([], (0, [])))))).getD ((r1_.2.length:Int) - (1:Int)).toNat (0, ([], ([], (0, []))))).2.1.set (0:Int).toNat r8_.1), ((r1_.2.set ((r1_.2.length:Int) - (1:Int)).toNat (r1_.2.getD ((r1_.2.length:Int) - (1:Int)).toNat (0, ([], ([], (0, [])))))).getD ((r1_.2.length:Int) - (1:Int)).toNat (0, ([], ([], (0, []))))).2.2))) (.deep true .no))]) rfl rfl (by exact ⟨⟨.inl rfl, rfl, trivial⟩, ⟨⟨⟨rfl, rfl⟩, trivial⟩, ⟨⟨rfl, rfl⟩, trivial⟩, trivial⟩, ⟨rfl, rfl⟩, ⟨rfl, rfl⟩, trivial⟩) (by exact ⟨⟨⟨rfl, rfl⟩, rfl⟩, trivial⟩))), he⟩
                  · skip
                    refine ⟨r8_, hq2, ?_⟩
                    refine And.intro ?_ trivial
                    refine And.intro hq3 ?_
                    refine And.intro ?_ trivial
                    have he := ok_some he
                    exact ⟨rfl, _, _, ((leads_close [9902] rfl).trans (leads_ren [(900, 4), (901, 9901), (902, 9902)] (l := [(4, .c (.ptr 900 0))]) (st' := [(0, .rc [.imm (.int .u8) r8_.2.1, .int .i64 r8_.2.2]), (900, .rc [.own 901 false, .own 902 false]), (901, .sl 3 (.int .i64) r1_.1 .shallow), (902, .sl 124 (.pair (.int .i64) (.pair (.sl (.int .i64)) (.pair (.sl (.int .i64)) (.pair (.int .i64) (.sl (.sl (.int .i64))))))) ((r1_.2.set ((r1_.2.length:Int) - (1:Int)).toNat (r1_.2.getD ((r1_.2.length:Int) - (1:Int)).toNat (0, ([], ([], (0, [])))))).set ((r1_.2.length:Int) - (1:Int)).toNat (((r1_.2.set ((r1_.2.length:Int) - (1:Int)).toNat (r1_.2.getD ((r1_.2.length:Int) - (1:Int)).toNat (0, ([], ([], (0, [])))))).getD ((r1_.2.length:Int) - (1:Int)).toNat (0, ([], ([], (0, []))))).1, ((((r1_.2.set ((r1_.2.length:Int) - (1:Int)).toNat (r1_.2.getD ((r1_.2.length:Int) - (1:Int)).toNat (0, ([], ([], (0, [])))))).getD ((r1_.2.length:Int) - (1:Int)).toNat (0, ([], ([], (0, []))))).2.1.set (0:Int).toNat r8_.1), ((r1_.2.set ((r1_.2.length:Int) - (1:Int)).toNat (r1_.2.getD ((r1_.2.length:Int) - (1:Int)).toNat (0, ([], ([], (0, [])))))).getD ((r1_.2.length:Int) - (1:Int)).toNat (0, ([], ([], (0, []))))).2.2))) (.deep true .no))]) rfl rfl (by exact ⟨⟨.inl rfl, rfl, trivial⟩, ⟨⟨⟨rfl, rfl⟩, trivial⟩, ⟨⟨rfl, rfl⟩, trivial⟩, trivial⟩, ⟨rfl, rfl⟩, ⟨rfl, rfl⟩, trivial⟩) (by exact ⟨⟨⟨rfl, rfl⟩, rfl⟩, trivial⟩))), he⟩
              · skip
                refine And.intro ?_ (And.intro ?_ (trivial))
                · skip
                  refine And.intro hq1 ?_
                  refine And.intro ?_ (And.intro ?_ (trivial))
                  · skip
                    refine And.intro ?_ trivial
                    refine ⟨r8_, hq2, ?_⟩
                    refine And.intro hq3 ?_
                    refine And.intro ?_ trivial
                    have he := ok_some he
                    exact ⟨rfl, _, _, ((leads_close [9902] rfl).trans (leads_ren [(900, 4), (901, 9901), (902, 9902)] (l := [(4, .c (.ptr 900 0))]) (st' := [(0, .rc [.imm (.int .u8) r8_.2.1, .int .i64 r8_.2.2]), (900, .rc [.own 901 false, .own 902 false]), (901, .sl 3 (.int .i64) r1_.1 .shallow), (902, .sl 124 (.pair (.int .i64) (.pair (.sl (.int .i64)) (.pair (.sl (.int .i64)) (.pair (.int .i64) (.sl (.sl (.int .i64))))))) ((r1_.2.set ((r1_.2.length:Int) - (1:Int)).toNat (r1_.2.getD ((r1_.2.length:Int) - (1:Int)).toNat (0, ([], ([], (0, [])))))).set ((r1_.2.length:Int) - (1:Int)).toNat (((r1_.2.set ((r1_.2.length:Int) - (1:Int)).toNat (r1_.2.getD ((r1_.2.length:Int) - (1:Int)).toNat (0, ([], ([], (0, [])))))).getD ((r1_.2.length:Int) - (1:Int)).toNat (0, ([], ([], (0, []))))).1, ((((r1_.2.set ((r1_.2.length:Int) - (1:Int)).toNat (r1_.2.getD ((r1_.2.length:Int) - (1:Int)).toNat (0, ([], ([], (0, [])))))).getD ((r1_.2.length:Int) - (1:Int)).toNat (0, ([], ([], (0, []))))).2.1.set (0:Int).toNat r8_.1), ((r1_.2.set ((r1_.2.length:Int) - (1:Int)).toNat (r1_.2.getD ((r1_.2.length:Int) - (1:Int)).toNat (0, ([], ([], (0, [])))))).getD ((r1_.2.length:Int) - (1:Int)).toNat (0, ([], ([], (0, []))))).2.2))) (.deep true .no))]) rfl rfl (by exact ⟨⟨.inl rfl, rfl, trivial⟩, ⟨⟨⟨rfl, rfl⟩, trivial⟩, ⟨⟨rfl, rfl⟩, trivial⟩, trivial⟩, ⟨rfl, rfl⟩, ⟨rfl, rfl⟩, trivial⟩) (by exact ⟨⟨⟨rfl, rfl⟩, rfl⟩, trivial⟩))), he⟩
                  · skip
                    refine ⟨r8_, hq2, ?_⟩
                    refine And.intro ?_ trivial
                    refine And.intro hq3 ?_
                    refine And.intro ?_ trivial
                    have he := ok_some he
                    exact ⟨rfl, _, _, ((leads_close [9902] rfl).trans (leads_ren [(900, 4), (901, 9901), (902, 9902)] (l := [(4, .c (.ptr 900 0))]) (st' := [(0, .rc [.imm (.int .u8) r8_.2.1, .int .i64 r8_.2.2]), (900, .rc [.own 901 false, .own 902 false]), (901, .sl 3 (.int .i64) r1_.1 .shallow), (902, .sl 124 (.pair (.int .i64) (.pair (.sl (.int .i64)) (.pair (.sl (.int .i64)) (.pair (.int .i64) (.sl (.sl (.int .i64))))))) ((r1_.2.set ((r1_.2.length:Int) - (1:Int)).toNat (r1_.2.getD ((r1_.2.length:Int) - (1:Int)).toNat (0, ([], ([], (0, [])))))).set ((r1_.2.length:Int) - (1:Int)).toNat (((r1_.2.set ((r1_.2.length:Int) - (1:Int)).toNat (r1_.2.getD ((r1_.2.length:Int) - (1:Int)).toNat (0, ([], ([], (0, [])))))).getD ((r1_.2.length:Int) - (1:Int)).toNat (0, ([], ([], (0, []))))).1, ((((r1_.2.set ((r1_.2.length:Int) - (1:Int)).toNat (r1_.2.getD ((r1_.2.length:Int) - (1:Int)).toNat (0, ([], ([], (0, [])))))).getD ((r1_.2.length:Int) - (1:Int)).toNat (0, ([], ([], (0, []))))).2.1.set (0:Int).toNat r8_.1), ((r1_.2.set ((r1_.2.length:Int) - (1:Int)).toNat (r1_.2.getD ((r1_.2.length:Int) - (1:Int)).toNat (0, ([], ([], (0, [])))))).getD ((r1_.2.length:Int) - (1:Int)).toNat (0, ([], ([], (0, []))))).2.2))) (.deep true .no))]) rfl rfl (by exact ⟨⟨.inl rfl, rfl, trivial⟩, ⟨⟨⟨rfl, rfl⟩, trivial⟩, ⟨⟨rfl, rfl⟩, trivial⟩, trivial⟩, ⟨rfl, rfl⟩, ⟨rfl, rfl⟩, trivial⟩) (by exact ⟨⟨⟨rfl, rfl⟩, rfl⟩, trivial⟩))), he⟩
                · skip
                  refine ⟨r8_, hq2, ?_⟩
                  refine And.intro ?_ trivial
                  refine And.intro hq1 ?_
                  refine And.intro ?_ trivial
                  refine And.intro hq3 ?_
                  refine And.intro ?_ trivial
                  have he := ok_some he
                  exact ⟨rfl, _, _, ((leads_close [9902] rfl).trans (leads_ren [(900, 4), (901, 9901), (902, 9902)] (l := [(4, .c (.ptr 900 0))]) (st' := [(0, .rc [.imm (.int .u8) r8_.2.1, .int .i64 r8_.2.2]), (900, .rc [.own 901 false, .own 902 false]), (901, .sl 3 (.int .i64) r1_.1 .shallow), (902, .sl 124 (.pair (.int .i64) (.pair (.sl (.int .i64)) (.pair (.sl (.int .i64)) (.pair (.int .i64) (.sl (.sl (.int .i64))))))) ((r1_.2.set ((r1_.2.length:Int) - (1:Int)).toNat (r1_.2.getD ((r1_.2.length:Int) - (1:Int)).toNat (0, ([], ([], (0, [])))))).set ((r1_.2.length:Int) - (1:Int)).toNat (((r1_.2.set ((r1_.2.length:Int) - (1:Int)).toNat (r1_.2.getD ((r1_.2.length:Int) - (1:Int)).toNat (0, ([], ([], (0, [])))))).getD ((r1_.2.length:Int) - (1:Int)).toNat (0, ([], ([], (0, []))))).1, ((((r1_.2.set ((r1_.2.length:Int) - (1:Int)).toNat (r1_.2.getD ((r1_.2.length:Int) - (1:Int)).toNat (0, ([], ([], (0, [])))))).getD ((r1_.2.length:Int) - (1:Int)).toNat (0, ([], ([], (0, []))))).2.1.set (0:Int).toNat r8_.1), ((r1_.2.set ((r1_.2.length:Int) - (1:Int)).toNat (r1_.2.getD ((r1_.2.length:Int) - (1:Int)).toNat (0, ([], ([], (0, [])))))).getD ((r1_.2.length:Int) - (1:Int)).toNat (0, ([], ([], (0, []))))).2.2))) (.deep true .no))]) rfl rfl (by exact ⟨⟨.inl rfl, rfl, trivial⟩, ⟨⟨⟨rfl, rfl⟩, trivial⟩, ⟨⟨rfl, rfl⟩, trivial⟩, trivial⟩, ⟨rfl, rfl⟩, ⟨rfl, rfl⟩, trivial⟩) (by exact ⟨⟨⟨rfl, rfl⟩, rfl⟩, trivial⟩))), he⟩
            · have he := ok_f he hb
              have he := ok_some he
              exact ⟨rfl, _, _, ((leads_close [9902] rfl).trans (leads_ren [(900, 4), (901, 9901), (902, 9902)] (l := [(4, .c (.ptr 900 0))]) (st' := [(0, .rc [.imm (.int .u8) r2_.2.1, .int .i64 r2_.2.2]), (900, .rc [.own 901 false, .own 902 false]), (901, .sl 3 (.int .i64) r1_.1 .shallow), (902, .sl 124 (.pair (.int .i64) (.pair (.sl (.int .i64)) (.pair (.sl (.int .i64)) (.pair (.int .i64) (.sl (.sl (.int .i64))))))) (r1_.2.set ((r1_.2.length:Int) - (1:Int)).toNat (r1_.2.getD ((r1_.2.length:Int) - (1:Int)).toNat (0, ([], ([], (0, [])))))) (.deep true .no))]) rfl rfl (by exact ⟨⟨.inl rfl, rfl, trivial⟩, ⟨⟨⟨rfl, rfl⟩, trivial⟩, ⟨⟨rfl, rfl⟩, trivial⟩, trivial⟩, ⟨rfl, rfl⟩, ⟨rfl, rfl⟩, trivial⟩) (by exact ⟨⟨⟨rfl, rfl⟩, rfl⟩, trivial⟩))), he⟩
          · have he := ok_f he hb
            have he := ok_some he
            exact ⟨rfl, _, _, (leads_ren [(900, 4), (901, 9901), (902, 9902)] (l := [(4, .c (.ptr 900 0))]) (st' := [(0, .rc [.imm (.int .u8) r2_.2.1, .int .i64 r2_.2.2]), (900, .rc [.own 901 false, .own 902 false]), (901, .sl 3 (.int .i64) r1_.1 .shallow), (902, .sl 124 (.pair (.int .i64) (.pair (.sl (.int .i64)) (.pair (.sl (.int .i64)) (.pair (.int .i64) (.sl (.sl (.int .i64))))))) r1_.2 (.deep true .no))]) rfl rfl ⟨⟨.inl rfl, rfl, trivial⟩, ⟨⟨⟨rfl, rfl⟩, trivial⟩, ⟨⟨rfl, rfl⟩, trivial⟩, trivial⟩, ⟨rfl, rfl⟩, ⟨rfl, rfl⟩, trivial⟩ ⟨⟨⟨rfl, rfl⟩, rfl⟩, trivial⟩), he⟩
        · have he := ok_f he hb
          refine And.intro (fun hb => ?_) (fun hb => ?_)
          · have he := ok_t he hb
            refine And.intro (fun hb => ?_) (fun hb => ?_)
            · have he := ok_t he hb
              refine And.intro (by kernel_rfl) ?_
              obtain ⟨r10_, hq1, he⟩ := ok_bind he
              have he := ok_rq he
              have hq2 := he.1
              have he := he.2
              refine And.intro ?_ (And.intro ?_ (trivial))
              · skip
                refine And.intro ?_ trivial
                refine And.intro ?_ trivial
                refine ⟨r10_, hq1, ?_⟩
                refine And.intro hq2 ?_
                refine And.intro ?_ trivial
                have he := ok_some he
                exact ⟨rfl, _, _, (leads_ren [(900, 4), (901, 9901), (902, 9902)] (l := [(4, .c (.ptr 900 0))]) (st' := [(0, .rc [.imm (.int .u8) r10_.2.1, .int .i64 r10_.2.2]), (900, .rc [.own 901 false, .own 902 false]), (901, .sl 3 (.int .i64) r1_.1 .shallow), (902, .sl 124 (.pair (.int .i64) (.pair (.sl (.int .i64)) (.pair (.sl (.int .i64)) (.pair (.int .i64) (.sl (.sl (.int .i64))))))) (r1_.2.set (0:Int).toNat ((r1_.2.getD (0:Int).toNat (0, ([], ([], (0, []))))).1, ((r1_.2.getD (0:Int).toNat (0, ([], ([], (0, []))))).2.1, ((r1_.2.getD (0:Int).toNat (0, ([], ([], (0, []))))).2.2.1, (r10_.1, (r1_.2.getD (0:Int).toNat (0, ([], ([], (0, []))))).2.2.2.2))))) (.deep true .no))]) rfl rfl ⟨⟨.inl rfl, rfl, trivial⟩, ⟨⟨⟨rfl, rfl⟩, trivial⟩, ⟨⟨rfl, rfl⟩, trivial⟩, trivial⟩, ⟨rfl, rfl⟩, ⟨rfl, rfl⟩, trivial⟩ ⟨⟨⟨rfl, rfl⟩, rfl⟩, trivial⟩), he⟩
              · skip
                refine And.intro ?_ (And.intro ?_ (trivial))
                · skip
                  refine And.intro ?_ trivial
                  refine ⟨r10_, hq1, ?_⟩
                  refine And.intro hq2 ?_
                  refine And.intro ?_ trivial
                  have he := ok_some he
                  exact ⟨rfl, _, _, (leads_ren [(900, 4), (901, 9901), (902, 9902)] (l := [(4, .c (.ptr 900 0))]) (st' := [(0, .rc [.imm (.int .u8) r10_.2.1, .int .i64 r10_.2.2]), (900, .rc [.own 901 false, .own 902 false]), (901, .sl 3 (.int .i64) r1_.1 .shallow), (902, .sl 124 (.pair (.int .i64) (.pair (.sl (.int .i64)) (.pair (.sl (.int .i64)) (.pair (.int .i64) (.sl (.sl (.int .i64))))))) (r1_.2.set (0:Int).toNat ((r1_.2.getD (0:Int).toNat (0, ([], ([], (0, []))))).1, ((r1_.2.getD (0:Int).toNat (0, ([], ([], (0, []))))).2.1, ((r1_.2.getD (0:Int).toNat (0, ([], ([], (0, []))))).2.2.1, (r10_.1, (r1_.2.getD (0:Int).toNat (0, ([], ([], (0, []))))).2.2.2.2))))) (.deep true .no))]) rfl rfl ⟨⟨.inl rfl, rfl, trivial⟩, ⟨⟨⟨rfl, rfl⟩, trivial⟩, ⟨⟨rfl, rfl⟩, trivial⟩, trivial⟩, ⟨rfl, rfl⟩, ⟨rfl, rfl⟩, trivial⟩ ⟨⟨⟨rfl, rfl⟩, rfl⟩, trivial⟩), he⟩
                · skip
                  refine ⟨r10_, hq1, ?_⟩
                  refine And.intro ?_ trivial
                  refine And.intro hq2 ?_
                  refine And.intro ?_ trivial
                  have he := ok_some he
                  exact ⟨rfl, _, _, (leads_ren [(900, 4), (901, 9901), (902, 9902)] (l := [(4, .c (.ptr 900 0))]) (st' := [(0, .rc [.imm (.int .u8) r10_.2.1, .int .i64 r10_.2.2]), (900, .rc [.own 901 false, .own 902 false]), (901, .sl 3 (.int .i64) r1_.1 .shallow), (902, .sl 124 (.pair (.int .i64) (.pair (.sl (.int .i64)) (.pair (.sl (.int .i64)) (.pair (.int .i64) (.sl (.sl (.int .i64))))))) (r1_.2.set (0:Int).toNat ((r1_.2.getD (0:Int).toNat (0, ([], ([], (0, []))))).1, ((r1_.2.getD (0:Int).toNat (0, ([], ([], (0, []))))).2.1, ((r1_.2.getD (0:Int).toNat (0, ([], ([], (0, []))))).2.2.1, (r10_.1, (r1_.2.getD (0:Int).toNat (0, ([], ([], (0, []))))).2.2.2.2))))) (.deep true .no))]) rfl rfl ⟨⟨.inl rfl, rfl, trivial⟩, ⟨⟨⟨rfl, rfl⟩, trivial⟩, ⟨⟨rfl, rfl⟩, trivial⟩, trivial⟩, ⟨rfl, rfl⟩, ⟨rfl, rfl⟩, trivial⟩ ⟨⟨⟨rfl, rfl⟩, rfl⟩, trivial⟩), he⟩
            · have he := ok_f he hb
              have he := ok_some he
              exact ⟨rfl, _, _, (leads_ren [(900, 4), (901, 9901), (902, 9902)] (l := [(4, .c (.ptr 900 0))]) (st' := [(0, .rc [.imm (.int .u8) r2_.2.1, .int .i64 r2_.2.2]), (900, .rc [.own 901 false, .own 902 false]), (901, .sl 3 (.int .i64) r1_.1 .shallow), (902, .sl 124 (.pair (.int .i64) (.pair (.sl (.int .i64)) (.pair (.sl (.int .i64)) (.pair (.int .i64) (.sl (.sl (.int .i64))))))) r1_.2 (.deep true .no))]) rfl rfl ⟨⟨.inl rfl, rfl, trivial⟩, ⟨⟨⟨rfl, rfl⟩, trivial⟩, ⟨⟨rfl, rfl⟩, trivial⟩, trivial⟩, ⟨rfl, rfl⟩, ⟨rfl, rfl⟩, trivial⟩ ⟨⟨⟨rfl, rfl⟩, rfl⟩, trivial⟩), he⟩
          · have he := ok_f he hb
            refine And.intro (fun hb => ?_) (fun hb => ?_)
            · have he := ok_t he hb
              have he := ok_some he
              exact ⟨rfl, _, _, (leads_ren [(900, 4)] (l := [(4, .c (.ptr 900 0))]) (st' := [(0, .rc [.imm (.int .u8) r2_.2.1, .int .i64 r2_.2.2]), (900, .rc [.own 901 false, .own 902 false]), (901, .sl 3 (.int .i64) ([] : List Int) .shallow), (902, .sl 124 (.pair (.int .i64) (.pair (.sl (.int .i64)) (.pair (.sl (.int .i64)) (.pair (.int .i64) (.sl (.sl (.int .i64))))))) ([] : List (Int × (List Int) × (List Int) × Int × (List (List Int)))) (.deep true .no))]) rfl rfl ⟨⟨.inl rfl, rfl, trivial⟩, ⟨⟨rfl, trivial⟩, ⟨rfl, trivial⟩, trivial⟩, trivial, trivial, trivial⟩ ⟨⟨⟨rfl, rfl⟩, rfl⟩, trivial⟩), he⟩
            · have he := ok_f he hb
              have he := ok_some he
              exact ⟨rfl, _, _, (leads_ren [(900, 4), (901, 9901), (902, 9902)] (l := [(4, .c (.ptr 900 0))]) (st' := [(0, .rc [.imm (.int .u8) r2_.2.1, .int .i64 r2_.2.2]), (900, .rc [.own 901 false, .own 902 false]), (901, .sl 3 (.int .i64) r1_.1 .shallow), (902, .sl 124 (.pair (.int .i64) (.pair (.sl (.int .i64)) (.pair (.sl (.int .i64)) (.pair (.int .i64) (.sl (.sl (.int .i64))))))) r1_.2 (.deep true .no))]) rfl rfl ⟨⟨.inl rfl, rfl, trivial⟩, ⟨⟨⟨rfl, rfl⟩, trivial⟩, ⟨⟨rfl, rfl⟩, trivial⟩, trivial⟩, ⟨rfl, rfl⟩, ⟨rfl, rfl⟩, trivial⟩ ⟨⟨⟨rfl, rfl⟩, rfl⟩, trivial⟩), he⟩

noncomputable def c_spec_l9Draw__rsd : Con := fun args st => match args, st with
  | [.c (.ptr 0 0), .agg [.own 1 false, .own 2 false]], [(0, .rc [.imm (.int .u8) r__0, .int .i64 r__1]), (1, .sl 3 (.int .i64) o1 .shallow), (2, .sl 124 (.pair (.int .i64) (.pair (.sl (.int .i64)) (.pair (.sl (.int .i64)) (.pair (.int .i64) (.sl (.sl (.int .i64))))))) o2 (.deep true .no))] => .opt (((List Int) × Int) × (List Int)) (spec_l9Draw__rsd (r__0, r__1) o1 o2) (fun r => .ret (.c (.own 900 false)) [(0, .rc [.imm (.int .u8) r.1.1, .int .i64 r.1.2]), (1, .sl 3 (.int .i64) o1 .shallow), (2, .sl 124 (.pair (.int .i64) (.pair (.sl (.int .i64)) (.pair (.sl (.int .i64)) (.pair (.int .i64) (.sl (.sl (.int .i64))))))) o2 (.deep true .no)), (900, .sl 3 (.int .i64) r.2 .shallow)])
  | _, _ => .fail

noncomputable def C_spec_l9Draw__rsd : Cfg := { y := tys, n := 39, h := 3, tab := [(99, c_spec_l17Rd_num), (166, c_spec_l17Rd_pick)], cut := [6], hand := [], good := [], deep := [], sched := [] }

theorem t_spec_l9Draw__rsd : TabOk Try.prog C_spec_l9Draw__rsd := by
  refine tabOk_of ?_
  simp only [C_spec_l9Draw__rsd, List.forall_mem_cons]
  exact ⟨k_spec_l17Rd_num, k_spec_l17Rd_pick, fun p h => by cases h⟩

theorem k_spec_l9Draw__rsd : Entry Try.prog 97 c_spec_l9Draw__rsd := by
  refine entry_by (C := C_spec_l9Draw__rsd) mixed tys_ok t_spec_l9Draw__rsd (fn := Try.f97) (c := bd Try.f97) (by kernel_rfl) (by kernel_rfl) (by kernel_rfl) (by kernel_rfl) ?_
  intro args st k he
  unfold c_spec_l9Draw__rsd at he
  split at he
  rotate_left
  · exact he.elim
  rename_i r__0 r__1 o1 o2
  have he : Ok (spec_l9Draw__rsd (r__0, r__1) o1 o2) (fun r => k (.c (.own 900 false)) [(0, .rc [.imm (.int .u8) r.1.1, .int .i64 r.1.2]), (1, .sl 3 (.int .i64) o1 .shallow), (2, .sl 124 (.pair (.int .i64) (.pair (.sl (.int .i64)) (.pair (.sl (.int .i64)) (.pair (.int .i64) (.sl (.sl (.int .i64))))))) o2 (.deep true .no)), (900, .sl 3 (.int .i64) r.2 .shallow)]) := he
  refine ⟨rfl, rfl, ?_⟩
  refine seq_model mixed tys_ok t_spec_l9Draw__rsd (S := ((List Int) × Int) × (List Int)) (I := (fun (r_2, out1) => (envOf [(0, .c (.ptr 0 0)), (5, .c (.own 10001000 false))], [(0, .rc [.imm (.int .u8) r_2.1, .int .i64 r_2.2]), (1, .sl 3 (.int .i64) o1 .shallow), (2, .sl 124 (.pair (.int .i64) (.pair (.sl (.int .i64)) (.pair (.sl (.int .i64)) (.pair (.int .i64) (.sl (.sl (.int .i64))))))) o2 (.deep true .no)), (10001000, .sl 3 (.int .i64) out1 .shallow)]))) (B := fun s => Ok (spec_l9Draw__rsd_j1 s) (fun r => k (.c (.own 900 false)) [(0, .rc [.imm (.int .u8) r.1.1, .int .i64 r.1.2]), (1, .sl 3 (.int .i64) o1 .shallow), (2, .sl 124 (.pair (.int .i64) (.pair (.sl (.int .i64)) (.pair (.sl (.int .i64)) (.pair (.int .i64) (.sl (.sl (.int .i64))))))) o2 (.deep true .no)), (900, .sl 3 (.int .i64) r.2 .shallow)])) ?_ ?_
  · rintro ⟨r_2, out1⟩ he
    obtain ⟨r3_, hr, he⟩ := ok_bind he
    refine ⟨r3_, hr, ?_⟩
    refine And.intro (fun hb => ?_) (fun hb => ?_)
    · have he := ok_t he hb
      refine And.intro (fun hb => ?_) (fun hb => ?_)
      · have he := ok_t he hb
        obtain ⟨r4_, hr, he⟩ := ok_bind he
        refine ⟨r4_, hr, ?_⟩
        have he := ok_rq he
        refine And.intro he.1 ?_
        have he := he.2
        have he := ok_some he
        exact ⟨rfl, _, _, (leads_ren [(900, 10001000)] (l := [(4, .c (.own 900 false))]) (st' := [(0, .rc [.imm (.int .u8) r4_.2.1, .int .i64 r4_.2.2]), (1, .sl 3 (.int .i64) o1 .shallow), (2, .sl 124 (.pair (.int .i64) (.pair (.sl (.int .i64)) (.pair (.sl (.int .i64)) (.pair (.int .i64) (.sl (.sl (.int .i64))))))) o2 (.deep true .no)), (900, .sl 3 (.int .i64) (out1.set (0:Int).toNat r4_.1) .shallow)]) rfl rfl ⟨⟨.inl rfl, rfl, trivial⟩, ⟨rfl, rfl⟩, ⟨rfl, rfl⟩, ⟨rfl, rfl⟩, trivial⟩ ⟨⟨⟨rfl, rfl⟩, trivial⟩, trivial⟩), he⟩
      · have he := ok_f he hb
        have he := ok_some he
        exact ⟨rfl, _, _, (leads_ren [(900, 10001000)] (l := [(4, .c (.own 900 false))]) (st' := [(0, .rc [.imm (.int .u8) r3_.2.1, .int .i64 r3_.2.2]), (1, .sl 3 (.int .i64) o1 .shallow), (2, .sl 124 (.pair (.int .i64) (.pair (.sl (.int .i64)) (.pair (.sl (.int .i64)) (.pair (.int .i64) (.sl (.sl (.int .i64))))))) o2 (.deep true .no)), (900, .sl 3 (.int .i64) out1 .shallow)]) rfl rfl ⟨⟨.inl rfl, rfl, trivial⟩, ⟨rfl, rfl⟩, ⟨rfl, rfl⟩, ⟨rfl, rfl⟩, trivial⟩ ⟨⟨⟨rfl, rfl⟩, trivial⟩, trivial⟩), he⟩
    · have he := ok_f he hb
      refine And.intro (fun hb => ?_) (fun hb => ?_)
      · have he := ok_t he hb
        have he := ok_rq he
        refine And.intro he.1 ?_
        have he := he.2
        have he := ok_some he
        exact ⟨rfl, _, _, (leads_ren [(900, 37)] (l := [(4, .c (.own 900 false))]) (st' := [(0, .rc [.imm (.int .u8) r3_.2.1, .int .i64 r3_.2.2]), (1, .sl 3 (.int .i64) o1 .shallow), (2, .sl 124 (.pair (.int .i64) (.pair (.sl (.int .i64)) (.pair (.sl (.int .i64)) (.pair (.int .i64) (.sl (.sl (.int .i64))))))) o2 (.deep true .no)), (900, .sl 3 (.int .i64) (out1 ++ [(1:Int)]) .shallow)]) rfl rfl ⟨⟨.inl rfl, rfl, trivial⟩, ⟨rfl, rfl⟩, ⟨rfl, rfl⟩, ⟨rfl, rfl⟩, trivial⟩ ⟨⟨⟨rfl, rfl⟩, trivial⟩, trivial⟩), he⟩
      · have he := ok_f he hb
        have he := ok_some he
        exact ⟨rfl, _, _, (leads_ren [(900, 10001000)] (l := [(4, .c (.own 900 false))]) (st' := [(0, .rc [.imm (.int .u8) r3_.2.1, .int .i64 r3_.2.2]), (1, .sl 3 (.int .i64) o1 .shallow), (2, .sl 124 (.pair (.int .i64) (.pair (.sl (.int .i64)) (.pair (.sl (.int .i64)) (.pair (.int .i64) (.sl (.sl (.int .i64))))))) o2 (.deep true .no)), (900, .sl 3 (.int .i64) out1 .shallow)]) rfl rfl ⟨⟨.inl rfl, rfl, trivial⟩, ⟨rfl, rfl⟩, ⟨rfl, rfl⟩, ⟨rfl, rfl⟩, trivial⟩ ⟨⟨⟨rfl, rfl⟩, trivial⟩, trivial⟩), he⟩
  · skip
    refine loop_model mixed tys_ok t_spec_l9Draw__rsd (S := Int × ((List Int) × Int) × (List Int)) (I := (fun (i, r_1, out) => (envOf [(0, .c (.ptr 0 0)), (3, .c (.ptr 10000000 0)), (5, .c (.own 10000001 false)), (6, .c (.int .i64 i))], [(0, .rc [.imm (.int .u8) r_1.1, .int .i64 r_1.2]), (1, .sl 3 (.int .i64) o1 .shallow), (2, .sl 124 (.pair (.int .i64) (.pair (.sl (.int .i64)) (.pair (.sl (.int .i64)) (.pair (.int .i64) (.sl (.sl (.int .i64))))))) o2 (.deep true .no)), (10000000, .rc [.own 1 false, .own 2 false]), (10000001, .sl 3 (.int .i64) out .shallow)]))) (f := spec_l9Draw__rsd_l1 o1) (K := (fun r => k (.c (.own 900 false)) [(0, .rc [.imm (.int .u8) r.1.1, .int .i64 r.1.2]), (1, .sl 3 (.int .i64) o1 .shallow), (2, .sl 124 (.pair (.int .i64) (.pair (.sl (.int .i64)) (.pair (.sl (.int .i64)) (.pair (.int .i64) (.sl (.sl (.int .i64))))))) o2 (.deep true .no)), (900, .sl 3 (.int .i64) r.2 .shallow)])) he (leads_ren [(10000000, 3), (10000001, 7)] (l := [(0, .c (.ptr 0 0)), (3, .c (.ptr 10000000 0)), (5, .c (.own 10000001 false)), (6, .c (.int .i64 (0:Int)))]) (st' := [(0, .rc [.imm (.int .u8) (r__0, r__1).1, .int .i64 (r__0, r__1).2]), (1, .sl 3 (.int .i64) o1 .shallow), (2, .sl 124 (.pair (.int .i64) (.pair (.sl (.int .i64)) (.pair (.sl (.int .i64)) (.pair (.int .i64) (.sl (.sl (.int .i64))))))) o2 (.deep true .no)), (10000000, .rc [.own 1 false, .own 2 false]), (10000001, .sl 3 (.int .i64) ([] : List Int) .shallow)]) rfl rfl ⟨⟨.inl rfl, rfl, trivial⟩, ⟨rfl, rfl⟩, ⟨rfl, rfl⟩, ⟨⟨⟨rfl, rfl⟩, trivial⟩, ⟨⟨rfl, rfl⟩, trivial⟩, trivial⟩, ⟨rfl, rfl⟩, trivial⟩ ⟨⟨⟨rfl, rfl⟩, rfl⟩, ⟨⟨rfl, rfl⟩, rfl⟩, ⟨⟨rfl, rfl⟩, trivial⟩, rfl, trivial⟩) ?_
    rintro ⟨i, r_1, out⟩ J1 he
    refine And.intro (fun hb => ?_) (fun hb => ?_)
    · have he := ok_t he hb
      obtain ⟨r2_, hr, he⟩ := ok_bind he
      refine ⟨r2_, hr, ?_⟩
      have he := ok_rq he
      refine And.intro he.1 ?_
      have he := he.2
      have he := ok_rq he
      refine And.intro he.1 ?_
      have he := he.2
      have he := ok_some he
      exact ⟨((i + (1:Int)), r2_.2, (out ++ [r2_.1])), he, (leads_ren [(10000001, 20)] (l := [(0, .c (.ptr 0 0)), (3, .c (.ptr 10000000 0)), (5, .c (.own 10000001 false)), (6, .c (.int .i64 (i + (1:Int))))]) (st' := [(0, .rc [.imm (.int .u8) r2_.2.1, .int .i64 r2_.2.2]), (1, .sl 3 (.int .i64) o1 .shallow), (2, .sl 124 (.pair (.int .i64) (.pair (.sl (.int .i64)) (.pair (.sl (.int .i64)) (.pair (.int .i64) (.sl (.sl (.int .i64))))))) o2 (.deep true .no)), (10000000, .rc [.own 1 false, .own 2 false]), (10000001, .sl 3 (.int .i64) (out ++ [r2_.1]) .shallow)]) rfl rfl ⟨⟨.inl rfl, rfl, trivial⟩, ⟨rfl, rfl⟩, ⟨rfl, rfl⟩, ⟨⟨⟨rfl, rfl⟩, trivial⟩, ⟨⟨rfl, rfl⟩, trivial⟩, trivial⟩, ⟨rfl, rfl⟩, trivial⟩ ⟨⟨⟨rfl, rfl⟩, rfl⟩, ⟨⟨rfl, rfl⟩, rfl⟩, ⟨⟨rfl, rfl⟩, trivial⟩, rfl, trivial⟩)⟩
    · have he := ok_f he hb
      exact ⟨(r_1, out), ok_up he, (leads_ren [(10001000, 10000001)] (l := [(0, .c (.ptr 0 0)), (5, .c (.own 10001000 false))]) (st' := [(0, .rc [.imm (.int .u8) r_1.1, .int .i64 r_1.2]), (1, .sl 3 (.int .i64) o1 .shallow), (2, .sl 124 (.pair (.int .i64) (.pair (.sl (.int .i64)) (.pair (.sl (.int .i64)) (.pair (.int .i64) (.sl (.sl (.int .i64))))))) o2 (.deep true .no)), (10001000, .sl 3 (.int .i64) out .shallow)]) rfl rfl ⟨⟨.inl rfl, rfl, trivial⟩, ⟨rfl, rfl⟩, ⟨rfl, rfl⟩, ⟨rfl, rfl⟩, trivial⟩ ⟨⟨⟨rfl, rfl⟩, rfl⟩, ⟨⟨rfl, rfl⟩, trivial⟩, trivial⟩)⟩

noncomputable def c_spec_l6DrawCells__rsd : Con := fun args st => match args, st with
  | [.c (.ptr 0 0), .agg [.own 1 false, .own 2 false]], [(0, .rc [.imm (.int .u8) r__0, .int .i64 r__1]), (1, .sl 3 (.int .i64) o1 .shallow), (2, .sl 124 (.pair (.int .i64) (.pair (.sl (.int .i64)) (.pair (.sl (.int .i64)) (.pair (.int .i64) (.sl (.sl (.int .i64))))))) o2 (.deep true .no))] => .opt (((List Int) × Int) × (List Int)) (spec_l6DrawCells__rsd (r__0, r__1) o1 o2) (fun r => .ret (.c (.own 900 false)) [(0, .rc [.imm (.int .u8) r.1.1, .int .i64 r.1.2]), (1, .sl 3 (.int .i64) o1 .shallow), (2, .sl 124 (.pair (.int .i64) (.pair (.sl (.int .i64)) (.pair (.sl (.int .i64)) (.pair (.int .i64) (.sl (.sl (.int .i64))))))) o2 (.deep true .no)), (900, .sl 3 (.int .i64) r.2 .shallow)])
  | _, _ => .fail

noncomputable def C_spec_l6DrawCells__rsd : Cfg := { y := tys, n := 52, h := 3, tab := [(99, c_spec_l17Rd_num), (166, c_spec_l17Rd_pick)], cut := [8, 9], hand := [], good := [], deep := [], sched := [], wrp := [21] }

theorem t_spec_l6DrawCells__rsd : TabOk Try.prog C_spec_l6DrawCells__rsd := by
  refine tabOk_of ?_
  simp only [C_spec_l6DrawCells__rsd, List.forall_mem_cons]
  exact ⟨k_spec_l17Rd_num, k_spec_l17Rd_pick, fun p h => by cases h⟩

theorem k_spec_l6DrawCells__rsd : Entry Try.prog 98 c_spec_l6DrawCells__rsd := by
  refine entry_by (C := C_spec_l6DrawCells__rsd) mixed tys_ok t_spec_l6DrawCells__rsd (fn := Try.f98) (c := bd Try.f98) (by kernel_rfl) (by kernel_rfl) (by kernel_rfl) (by kernel_rfl) ?_
  intro args st k he
  unfold c_spec_l6DrawCells__rsd at he
  split at he
  rotate_left
  · exact he.elim
  rename_i r__0 r__1 o1 o2
  have he : Ok (spec_l6DrawCells__rsd (r__0, r__1) o1 o2) (fun r => k (.c (.own 900 false)) [(0, .rc [.imm (.int .u8) r.1.1, .int .i64 r.1.2]), (1, .sl 3 (.int .i64) o1 .shallow), (2, .sl 124 (.pair (.int .i64) (.pair (.sl (.int .i64)) (.pair (.sl (.int .i64)) (.pair (.int .i64) (.sl (.sl (.int .i64))))))) o2 (.deep true .no)), (900, .sl 3 (.int .i64) r.2 .shallow)]) := he
  refine ⟨rfl, rfl, ?_⟩
  refine seq_model mixed tys_ok t_spec_l6DrawCells__rsd (S := ((List Int) × Int) × (List Int)) (I := (fun (r_2, out1) => (envOf [(0, .c (.ptr 0 0)), (5, .c (.own 10003000 false))], [(0, .rc [.imm (.int .u8) r_2.1, .int .i64 r_2.2]), (1, .sl 3 (.int .i64) o1 .shallow), (2, .sl 124 (.pair (.int .i64) (.pair (.sl (.int .i64)) (.pair (.sl (.int .i64)) (.pair (.int .i64) (.sl (.sl (.int .i64))))))) o2 (.deep true .no)), (10003000, .sl 3 (.int .i64) out1 .shallow)]))) (B := fun s => Ok (spec_l6DrawCells__rsd_j1 s) (fun r => k (.c (.own 900 false)) [(0, .rc [.imm (.int .u8) r.1.1, .int .i64 r.1.2]), (1, .sl 3 (.int .i64) o1 .shallow), (2, .sl 124 (.pair (.int .i64) (.pair (.sl (.int .i64)) (.pair (.sl (.int .i64)) (.pair (.int .i64) (.sl (.sl (.int .i64))))))) o2 (.deep true .no)), (900, .sl 3 (.int .i64) r.2 .shallow)])) ?_ ?_
  · rintro ⟨r_2, out1⟩ he
    obtain ⟨r3_, hr, he⟩ := ok_bind he
    refine ⟨r3_, hr, ?_⟩
    refine And.intro (fun hb => ?_) (fun hb => ?_)
    · have he := ok_t he hb
      have he := ok_rq he
      refine And.intro he.1 ?_
      have he := he.2
      have he := ok_some he
      exact ⟨rfl, _, _, (leads_ren [(900, 40)] (l := [(4, .c (.own 900 false))]) (st' := [(0, .rc [.imm (.int .u8) r3_.2.1, .int .i64 r3_.2.2]), (1, .sl 3 (.int .i64) o1 .shallow), (2, .sl 124 (.pair (.int .i64) (.pair (.sl (.int .i64)) (.pair (.sl (.int .i64)) (.pair (.int .i64) (.sl (.sl (.int .i64))))))) o2 (.deep true .no)), (900, .sl 3 (.int .i64) (out1 ++ [(0:Int)]) .shallow)]) rfl rfl ⟨⟨.inl rfl, rfl, trivial⟩, ⟨rfl, rfl⟩, ⟨rfl, rfl⟩, ⟨rfl, rfl⟩, trivial⟩ ⟨⟨⟨rfl, rfl⟩, trivial⟩, trivial⟩), he⟩
    · have he := ok_f he hb
      refine And.intro (fun hb => ?_) (fun hb => ?_)
      · have he := ok_t he hb
        refine And.intro (fun hb => ?_) (fun hb => ?_)
        · have he := ok_t he hb
          obtain ⟨r4_, hr, he⟩ := ok_bind he
          refine ⟨r4_, hr, ?_⟩
          have he := ok_rq he
          refine And.intro he.1 ?_
          have he := he.2
          have he := ok_some he
          exact ⟨rfl, _, _, (leads_ren [(900, 10003000)] (l := [(4, .c (.own 900 false))]) (st' := [(0, .rc [.imm (.int .u8) r4_.2.1, .int .i64 r4_.2.2]), (1, .sl 3 (.int .i64) o1 .shallow), (2, .sl 124 (.pair (.int .i64) (.pair (.sl (.int .i64)) (.pair (.sl (.int .i64)) (.pair (.int .i64) (.sl (.sl (.int .i64))))))) o2 (.deep true .no)), (900, .sl 3 (.int .i64) (out1.set (0:Int).toNat r4_.1) .shallow)]) rfl rfl ⟨⟨.inl rfl, rfl, trivial⟩, ⟨rfl, rfl⟩, ⟨rfl, rfl⟩, ⟨rfl, rfl⟩, trivial⟩ ⟨⟨⟨rfl, rfl⟩, trivial⟩, trivial⟩), he⟩
        · have he := ok_f he hb
          have he := ok_some he
          exact ⟨rfl, _, _, (leads_ren [(900, 10003000)] (l := [(4, .c (.own 900 false))]) (st' := [(0, .rc [.imm (.int .u8) r3_.2.1, .int .i64 r3_.2.2]), (1, .sl 3 (.int .i64) o1 .shallow), (2, .sl 124 (.pair (.int .i64) (.pair (.sl (.int .i64)) (.pair (.sl (.int .i64)) (.pair (.int .i64) (.sl (.sl (.int .i64))))))) o2 (.deep true .no)), (900, .sl 3 (.int .i64) out1 .shallow)]) rfl rfl ⟨⟨.inl rfl, rfl, trivial⟩, ⟨rfl, rfl⟩, ⟨rfl, rfl⟩, ⟨rfl, rfl⟩, trivial⟩ ⟨⟨⟨rfl, rfl⟩, trivial⟩, trivial⟩), he⟩
      · have he := ok_f he hb
        have he := ok_some he
        exact ⟨rfl, _, _, (leads_ren [(900, 10003000)] (l := [(4, .c (.own 900 false))]) (st' := [(0, .rc [.imm (.int .u8) r3_.2.1, .int .i64 r3_.2.2]), (1, .sl 3 (.int .i64) o1 .shallow), (2, .sl 124 (.pair (.int .i64) (.pair (.sl (.int .i64)) (.pair (.sl (.int .i64)) (.pair (.int .i64) (.sl (.sl (.int .i64))))))) o2 (.deep true .no)), (900, .sl 3 (.int .i64) out1 .shallow)]) rfl rfl ⟨⟨.inl rfl, rfl, trivial⟩, ⟨rfl, rfl⟩, ⟨rfl, rfl⟩, ⟨rfl, rfl⟩, trivial⟩ ⟨⟨⟨rfl, rfl⟩, trivial⟩, trivial⟩), he⟩
  · skip
    refine loop_model mixed tys_ok t_spec_l6DrawCells__rsd (S := Int × ((List Int) × Int) × (List Int)) (I := (fun (i, r_1, out) => (envOf [(0, .c (.ptr 0 0)), (3, .c (.ptr 10000000 0)), (5, .c (.own 10000001 false)), (6, .c (.int .i64 i))], [(0, .rc [.imm (.int .u8) r_1.1, .int .i64 r_1.2]), (1, .sl 3 (.int .i64) o1 .shallow), (2, .sl 124 (.pair (.int .i64) (.pair (.sl (.int .i64)) (.pair (.sl (.int .i64)) (.pair (.int .i64) (.sl (.sl (.int .i64))))))) o2 (.deep true .no)), (10000000, .rc [.own 1 false, .own 2 false]), (10000001, .sl 3 (.int .i64) out .shallow)]))) (f := spec_l6DrawCells__rsd_l1 o1) (K := (fun r => k (.c (.own 900 false)) [(0, .rc [.imm (.int .u8) r.1.1, .int .i64 r.1.2]), (1, .sl 3 (.int .i64) o1 .shallow), (2, .sl 124 (.pair (.int .i64) (.pair (.sl (.int .i64)) (.pair (.sl (.int .i64)) (.pair (.int .i64) (.sl (.sl (.int .i64))))))) o2 (.deep true .no)), (900, .sl 3 (.int .i64) r.2 .shallow)])) he (leads_ren [(10000000, 3), (10000001, 8)] (l := [(0, .c (.ptr 0 0)), (3, .c (.ptr 10000000 0)), (5, .c (.own 10000001 false)), (6, .c (.int .i64 (0:Int)))]) (st' := [(0, .rc [.imm (.int .u8) (r__0, r__1).1, .int .i64 (r__0, r__1).2]), (1, .sl 3 (.int .i64) o1 .shallow), (2, .sl 124 (.pair (.int .i64) (.pair (.sl (.int .i64)) (.pair (.sl (.int .i64)) (.pair (.int .i64) (.sl (.sl (.int .i64))))))) o2 (.deep true .no)), (10000000, .rc [.own 1 false, .own 2 false]), (10000001, .sl 3 (.int .i64) ([] : List Int) .shallow)]) rfl rfl ⟨⟨.inl rfl, rfl, trivial⟩, ⟨rfl, rfl⟩, ⟨rfl, rfl⟩, ⟨⟨⟨rfl, rfl⟩, trivial⟩, ⟨⟨rfl, rfl⟩, trivial⟩, trivial⟩, ⟨rfl, rfl⟩, trivial⟩ ⟨⟨⟨rfl, rfl⟩, rfl⟩, ⟨⟨rfl, rfl⟩, rfl⟩, ⟨⟨rfl, rfl⟩, trivial⟩, rfl, trivial⟩) ?_
    rintro ⟨i, r_1, out⟩ J1 he
    refine And.intro (fun hb => ?_) (fun hb => ?_)
    · have he := ok_t he hb
      have he := ok_rq he
      refine And.intro he.1 ?_
      have he := he.2
      refine seq_model mixed tys_ok t_spec_l6DrawCells__rsd (S := Int) (I := (fun n1 => (envOf [(0, .c (.ptr 0 0)), (3, .c (.ptr 10002000 0)), (5, .c (.own 10002001 false)), (6, .c (.int .i64 i)), (7, .c (.int .i64 n1))], [(0, .rc [.imm (.int .u8) r_1.1, .int .i64 r_1.2]), (1, .sl 3 (.int .i64) o1 .shallow), (2, .sl 124 (.pair (.int .i64) (.pair (.sl (.int .i64)) (.pair (.sl (.int .i64)) (.pair (.int .i64) (.sl (.sl (.int .i64))))))) o2 (.deep true .no)), (10002000, .rc [.own 1 false, .own 2 false]), (10002001, .sl 3 (.int .i64) out .shallow)]))) (B := fun s => Ok (spec_l6DrawCells__rsd_j2 i r_1 out s) (LK J1 (fun r => k (.c (.own 900 false)) [(0, .rc [.imm (.int .u8) r.1.1, .int .i64 r.1.2]), (1, .sl 3 (.int .i64) o1 .shallow), (2, .sl 124 (.pair (.int .i64) (.pair (.sl (.int .i64)) (.pair (.sl (.int .i64)) (.pair (.int .i64) (.sl (.sl (.int .i64))))))) o2 (.deep true .no)), (900, .sl 3 (.int .i64) r.2 .shallow)]))) ?_ ?_
      · rintro n1 he
        obtain ⟨r2_, hr, he⟩ := ok_bind he
        refine ⟨r2_, hr, ?_⟩
        have he := ok_rq he
        refine And.intro he.1 ?_
        have he := he.2
        have he := ok_rq he
        refine And.intro he.1 ?_
        have he := he.2
        have he := ok_some he
        exact ⟨((i + (1:Int)), r2_.2, (out ++ [r2_.1])), he, (leads_ren [(10000000, 10002000), (10000001, 33)] (l := [(0, .c (.ptr 0 0)), (3, .c (.ptr 10000000 0)), (5, .c (.own 10000001 false)), (6, .c (.int .i64 (i + (1:Int))))]) (st' := [(0, .rc [.imm (.int .u8) r2_.2.1, .int .i64 r2_.2.2]), (1, .sl 3 (.int .i64) o1 .shallow), (2, .sl 124 (.pair (.int .i64) (.pair (.sl (.int .i64)) (.pair (.sl (.int .i64)) (.pair (.int .i64) (.sl (.sl (.int .i64))))))) o2 (.deep true .no)), (10000000, .rc [.own 1 false, .own 2 false]), (10000001, .sl 3 (.int .i64) (out ++ [r2_.1]) .shallow)]) rfl rfl ⟨⟨.inl rfl, rfl, trivial⟩, ⟨rfl, rfl⟩, ⟨rfl, rfl⟩, ⟨⟨⟨rfl, rfl⟩, trivial⟩, ⟨⟨rfl, rfl⟩, trivial⟩, trivial⟩, ⟨rfl, rfl⟩, trivial⟩ ⟨⟨⟨rfl, rfl⟩, rfl⟩, ⟨⟨rfl, rfl⟩, rfl⟩, ⟨⟨rfl, rfl⟩, trivial⟩, rfl, trivial⟩)⟩
      · skip
        refine And.intro (fun hb => ?_) (fun hb => ?_)
        · have he := ok_f he hb
          refine And.intro (fun hb => ?_) (fun hb => ?_)
          · have he := ok_t he hb
            exact ⟨(1:Int), he, (leads_ren [(10002000, 10000000), (10002001, 10000001)] (l := [(0, .c (.ptr 0 0)), (3, .c (.ptr 10002000 0)), (5, .c (.own 10002001 false)), (6, .c (.int .i64 i)), (7, .c (.int .i64 (1:Int)))]) (st' := [(0, .rc [.imm (.int .u8) r_1.1, .int .i64 r_1.2]), (1, .sl 3 (.int .i64) o1 .shallow), (2, .sl 124 (.pair (.int .i64) (.pair (.sl (.int .i64)) (.pair (.sl (.int .i64)) (.pair (.int .i64) (.sl (.sl (.int .i64))))))) o2 (.deep true .no)), (10002000, .rc [.own 1 false, .own 2 false]), (10002001, .sl 3 (.int .i64) out .shallow)]) rfl rfl ⟨⟨.inl rfl, rfl, trivial⟩, ⟨rfl, rfl⟩, ⟨rfl, rfl⟩, ⟨⟨⟨rfl, rfl⟩, trivial⟩, ⟨⟨rfl, rfl⟩, trivial⟩, trivial⟩, ⟨rfl, rfl⟩, trivial⟩ ⟨⟨⟨rfl, rfl⟩, rfl⟩, ⟨⟨rfl, rfl⟩, rfl⟩, ⟨⟨rfl, rfl⟩, trivial⟩, rfl, rfl, trivial⟩)⟩
          · have he := ok_f he hb
            exact ⟨(w64 ((o1.getD i.toNat 0) + (1:Int))), he, (leads_ren [(10002000, 10000000), (10002001, 10000001)] (l := [(0, .c (.ptr 0 0)), (3, .c (.ptr 10002000 0)), (5, .c (.own 10002001 false)), (6, .c (.int .i64 i)), (7, .c (.int .i64 (w64 ((o1.getD i.toNat 0) + (1:Int)))))]) (st' := [(0, .rc [.imm (.int .u8) r_1.1, .int .i64 r_1.2]), (1, .sl 3 (.int .i64) o1 .shallow), (2, .sl 124 (.pair (.int .i64) (.pair (.sl (.int .i64)) (.pair (.sl (.int .i64)) (.pair (.int .i64) (.sl (.sl (.int .i64))))))) o2 (.deep true .no)), (10002000, .rc [.own 1 false, .own 2 false]), (10002001, .sl 3 (.int .i64) out .shallow)]) rfl rfl ⟨⟨.inl rfl, rfl, trivial⟩, ⟨rfl, rfl⟩, ⟨rfl, rfl⟩, ⟨⟨⟨rfl, rfl⟩, trivial⟩, ⟨⟨rfl, rfl⟩, trivial⟩, trivial⟩, ⟨rfl, rfl⟩, trivial⟩ ⟨⟨⟨rfl, rfl⟩, rfl⟩, ⟨⟨rfl, rfl⟩, rfl⟩, ⟨⟨rfl, rfl⟩, trivial⟩, rfl, rfl, trivial⟩)⟩
        · have he := ok_t he hb
          exact ⟨(1:Int), he, (leads_ren [(10002000, 10000000), (10002001, 10000001)] (l := [(0, .c (.ptr 0 0)), (3, .c (.ptr 10002000 0)), (5, .c (.own 10002001 false)), (6, .c (.int .i64 i)), (7, .c (.int .i64 (1:Int)))]) (st' := [(0, .rc [.imm (.int .u8) r_1.1, .int .i64 r_1.2]), (1, .sl 3 (.int .i64) o1 .shallow), (2, .sl 124 (.pair (.int .i64) (.pair (.sl (.int .i64)) (.pair (.sl (.int .i64)) (.pair (.int .i64) (.sl (.sl (.int .i64))))))) o2 (.deep true .no)), (10002000, .rc [.own 1 false, .own 2 false]), (10002001, .sl 3 (.int .i64) out .shallow)]) rfl rfl ⟨⟨.inl rfl, rfl, trivial⟩, ⟨rfl, rfl⟩, ⟨rfl, rfl⟩, ⟨⟨⟨rfl, rfl⟩, trivial⟩, ⟨⟨rfl, rfl⟩, trivial⟩, trivial⟩, ⟨rfl, rfl⟩, trivial⟩ ⟨⟨⟨rfl, rfl⟩, rfl⟩, ⟨⟨rfl, rfl⟩, rfl⟩, ⟨⟨rfl, rfl⟩, trivial⟩, rfl, rfl, trivial⟩)⟩
    · have he := ok_f he hb
      exact ⟨(r_1, out), ok_up he, (leads_ren [(10003000, 10000001)] (l := [(0, .c (.ptr 0 0)), (5, .c (.own 10003000 false))]) (st' := [(0, .rc [.imm (.int .u8) r_1.1, .int .i64 r_1.2]), (1, .sl 3 (.int .i64) o1 .shallow), (2, .sl 124 (.pair (.int .i64) (.pair (.sl (.int .i64)) (.pair (.sl (.int .i64)) (.pair (.int .i64) (.sl (.sl (.int .i64))))))) o2 (.deep true .no)), (10003000, .sl 3 (.int .i64) out .shallow)]) rfl rfl ⟨⟨.inl rfl, rfl, trivial⟩, ⟨rfl, rfl⟩, ⟨rfl, rfl⟩, ⟨rfl, rfl⟩, trivial⟩ ⟨⟨⟨rfl, rfl⟩, rfl⟩, ⟨⟨rfl, rfl⟩, trivial⟩, trivial⟩)⟩

noncomputable def c_spec_DrawObjectiveValue : Con := fun args st => match args, st with
  | [.c (.imm (.int .u8) code)], [] => .opt ((List Int) × (List Int) × (List Int) × (List (Int × (List Int) × (List Int) × Int × (List (List Int))))) (spec_DrawObjectiveValue code) (fun r => .ret (.tup [.agg [.own 903 false, .own 904 false], .c (.own 901 false), .c (.own 902 false)]) [(900, .rc [.own 903 false, .own 904 false]), (901, .sl 3 (.int .i64) r.1 .shallow), (902, .sl 3 (.int .i64) r.2.1 .shallow), (903, .sl 3 (.int .i64) r.2.2.1 .shallow), (904, .sl 124 (.pair (.int .i64) (.pair (.sl (.int .i64)) (.pair (.sl (.int .i64)) (.pair (.int .i64) (.sl (.sl (.int .i64))))))) r.2.2.2 (.deep true .no))])
  | _, _ => .fail

noncomputable def C_spec_DrawObjectiveValue : Cfg := { y := tys, n := 22, h := 0, tab := [(94, c_spec_l17Open), (95, c_spec_l6Mutate), (96, c_spec_l6Model), (97, c_spec_l9Draw__rsd), (98, c_spec_l6DrawCells__rsd)], cut := [], hand := [(97, [1]), (98, [1])], good := [], deep := [], sched := [(4, (.first 1 (.first 2 (.alt 0 (.alt 3 (.alt 4 (.alt 5 (.first 6 (.first 7 .done)) .stop) .stop) .stop) (.alt 3 (.alt 0 (.alt 4 (.alt 5 (.first 6 (.first 7 .done)) .stop) .stop) (.alt 4 (.alt 0 (.alt 5 (.first 6 (.first 7 .done)) .stop) .stop) .stop)) .stop)))))] }

theorem t_spec_DrawObjectiveValue : TabOk Try.prog C_spec_DrawObjectiveValue := by
  refine tabOk_of ?_
  simp only [C_spec_DrawObjectiveValue, List.forall_mem_cons]
  exact ⟨k_spec_l17Open, k_spec_l6Mutate, k_spec_l6Model, k_spec_l9Draw__rsd, k_spec_l6DrawCells__rsd, fun p h => by cases h⟩

theorem k_spec_DrawObjectiveValue : Entry Try.prog 15 c_spec_DrawObjectiveValue := by
  refine entry_by (C := C_spec_DrawObjectiveValue) mixed tys_ok t_spec_DrawObjectiveValue (fn := Try.f15) (c := bd Try.f15) (by kernel_rfl) (by kernel_rfl) (by kernel_rfl) (by kernel_rfl) ?_
  intro args st k he
  unfold c_spec_DrawObjectiveValue at he
  split at he
  rotate_left
  · exact he.elim
  rename_i code
  have he : Ok (spec_DrawObjectiveValue code) (fun r => k (.tup [.agg [.own 903 false, .own 904 false], .c (.own 901 false), .c (.own 902 false)]) [(900, .rc [.own 903 false, .own 904 false]), (901, .sl 3 (.int .i64) r.1 .shallow), (902, .sl 3 (.int .i64) r.2.1 .shallow), (903, .sl 3 (.int .i64) r.2.2.1 .shallow), (904, .sl 124 (.pair (.int .i64) (.pair (.sl (.int .i64)) (.pair (.sl (.int .i64)) (.pair (.int .i64) (.sl (.sl (.int .i64))))))) r.2.2.2 (.deep true .no))]) := he
  refine ⟨rfl, rfl, ?_⟩
  obtain ⟨r1_, hr, he⟩ := ok_bind he
  refine ⟨r1_, hr, ?_⟩
  obtain ⟨r2_, hr, he⟩ := ok_bind he
  refine ⟨r2_, hr, ?_⟩
  obtain ⟨r3_, hr, he⟩ := ok_bind he
  refine ⟨r3_, hr, ?_⟩
  obtain ⟨r4_, hr, he⟩ := ok_bind he
  refine ⟨r4_, hr, ?_⟩
  refine And.intro (by kernel_rfl) ?_
  obtain ⟨r6_, hq1, he⟩ := ok_bind he
  refine And.intro ?_ (And.intro ?_ (trivial))
  · skip
    refine And.intro ?_ trivial
    refine And.intro ?_ trivial
    refine ⟨r6_, hq1, ?_⟩
    refine And.intro ?_ trivial
    have he := ok_some he
    exact ⟨rfl, _, _, (leads_ren [(900, 2), (901, 17900), (902, 22900), (903, 14901), (904, 14902)] (l := [(2, .c (.ptr 900 0)), (3, .c (.own 901 false)), (4, .c (.own 902 false))]) (st' := [(900, .rc [.own 903 false, .own 904 false]), (901, .sl 3 (.int .i64) r4_.2 .shallow), (902, .sl 3 (.int .i64) r6_.2 .shallow), (903, .sl 3 (.int .i64) r3_.2.1 .shallow), (904, .sl 124 (.pair (.int .i64) (.pair (.sl (.int .i64)) (.pair (.sl (.int .i64)) (.pair (.int .i64) (.sl (.sl (.int .i64))))))) r3_.2.2 (.deep true .no))]) rfl rfl ⟨⟨⟨⟨rfl, rfl⟩, trivial⟩, ⟨⟨rfl, rfl⟩, trivial⟩, trivial⟩, ⟨rfl, rfl⟩, ⟨rfl, rfl⟩, ⟨rfl, rfl⟩, ⟨rfl, rfl⟩, trivial⟩ ⟨⟨⟨rfl, rfl⟩, rfl⟩, ⟨⟨rfl, rfl⟩, trivial⟩, ⟨⟨rfl, rfl⟩, trivial⟩, trivial⟩), he⟩
  · skip
    refine And.intro ?_ (And.intro ?_ (trivial))
    · skip
      refine And.intro ?_ trivial
      refine ⟨r6_, hq1, ?_⟩
      refine And.intro ?_ trivial
      have he := ok_some he
      exact ⟨rfl, _, _, (leads_ren [(900, 2), (901, 17900), (902, 22900), (903, 14901), (904, 14902)] (l := [(2, .c (.ptr 900 0)), (3, .c (.own 901 false)), (4, .c (.own 902 false))]) (st' := [(900, .rc [.own 903 false, .own 904 false]), (901, .sl 3 (.int .i64) r4_.2 .shallow), (902, .sl 3 (.int .i64) r6_.2 .shallow), (903, .sl 3 (.int .i64) r3_.2.1 .shallow), (904, .sl 124 (.pair (.int .i64) (.pair (.sl (.int .i64)) (.pair (.sl (.int .i64)) (.pair (.int .i64) (.sl (.sl (.int .i64))))))) r3_.2.2 (.deep true .no))]) rfl rfl ⟨⟨⟨⟨rfl, rfl⟩, trivial⟩, ⟨⟨rfl, rfl⟩, trivial⟩, trivial⟩, ⟨rfl, rfl⟩, ⟨rfl, rfl⟩, ⟨rfl, rfl⟩, ⟨rfl, rfl⟩, trivial⟩ ⟨⟨⟨rfl, rfl⟩, rfl⟩, ⟨⟨rfl, rfl⟩, trivial⟩, ⟨⟨rfl, rfl⟩, trivial⟩, trivial⟩), he⟩
    · skip
      refine ⟨r6_, hq1, ?_⟩
      refine And.intro ?_ trivial
      refine And.intro ?_ trivial
      have he := ok_some he
      exact ⟨rfl, _, _, (leads_ren [(900, 2), (901, 17900), (902, 22900), (903, 14901), (904, 14902)] (l := [(2, .c (.ptr 900 0)), (3, .c (.own 901 false)), (4, .c (.own 902 false))]) (st' := [(900, .rc [.own 903 false, .own 904 false]), (901, .sl 3 (.int .i64) r4_.2 .shallow), (902, .sl 3 (.int .i64) r6_.2 .shallow), (903, .sl 3 (.int .i64) r3_.2.1 .shallow), (904, .sl 124 (.pair (.int .i64) (.pair (.sl (.int .i64)) (.pair (.sl (.int .i64)) (.pair (.int .i64) (.sl (.sl (.int .i64))))))) r3_.2.2 (.deep true .no))]) rfl rfl ⟨⟨⟨⟨rfl, rfl⟩, trivial⟩, ⟨⟨rfl, rfl⟩, trivial⟩, trivial⟩, ⟨rfl, rfl⟩, ⟨rfl, rfl⟩, ⟨rfl, rfl⟩, ⟨rfl, rfl⟩, trivial⟩ ⟨⟨⟨rfl, rfl⟩, rfl⟩, ⟨⟨rfl, rfl⟩, trivial⟩, ⟨⟨rfl, rfl⟩, trivial⟩, trivial⟩), he⟩

noncomputable def c_spec_DrawAtMostConstraint : Con := fun args st => match args, st with
  | [.c (.imm (.int .u8) code)], [] => .opt (Int × (List Int) × (List Int) × (List (Int × (List Int) × (List Int) × Int × (List (List Int))))) (spec_DrawAtMostConstraint code) (fun r => .ret (.tup [.agg [.own 902 false, .own 903 false], .c (.own 901 false), .c (.int .i64 r.1)]) [(900, .rc [.own 902 false, .own 903 false]), (901, .sl 3 (.int .i64) r.2.1 .shallow), (902, .sl 3 (.int .i64) r.2.2.1 .shallow), (903, .sl 124 (.pair (.int .i64) (.pair (.sl (.int .i64)) (.pair (.sl (.int .i64)) (.pair (.int .i64) (.sl (.sl (.int .i64))))))) r.2.2.2 (.deep true .no))])
  | _, _ => .fail

noncomputable def C_spec_DrawAtMostConstraint : Cfg := { y := tys, n := 22, h := 0, tab := [(94, c_spec_l17Open), (95, c_spec_l6Mutate), (96, c_spec_l6Model), (97, c_spec_l9Draw__rsd), (99, c_spec_l17Rd_num)], cut := [], hand := [(97, [1])], good := [], deep := [], sched := [(4, (.first 1 (.first 2 (.alt 0 (.alt 3 (.alt 4 (.alt 5 (.first 6 (.first 7 .done)) .stop) .stop) .stop) (.alt 3 (.alt 0 (.alt 4 (.alt 5 (.first 6 (.first 7 .done)) .stop) .stop) (.alt 4 (.alt 0 (.alt 5 (.first 6 (.first 7 .done)) .stop) .stop) .stop)) .stop)))))] }

theorem t_spec_DrawAtMostConstraint : TabOk Try.prog C_spec_DrawAtMostConstraint := by
  refine tabOk_of ?_
  simp only [C_spec_DrawAtMostConstraint, List.forall_mem_cons]
  exact ⟨k_spec_l17Open, k_spec_l6Mutate, k_spec_l6Model, k_spec_l9Draw__rsd, k_spec_l17Rd_num, fun p h => by cases h⟩

theorem k_spec_DrawAtMostConstraint : Entry Try.prog 16 c_spec_DrawAtMostConstraint := by
  refine entry_by (C := C_spec_DrawAtMostConstraint) mixed tys_ok t_spec_DrawAtMostConstraint (fn := Try.f16) (c := bd Try.f16) (by kernel_rfl) (by kernel_rfl) (by kernel_rfl) (by kernel_rfl) ?_
  intro args st k he
  unfold c_spec_DrawAtMostConstraint at he
  split at he
  rotate_left
  · exact he.elim
  rename_i code
  have he : Ok (spec_DrawAtMostConstraint code) (fun r => k (.tup [.agg [.own 902 false, .own 903 false], .c (.own 901 false), .c (.int .i64 r.1)]) [(900, .rc [.own 902 false, .own 903 false]), (901, .sl 3 (.int .i64) r.2.1 .shallow), (902, .sl 3 (.int .i64) r.2.2.1 .shallow), (903, .sl 124 (.pair (.int .i64) (.pair (.sl (.int .i64)) (.pair (.sl (.int .i64)) (.pair (.int .i64) (.sl (.sl (.int .i64))))))) r.2.2.2 (.deep true .no))]) := he
  refine ⟨rfl, rfl, ?_⟩
  obtain ⟨r1_, hr, he⟩ := ok_bind he
  refine ⟨r1_, hr, ?_⟩
  obtain ⟨r2_, hr, he⟩ := ok_bind he
  refine ⟨r2_, hr, ?_⟩
  obtain ⟨r3_, hr, he⟩ := ok_bind he
  refine ⟨r3_, hr, ?_⟩
  obtain ⟨r4_, hr, he⟩ := ok_bind he
  refine ⟨r4_, hr, ?_⟩
  refine And.intro (by kernel_rfl) ?_
  obtain ⟨r6_, hq1, he⟩ := ok_bind he
  refine And.intro ?_ (And.intro ?_ (trivial))
  · skip
    refine And.intro ?_ trivial
    refine And.intro ?_ trivial
    refine ⟨r6_, hq1, ?_⟩
    refine And.intro ?_ trivial
    have he := ok_some he
    exact ⟨rfl, _, _, (leads_ren [(900, 2), (901, 17900), (902, 14901), (903, 14902)] (l := [(2, .c (.ptr 900 0)), (3, .c (.own 901 false)), (4, .c (.int .i64 r6_.1))]) (st' := [(900, .rc [.own 902 false, .own 903 false]), (901, .sl 3 (.int .i64) r4_.2 .shallow), (902, .sl 3 (.int .i64) r3_.2.1 .shallow), (903, .sl 124 (.pair (.int .i64) (.pair (.sl (.int .i64)) (.pair (.sl (.int .i64)) (.pair (.int .i64) (.sl (.sl (.int .i64))))))) r3_.2.2 (.deep true .no))]) rfl rfl ⟨⟨⟨⟨rfl, rfl⟩, trivial⟩, ⟨⟨rfl, rfl⟩, trivial⟩, trivial⟩, ⟨rfl, rfl⟩, ⟨rfl, rfl⟩, ⟨rfl, rfl⟩, trivial⟩ ⟨⟨⟨rfl, rfl⟩, rfl⟩, ⟨⟨rfl, rfl⟩, trivial⟩, rfl, trivial⟩), he⟩
  · skip
    refine And.intro ?_ (And.intro ?_ (trivial))
    · skip
      refine And.intro ?_ trivial
      refine ⟨r6_, hq1, ?_⟩
      refine And.intro ?_ trivial
      have he := ok_some he
      exact ⟨rfl, _, _, (leads_ren [(900, 2), (901, 17900), (902, 14901), (903, 14902)] (l := [(2, .c (.ptr 900 0)), (3, .c (.own 901 false)), (4, .c (.int .i64 r6_.1))]) (st' := [(900, .rc [.own 902 false, .own 903 false]), (901, .sl 3 (.int .i64) r4_.2 .shallow), (902, .sl 3 (.int .i64) r3_.2.1 .shallow), (903, .sl 124 (.pair (.int .i64) (.pair (.sl (.int .i64)) (.pair (.sl (.int .i64)) (.pair (.int .i64) (.sl (.sl (.int .i64))))))) r3_.2.2 (.deep true .no))]) rfl rfl ⟨⟨⟨⟨rfl, rfl⟩, trivial⟩, ⟨⟨rfl, rfl⟩, trivial⟩, trivial⟩, ⟨rfl, rfl⟩, ⟨rfl, rfl⟩, ⟨rfl, rfl⟩, trivial⟩ ⟨⟨⟨rfl, rfl⟩, rfl⟩, ⟨⟨rfl, rfl⟩, trivial⟩, rfl, trivial⟩), he⟩
    · skip
      refine ⟨r6_, hq1, ?_⟩
      refine And.intro ?_ trivial
      refine And.intro ?_ trivial
      have he := ok_some he
      exact ⟨rfl, _, _, (leads_ren [(900, 2), (901, 17900), (902, 14901), (903, 14902)] (l := [(2, .c (.ptr 900 0)), (3, .c (.own 901 false)), (4, .c (.int .i64 r6_.1))]) (st' := [(900, .rc [.own 902 false, .own 903 false]), (901, .sl 3 (.int .i64) r4_.2 .shallow), (902, .sl 3 (.int .i64) r3_.2.1 .shallow), (903, .sl 124 (.pair (.int .i64) (.pair (.sl (.int .i64)) (.pair (.sl (.int .i64)) (.pair (.int .i64) (.sl (.sl (.int .i64))))))) r3_.2.2 (.deep true .no))]) rfl rfl ⟨⟨⟨⟨rfl, rfl⟩, trivial⟩, ⟨⟨rfl, rfl⟩, trivial⟩, trivial⟩, ⟨rfl, rfl⟩, ⟨rfl, rfl⟩, ⟨rfl, rfl⟩, trivial⟩ ⟨⟨⟨rfl, rfl⟩, rfl⟩, ⟨⟨rfl, rfl⟩, trivial⟩, rfl, trivial⟩), he⟩

noncomputable def c_impl_within : Con := fun args st => match args, st with
  | [.c (.int .i64 n), .c (.int .i64 low), .c (.int .i64 high)], [] => .opt (Bool) (impl_within n low high) (fun r => .ret (.c (.bool r)) [])
  | _, _ => .fail

noncomputable def C_impl_within : Cfg := { y := tys, n := 15, h := 0, tab := [], cut := [], hand := [], good := [], deep := [], sched := [] }

theorem t_impl_within : TabOk Try.prog C_impl_within := tabOk_of (fun p h => by cases h)

theorem k_impl_within : Entry Try.prog 101 c_impl_within := by
  refine entry_by (C := C_impl_within) mixed tys_ok t_impl_within (fn := Try.f101) (c := bd Try.f101) (by kernel_rfl) (by kernel_rfl) (by kernel_rfl) (by kernel_rfl) ?_
  intro args st k he
  unfold c_impl_within at he
  split at he
  rotate_left
  · exact he.elim
  rename_i n low high
  have he : Ok (impl_within n low high) (fun r => k (.c (.bool r)) []) := he
  refine ⟨rfl, rfl, ?_⟩
  refine And.intro (fun hb => ?_) (fun hb => ?_)
  · have he := ok_t he hb
    have he := ok_some he
    exact ⟨rfl, _, _, Leads.refl _ _, he⟩
  · have he := ok_f he hb
    have he := ok_some he
    exact ⟨rfl, _, _, Leads.refl _ _, he⟩

noncomputable def c_slices_Index_int : Con := fun args st => match args, st with
  | [.c (.imm (.int .i64) s_), .c (.int .i64 v)], [] => .opt (Int) (slices_Index_int s_ v) (fun r => .ret (.c (.int .i64 r)) [])
  | _, _ => .fail

noncomputable def C_slices_Index_int : Cfg := { y := tys, n := 19, h := 0, tab := [], cut := [], hand := [], good := [], deep := [], sched := [] }

theorem t_slices_Index_int : TabOk Try.prog C_slices_Index_int := tabOk_of (fun p h => by cases h)

theorem k_slices_Index_int : Entry Try.prog 262 c_slices_Index_int := by
  refine entry_by (C := C_slices_Index_int) mixed tys_ok t_slices_Index_int (fn := Try.f262) (c := bd Try.f262) (by kernel_rfl) (by kernel_rfl) (by kernel_rfl) (by kernel_rfl) ?_
  intro args st k he
  unfold c_slices_Index_int at he
  split at he
  rotate_left
  · exact he.elim
  rename_i s_ v
  have he : Ok (slices_Index_int s_ v) (fun r => k (.c (.int .i64 r)) []) := he
  refine ⟨rfl, rfl, ?_⟩
  refine loop_model mixed tys_ok t_slices_Index_int (S := Int) (I := (fun i => (envOf [(0, .c (.imm (.int .i64) s_)), (1, .c (.int .i64 v)), (7, .c (.int .i64 (s_.length:Int))), (8, .c (.int .i64 i))], []))) (f := slices_Index_int_l1 s_ v) (K := (fun r => k (.c (.int .i64 r)) [])) he (leads_ren [] (l := [(0, .c (.imm (.int .i64) s_)), (1, .c (.int .i64 v)), (7, .c (.int .i64 (s_.length:Int))), (8, .c (.int .i64 (0:Int)))]) (st' := []) rfl rfl trivial ⟨.inl rfl, rfl, rfl, rfl, trivial⟩) ?_
  rintro i J1 he
  refine And.intro (fun hb => ?_) (fun hb => ?_)
  · have he := ok_t he hb
    have he := ok_rq he
    refine And.intro he.1 ?_
    have he := he.2
    refine And.intro (fun hb => ?_) (fun hb => ?_)
    · have he := ok_t he hb
      have he := ok_some he
      exact ⟨rfl, _, _, Leads.refl _ _, he⟩
    · have he := ok_f he hb
      have he := ok_rq he
      refine And.intro he.1 ?_
      have he := he.2
      have he := ok_some he
      exact ⟨(i + (1:Int)), he, (leads_ren [] (l := [(0, .c (.imm (.int .i64) s_)), (1, .c (.int .i64 v)), (7, .c (.int .i64 (s_.length:Int))), (8, .c (.int .i64 (i + (1:Int))))]) (st' := []) rfl rfl trivial ⟨.inl rfl, rfl, rfl, rfl, trivial⟩)⟩
  · have he := ok_f he hb
    have he := ok_some he
    exact ⟨rfl, _, _, Leads.refl _ _, he⟩

noncomputable def c_slices_Contains_int : Con := fun args st => match args, st with
  | [.c (.imm (.int .i64) s_), .c (.int .i64 v)], [] => .opt (Bool) (slices_Contains_int s_ v) (fun r => .ret (.c (.bool r)) [])
  | _, _ => .fail

noncomputable def C_slices_Contains_int : Cfg := { y := tys, n := 9, h := 0, tab := [(262, c_slices_Index_int)], cut := [], hand := [], good := [], deep := [], sched := [] }

theorem t_slices_Contains_int : TabOk Try.prog C_slices_Contains_int := by
  refine tabOk_of ?_
  simp only [C_slices_Contains_int, List.forall_mem_cons]
  exact ⟨k_slices_Index_int, fun p h => by cases h⟩

theorem k_slices_Contains_int : Entry Try.prog 211 c_slices_Contains_int := by
  refine entry_by (C := C_slices_Contains_int) mixed tys_ok t_slices_Contains_int (fn := Try.f211) (c := bd Try.f211) (by kernel_rfl) (by kernel_rfl) (by kernel_rfl) (by kernel_rfl) ?_
  intro args st k he
  unfold c_slices_Contains_int at he
  split at he
  rotate_left
  · exact he.elim
  rename_i s_ v
  have he : Ok (slices_Contains_int s_ v) (fun r => k (.c (.bool r)) []) := he
  refine ⟨rfl, rfl, ?_⟩
  obtain ⟨r1_, hr, he⟩ := ok_bind he
  refine ⟨r1_, hr, ?_⟩
  have he := ok_some he
  exact ⟨rfl, _, _, Leads.refl _ _, he⟩

noncomputable def c_impl_ruleValid_1 : Con := fun args st => match args, st with
  | [.c (.int .i64 n)], [] => .opt (Bool) (impl_ruleValid_1 n) (fun r => .ret (.c (.bool r)) [])
  | _, _ => .fail

noncomputable def C_impl_ruleValid_1 : Cfg := { y := tys, n := 10, h := 0, tab := [(101, c_impl_within)], cut := [], hand := [], good := [], deep := [], sched := [] }

theorem t_impl_ruleValid_1 : TabOk Try.prog C_impl_ruleValid_1 := by
  refine tabOk_of ?_
  simp only [C_impl_ruleValid_1, List.forall_mem_cons]
  exact ⟨k_impl_within, fun p h => by cases h⟩

theorem k_impl_ruleValid_1 : Entry Try.prog 216 c_impl_ruleValid_1 := by
  refine entry_by (C := C_impl_ruleValid_1) mixed tys_ok t_impl_ruleValid_1 (fn := Try.f216) (c := bd Try.f216) (by kernel_rfl) (by kernel_rfl) (by kernel_rfl) (by kernel_rfl) ?_
  intro args st k he
  unfold c_impl_ruleValid_1 at he
  split at he
  rotate_left
  · exact he.elim
  rename_i n
  have he : Ok (impl_ruleValid_1 n) (fun r => k (.c (.bool r)) []) := he
  refine ⟨rfl, rfl, ?_⟩
  refine And.intro (fun hb => ?_) (fun hb => ?_)
  · have he := ok_f he hb
    obtain ⟨r1_, hr, he⟩ := ok_bind he
    refine ⟨r1_, hr, ?_⟩
    have he := ok_some he
    exact ⟨rfl, _, _, Leads.refl _ _, he⟩
  · have he := ok_t he hb
    have he := ok_some he
    exact ⟨rfl, _, _, Leads.refl _ _, he⟩

noncomputable def c_slices_IndexFunc_int__impl_ruleValid_1 : Con := fun args st => match args, st with
  | [.c (.imm (.int .i64) s_), .c (.fn 216 [])], [] => .opt (Int) (slices_IndexFunc_int__impl_ruleValid_1 s_) (fun r => .ret (.c (.int .i64 r)) [])
  | _, _ => .fail

noncomputable def C_slices_IndexFunc_int__impl_ruleValid_1 : Cfg := { y := tys, n := 19, h := 0, tab := [(216, c_impl_ruleValid_1)], cut := [], hand := [], good := [], deep := [], sched := [] }

theorem t_slices_IndexFunc_int__impl_ruleValid_1 : TabOk Try.prog C_slices_IndexFunc_int__impl_ruleValid_1 := by
  refine tabOk_of ?_
  simp only [C_slices_IndexFunc_int__impl_ruleValid_1, List.forall_mem_cons]
  exact ⟨k_impl_ruleValid_1, fun p h => by cases h⟩

theorem k_slices_IndexFunc_int__impl_ruleValid_1 : Entry Try.prog 237 c_slices_IndexFunc_int__impl_ruleValid_1 := by
  refine entry_by (C := C_slices_IndexFunc_int__impl_ruleValid_1) mixed tys_ok t_slices_IndexFunc_int__impl_ruleValid_1 (fn := Try.f237) (c := bd Try.f237) (by kernel_rfl) (by kernel_rfl) (by kernel_rfl) (by kernel_rfl) ?_
  intro args st k he
  unfold c_slices_IndexFunc_int__impl_ruleValid_1 at he
  split at he
  rotate_left
  · exact he.elim
  rename_i s_
  have he : Ok (slices_IndexFunc_int__impl_ruleValid_1 s_) (fun r => k (.c (.int .i64 r)) []) := he
  refine ⟨rfl, rfl, ?_⟩
  refine loop_model mixed tys_ok t_slices_IndexFunc_int__impl_ruleValid_1 (S := Int) (I := (fun i => (envOf [(0, .c (.imm (.int .i64) s_)), (1, .c (.fn 216 [])), (7, .c (.int .i64 (s_.length:Int))), (8, .c (.int .i64 i))], []))) (f := slices_IndexFunc_int__impl_ruleValid_1_l1 s_) (K := (fun r => k (.c (.int .i64 r)) [])) he (leads_ren [] (l := [(0, .c (.imm (.int .i64) s_)), (1, .c (.fn 216 [])), (7, .c (.int .i64 (s_.length:Int))), (8, .c (.int .i64 (0:Int)))]) (st' := []) rfl rfl trivial ⟨.inl rfl, ⟨rfl, trivial⟩, rfl, rfl, trivial⟩) ?_
  rintro i J1 he
  refine And.intro (fun hb => ?_) (fun hb => ?_)
  · have he := ok_t he hb
    have he := ok_rq he
    refine And.intro he.1 ?_
    have he := he.2
    obtain ⟨r1_, hr, he⟩ := ok_bind he
    refine ⟨r1_, hr, ?_⟩
    refine And.intro (fun hb => ?_) (fun hb => ?_)
    · have he := ok_t he hb
      have he := ok_some he
      exact ⟨rfl, _, _, Leads.refl _ _, he⟩
    · have he := ok_f he hb
      have he := ok_rq he
      refine And.intro he.1 ?_
      have he := he.2
      have he := ok_some he
      exact ⟨(i + (1:Int)), he, (leads_ren [] (l := [(0, .c (.imm (.int .i64) s_)), (1, .c (.fn 216 [])), (7, .c (.int .i64 (s_.length:Int))), (8, .c (.int .i64 (i + (1:Int))))]) (st' := []) rfl rfl trivial ⟨.inl rfl, ⟨rfl, trivial⟩, rfl, rfl, trivial⟩)⟩
  · have he := ok_f he hb
    have he := ok_some he
    exact ⟨rfl, _, _, Leads.refl _ _, he⟩

noncomputable def c_slices_ContainsFunc_int__impl_ruleValid_1 : Con := fun args st => match args, st with
  | [.c (.imm (.int .i64) s_), .c (.fn 216 [])], [] => .opt (Bool) (slices_ContainsFunc_int__impl_ruleValid_1 s_) (fun r => .ret (.c (.bool r)) [])
  | _, _ => .fail

noncomputable def C_slices_ContainsFunc_int__impl_ruleValid_1 : Cfg := { y := tys, n := 9, h := 0, tab := [(237, c_slices_IndexFunc_int__impl_ruleValid_1)], cut := [], hand := [], good := [], deep := [], sched := [] }

theorem t_slices_ContainsFunc_int__impl_ruleValid_1 : TabOk Try.prog C_slices_ContainsFunc_int__impl_ruleValid_1 := by
  refine tabOk_of ?_
  simp only [C_slices_ContainsFunc_int__impl_ruleValid_1, List.forall_mem_cons]
  exact ⟨k_slices_IndexFunc_int__impl_ruleValid_1, fun p h => by cases h⟩

theorem k_slices_ContainsFunc_int__impl_ruleValid_1 : Entry Try.prog 174 c_slices_ContainsFunc_int__impl_ruleValid_1 := by
  refine entry_by (C := C_slices_ContainsFunc_int__impl_ruleValid_1) mixed tys_ok t_slices_ContainsFunc_int__impl_ruleValid_1 (fn := Try.f174) (c := bd Try.f174) (by kernel_rfl) (by kernel_rfl) (by kernel_rfl) (by kernel_rfl) ?_
  intro args st k he
  unfold c_slices_ContainsFunc_int__impl_ruleValid_1 at he
  split at he
  rotate_left
  · exact he.elim
  rename_i s_
  have he : Ok (slices_ContainsFunc_int__impl_ruleValid_1 s_) (fun r => k (.c (.bool r)) []) := he
  refine ⟨rfl, rfl, ?_⟩
  obtain ⟨r1_, hr, he⟩ := ok_bind he
  refine ⟨r1_, hr, ?_⟩
  have he := ok_some he
  exact ⟨rfl, _, _, Leads.refl _ _, he⟩

noncomputable def c_impl_ruleValid_2_1 : Con := fun args st => match args, st with
  | [.c (.int .i64 n)], [] => .opt (Bool) (impl_ruleValid_2_1 n) (fun r => .ret (.c (.bool r)) [])
  | _, _ => .fail

noncomputable def C_impl_ruleValid_2_1 : Cfg := { y := tys, n := 6, h := 0, tab := [(101, c_impl_within)], cut := [], hand := [], good := [], deep := [], sched := [] }

theorem t_impl_ruleValid_2_1 : TabOk Try.prog C_impl_ruleValid_2_1 := by
  refine tabOk_of ?_
  simp only [C_impl_ruleValid_2_1, List.forall_mem_cons]
  exact ⟨k_impl_within, fun p h => by cases h⟩

theorem k_impl_ruleValid_2_1 : Entry Try.prog 219 c_impl_ruleValid_2_1 := by
  refine entry_by (C := C_impl_ruleValid_2_1) mixed tys_ok t_impl_ruleValid_2_1 (fn := Try.f219) (c := bd Try.f219) (by kernel_rfl) (by kernel_rfl) (by kernel_rfl) (by kernel_rfl) ?_
  intro args st k he
  unfold c_impl_ruleValid_2_1 at he
  split at he
  rotate_left
  · exact he.elim
  rename_i n
  have he : Ok (impl_ruleValid_2_1 n) (fun r => k (.c (.bool r)) []) := he
  refine ⟨rfl, rfl, ?_⟩
  obtain ⟨r1_, hr, he⟩ := ok_bind he
  refine ⟨r1_, hr, ?_⟩
  have he := ok_some he
  exact ⟨rfl, _, _, Leads.refl _ _, he⟩

noncomputable def c_slices_IndexFunc_int__impl_ruleValid_2_1 : Con := fun args st => match args, st with
  | [.c (.imm (.int .i64) s_), .c (.fn 219 [])], [] => .opt (Int) (slices_IndexFunc_int__impl_ruleValid_2_1 s_) (fun r => .ret (.c (.int .i64 r)) [])
  | _, _ => .fail

noncomputable def C_slices_IndexFunc_int__impl_ruleValid_2_1 : Cfg := { y := tys, n := 19, h := 0, tab := [(219, c_impl_ruleValid_2_1)], cut := [], hand := [], good := [], deep := [], sched := [] }

theorem t_slices_IndexFunc_int__impl_ruleValid_2_1 : TabOk Try.prog C_slices_IndexFunc_int__impl_ruleValid_2_1 := by
  refine tabOk_of ?_
  simp only [C_slices_IndexFunc_int__impl_ruleValid_2_1, List.forall_mem_cons]
  exact ⟨k_impl_ruleValid_2_1, fun p h => by cases h⟩

theorem k_slices_IndexFunc_int__impl_ruleValid_2_1 : Entry Try.prog 237 c_slices_IndexFunc_int__impl_ruleValid_2_1 := by
  refine entry_by (C := C_slices_IndexFunc_int__impl_ruleValid_2_1) mixed tys_ok t_slices_IndexFunc_int__impl_ruleValid_2_1 (fn := Try.f237) (c := bd Try.f237) (by kernel_rfl) (by kernel_rfl) (by kernel_rfl) (by kernel_rfl) ?_
  intro args st k he
  unfold c_slices_IndexFunc_int__impl_ruleValid_2_1 at he
  split at he
  rotate_left
  · exact he.elim
  rename_i s_
  have he : Ok (slices_IndexFunc_int__impl_ruleValid_2_1 s_) (fun r => k (.c (.int .i64 r)) []) := he
  refine ⟨rfl, rfl, ?_⟩
  refine loop_model mixed tys_ok t_slices_IndexFunc_int__impl_ruleValid_2_1 (S := Int) (I := (fun i => (envOf [(0, .c (.imm (.int .i64) s_)), (1, .c (.fn 219 [])), (7, .c (.int .i64 (s_.length:Int))), (8, .c (.int .i64 i))], []))) (f := slices_IndexFunc_int__impl_ruleValid_2_1_l1 s_) (K := (fun r => k (.c (.int .i64 r)) [])) he (leads_ren [] (l := [(0, .c (.imm (.int .i64) s_)), (1, .c (.fn 219 [])), (7, .c (.int .i64 (s_.length:Int))), (8, .c (.int .i64 (0:Int)))]) (st' := []) rfl rfl trivial ⟨.inl rfl, ⟨rfl, trivial⟩, rfl, rfl, trivial⟩) ?_
  rintro i J1 he
  refine And.intro (fun hb => ?_) (fun hb => ?_)
  · have he := ok_t he hb
    have he := ok_rq he
    refine And.intro he.1 ?_
    have he := he.2
    obtain ⟨r1_, hr, he⟩ := ok_bind he
    refine ⟨r1_, hr, ?_⟩
    refine And.intro (fun hb => ?_) (fun hb => ?_)
    · have he := ok_t he hb
      have he := ok_some he
      exact ⟨rfl, _, _, Leads.refl _ _, he⟩
    · have he := ok_f he hb
      have he := ok_rq he
      refine And.intro he.1 ?_
      have he := he.2
      have he := ok_some he
      exact ⟨(i + (1:Int)), he, (leads_ren [] (l := [(0, .c (.imm (.int .i64) s_)), (1, .c (.fn 219 [])), (7, .c (.int .i64 (s_.length:Int))), (8, .c (.int .i64 (i + (1:Int))))]) (st' := []) rfl rfl trivial ⟨.inl rfl, ⟨rfl, trivial⟩, rfl, rfl, trivial⟩)⟩
  · have he := ok_f he hb
    have he := ok_some he
    exact ⟨rfl, _, _, Leads.refl _ _, he⟩

end Go.AE.Y
