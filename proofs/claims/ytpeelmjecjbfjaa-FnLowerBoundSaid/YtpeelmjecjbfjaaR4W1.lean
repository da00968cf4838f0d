/-
  Walks: each function keeps the contract that its model gives. No conditions.
-/
import Derived.Test.YtpeelmjecjbfjaaR4Tab
import Derived.Test.YtpeelmjecjbfjaaR4M
namespace Go.AE.Y
open Go Go.AE Go.Proofs
set_option linter.unusedVariables false
set_option maxHeartbeats 2000000
set_option maxRecDepth 100000

noncomputable def c_spec_l17Open : Con := fun args st => match args, st with
  | [.c (.imm (.int .u8) code)], [] => .opt (((List Int) × Int)) (spec_l17Open code) (fun r => .ret (.c (.ptr 900 0)) [(900, .rc [.imm (.int .u8) r.1, .int .i64 r.2])])
  | _, _ => .fail

noncomputable def C_spec_l17Open : Cfg := { y := tys, n := 11, h := 0, tab := [], cut := [3], hand := [], good := [], deep := [], sched := [] }

theorem t_spec_l17Open : TabOk Try.prog C_spec_l17Open := tabOk_of (fun p h => by cases h)

theorem k_spec_l17Open : Entry Try.prog 94 c_spec_l17Open := by
  refine entry_by (C := C_spec_l17Open) mixed tys_ok t_spec_l17Open (fn := Try.f94) (c := bd Try.f94) (by kernel_rfl) (by kernel_rfl) (by kernel_rfl) (by kernel_rfl) ?_
  intro args st k he
  unfold c_spec_l17Open at he
  split at he
  rotate_left
  · exact he.elim
  rename_i code
  have he : Ok (spec_l17Open code) (fun r => k (.c (.ptr 900 0)) [(900, .rc [.imm (.int .u8) r.1, .int .i64 r.2])]) := he
  refine ⟨rfl, rfl, ?_⟩
  refine seq_model mixed tys_ok t_spec_l17Open (S := (List Int)) (I := (fun code1 => (envOf [(0, .c (.imm (.int .u8) code1))], []))) (B := fun s => Ok (spec_l17Open_j1 s) (fun r => k (.c (.ptr 900 0)) [(900, .rc [.imm (.int .u8) r.1, .int .i64 r.2])])) ?_ ?_
  · rintro code1 he
    have he := ok_some he
    exact ⟨rfl, _, _, (leads_ren [(900, 10)] (l := [(2, .c (.ptr 900 0))]) (st' := [(900, .rc [.imm (.int .u8) code1, .int .i64 (0:Int)])]) rfl rfl ⟨⟨.inl rfl, rfl, trivial⟩, trivial⟩ ⟨⟨⟨rfl, rfl⟩, rfl⟩, trivial⟩), he⟩
  · skip
    refine And.intro (fun hb => ?_) (fun hb => ?_)
    · have he := ok_t he hb
      have he := ok_rq he
      refine And.intro he.1 ?_
      have he := he.2
      exact ⟨(code.take (2000:Int).toNat), he, (leads_ren [] (l := [(0, .c (.imm (.int .u8) (code.take (2000:Int).toNat)))]) (st' := []) rfl rfl trivial ⟨.inl rfl, trivial⟩)⟩
    · have he := ok_f he hb
      exact ⟨code, he, (leads_ren [] (l := [(0, .c (.imm (.int .u8) code))]) (st' := []) rfl rfl trivial ⟨.inl rfl, trivial⟩)⟩

noncomputable def c_spec_l17Rd_pick : Con := fun args st => match args, st with
  | [.c (.ptr 0 0), .c (.int .i64 a1)], [(0, .rc [.imm (.int .u8) o0_0, .int .i64 o0_1])] => .opt (Int × ((List Int) × Int)) (spec_l17Rd_pick a1 (o0_0, o0_1)) (fun r => .ret (.c (.int .i64 r.1)) [(0, .rc [.imm (.int .u8) r.2.1, .int .i64 r.2.2])])
  | _, _ => .fail

noncomputable def C_spec_l17Rd_pick : Cfg := { y := tys, n := 99, h := 1, tab := [], cut := [], hand := [], good := [], deep := [], sched := [] }

theorem t_spec_l17Rd_pick : TabOk Try.prog C_spec_l17Rd_pick := tabOk_of (fun p h => by cases h)

theorem k_spec_l17Rd_pick : Entry Try.prog 166 c_spec_l17Rd_pick := by
  refine entry_by (C := C_spec_l17Rd_pick) mixed tys_ok t_spec_l17Rd_pick (fn := Try.f166) (c := bd Try.f166) (by kernel_rfl) (by kernel_rfl) (by kernel_rfl) (by kernel_rfl) ?_
  intro args st k he
  unfold c_spec_l17Rd_pick at he
  split at he
  rotate_left
  · exact he.elim
  rename_i a1 o0_0 o0_1
  have he : Ok (spec_l17Rd_pick a1 (o0_0, o0_1)) (fun r => k (.c (.int .i64 r.1)) [(0, .rc [.imm (.int .u8) r.2.1, .int .i64 r.2.2])]) := he
  refine ⟨rfl, rfl, ?_⟩
  have he := ok_rq he
  refine And.intro he.1 ?_
  have he := he.2
  refine And.intro (fun hb => ?_) (fun hb => ?_)
  · have he := ok_f he hb
    refine And.intro (fun hb => ?_) (fun hb => ?_)
    · have he := ok_t he hb
      have he := ok_some he
      exact ⟨rfl, _, _, (leads_ren [] (l := [(4, .c (.int .i64 (0:Int)))]) (st' := [(0, .rc [.imm (.int .u8) (o0_0, o0_1).1, .int .i64 ((o0_0, o0_1).2 + (1:Int))])]) rfl rfl ⟨⟨.inl rfl, rfl, trivial⟩, trivial⟩ ⟨rfl, trivial⟩), he⟩
    · have he := ok_f he hb
      have he := ok_rq he
      refine And.intro he.1 ?_
      have he := he.2
      refine And.intro (fun hb => ?_) (fun hb => ?_)
      · have he := ok_t he hb
        have he := ok_rq he
        refine And.intro he.1 ?_
        have he := he.2
        refine fun _ => ?_
        have he := ok_rq he
        refine And.intro he.1 ?_
        have he := he.2
        have he := ok_rq he
        refine And.intro he.1 ?_
        have he := he.2
        have he := ok_some he
        exact ⟨rfl, _, _, (leads_ren [] (l := [(4, .c (.int .i64 (((o0_0, o0_1).1.getD (((o0_0, o0_1).2 + (1:Int)) - (1:Int)).toNat 0) % a1)))]) (st' := [(0, .rc [.imm (.int .u8) (o0_0, o0_1).1, .int .i64 ((o0_0, o0_1).2 + (1:Int))])]) rfl rfl ⟨⟨.inl rfl, rfl, trivial⟩, trivial⟩ ⟨rfl, trivial⟩), he⟩
      · have he := ok_f he hb
        refine And.intro (by kernel_rfl) ?_
        have he := ok_rq he
        refine And.intro he.1 ?_
        have he := he.2
        have he := ok_rq he
        refine And.intro he.1 ?_
        have he := he.2
        refine fun _ => ?_
        have he := ok_rq he
        refine And.intro he.1 ?_
        have he := he.2
        have he := ok_rq he
        refine And.intro he.1 ?_
        have he := he.2
        have he := ok_rq he
        refine And.intro he.1 ?_
        have he := he.2
        have he := ok_rq he
        refine And.intro he.1 ?_
        have he := he.2
        have he := ok_rq he
        refine And.intro he.1 ?_
        have he := he.2
        have he := ok_rq he
        refine And.intro he.1 ?_
        have he := he.2
        refine fun _ => ?_
        have he := ok_rq he
        refine And.intro he.1 ?_
        have he := he.2
        have he := ok_rq he
        refine And.intro he.1 ?_
        have he := he.2
        have he := ok_rq he
        refine And.intro he.1 ?_
        have he := he.2
        have he := ok_rq he
        refine And.intro he.1 ?_
        have he := he.2
        have he := ok_rq he
        refine And.intro he.1 ?_
        have he := he.2
        have he := ok_rq he
        refine And.intro he.1 ?_
        have he := he.2
        have he := ok_rq he
        refine And.intro he.1 ?_
        have he := he.2
        have he := ok_rq he
        refine And.intro he.1 ?_
        have he := he.2
        have he := ok_rq he
        refine And.intro he.1 ?_
        have he := he.2
        have he := ok_rq he
        refine And.intro he.1 ?_
        have he := he.2
        have he := ok_rq he
        refine And.intro he.1 ?_
        have he := he.2
        have he := ok_some he
        exact ⟨rfl, _, _, (leads_ren [] (l := [(4, .c (.int .i64 (((((((((o0_0, o0_1).1.getD ((((o0_0, o0_1).2 + (1:Int)) - (1:Int)) % ((o0_0, o0_1).1.length:Int)).toNat 0) * (131:Int)) + (((o0_0, o0_1).1.getD ((((((o0_0, o0_1).2 + (1:Int)) - (1:Int)) * (7:Int)) + (3:Int)) % ((o0_0, o0_1).1.length:Int)).toNat 0) * (1117:Int))) + ((((o0_0, o0_1).2 + (1:Int)) - (1:Int)) * (29:Int))) + (((((o0_0, o0_1).2 + (1:Int)) - (1:Int)) / ((o0_0, o0_1).1.length:Int)) * (53:Int))).toNat ^^^ (((((((o0_0, o0_1).1.getD ((((o0_0, o0_1).2 + (1:Int)) - (1:Int)) % ((o0_0, o0_1).1.length:Int)).toNat 0) * (131:Int)) + (((o0_0, o0_1).1.getD ((((((o0_0, o0_1).2 + (1:Int)) - (1:Int)) * (7:Int)) + (3:Int)) % ((o0_0, o0_1).1.length:Int)).toNat 0) * (1117:Int))) + ((((o0_0, o0_1).2 + (1:Int)) - (1:Int)) * (29:Int))) + (((((o0_0, o0_1).2 + (1:Int)) - (1:Int)) / ((o0_0, o0_1).1.length:Int)) * (53:Int))) / (64:Int)).toNat : Nat) : Int) % a1)))]) (st' := [(0, .rc [.imm (.int .u8) (o0_0, o0_1).1, .int .i64 ((o0_0, o0_1).2 + (1:Int))])]) rfl rfl ⟨⟨.inl rfl, rfl, trivial⟩, trivial⟩ ⟨rfl, trivial⟩), he⟩
  · have he := ok_t he hb
    have he := ok_some he
    exact ⟨rfl, _, _, (leads_ren [] (l := [(4, .c (.int .i64 (0:Int)))]) (st' := [(0, .rc [.imm (.int .u8) (o0_0, o0_1).1, .int .i64 ((o0_0, o0_1).2 + (1:Int))])]) rfl rfl ⟨⟨.inl rfl, rfl, trivial⟩, trivial⟩ ⟨rfl, trivial⟩), he⟩

noncomputable def c_spec_l17Rd_num : Con := fun args st => match args, st with
  | [.c (.ptr 0 0), .c (.imm (.int .i64) list_)], [(0, .rc [.imm (.int .u8) r__0, .int .i64 r__1])] => .opt (Int × ((List Int) × Int)) (spec_l17Rd_num list_ (r__0, r__1)) (fun r => .ret (.c (.int .i64 r.1)) [(0, .rc [.imm (.int .u8) r.2.1, .int .i64 r.2.2])])
  | _, _ => .fail

noncomputable def C_spec_l17Rd_num : Cfg := { y := tys, n := 12, h := 1, tab := [(166, c_spec_l17Rd_pick)], cut := [], hand := [], good := [], deep := [], sched := [] }

theorem t_spec_l17Rd_num : TabOk Try.prog C_spec_l17Rd_num := by
  refine tabOk_of ?_
  simp only [C_spec_l17Rd_num, List.forall_mem_cons]
  exact ⟨k_spec_l17Rd_pick, fun p h => by cases h⟩

theorem k_spec_l17Rd_num : Entry Try.prog 99 c_spec_l17Rd_num := by
  refine entry_by (C := C_spec_l17Rd_num) mixed tys_ok t_spec_l17Rd_num (fn := Try.f99) (c := bd Try.f99) (by kernel_rfl) (by kernel_rfl) (by kernel_rfl) (by kernel_rfl) ?_
  intro args st k he
  unfold c_spec_l17Rd_num at he
  split at he
  rotate_left
  · exact he.elim
  rename_i list_ r__0 r__1
  have he : Ok (spec_l17Rd_num list_ (r__0, r__1)) (fun r => k (.c (.int .i64 r.1)) [(0, .rc [.imm (.int .u8) r.2.1, .int .i64 r.2.2])]) := he
  refine ⟨rfl, rfl, ?_⟩
  obtain ⟨r1_, hr, he⟩ := ok_bind he
  refine ⟨r1_, hr, ?_⟩
  have he := ok_rq he
  refine And.intro he.1 ?_
  have he := he.2
  have he := ok_some he
  exact ⟨rfl, _, _, (leads_ren [] (l := [(4, .c (.int .i64 (list_.getD r1_.1.toNat 0)))]) (st' := [(0, .rc [.imm (.int .u8) r1_.2.1, .int .i64 r1_.2.2])]) rfl rfl ⟨⟨.inl rfl, rfl, trivial⟩, trivial⟩ ⟨rfl, trivial⟩), he⟩

noncomputable def c_spec_l6Some__rsd : Con := fun args st => match args, st with
  | [.c (.ptr 0 0), .agg [.own 1 false, .own 2 false], .c (.int .i64 a2)], [(0, .rc [.imm (.int .u8) o0_0, .int .i64 o0_1]), (1, .sl 3 (.int .i64) o1 .shallow), (2, .sl 124 (.pair (.int .i64) (.pair (.sl (.int .i64)) (.pair (.sl (.int .i64)) (.pair (.int .i64) (.sl (.sl (.int .i64))))))) o2 (.deep true .no))] => .opt (((List Int) × Int) × (List Int)) (spec_l6Some__rsd a2 (o0_0, o0_1) o1 o2) (fun r => .ret (.c (.own 900 false)) [(0, .rc [.imm (.int .u8) r.1.1, .int .i64 r.1.2]), (1, .sl 3 (.int .i64) o1 .shallow), (2, .sl 124 (.pair (.int .i64) (.pair (.sl (.int .i64)) (.pair (.sl (.int .i64)) (.pair (.int .i64) (.sl (.sl (.int .i64))))))) o2 (.deep true .no)), (900, .sl 3 (.int .i64) r.2 .shallow)])
  | _, _ => .fail

noncomputable def C_spec_l6Some__rsd : Cfg := { y := tys, n := 96, h := 3, tab := [(166, c_spec_l17Rd_pick)], cut := [7, 12, 18], hand := [], good := [], deep := [], sched := [] }

theorem t_spec_l6Some__rsd : TabOk Try.prog C_spec_l6Some__rsd := by
  refine tabOk_of ?_
  simp only [C_spec_l6Some__rsd, List.forall_mem_cons]
  exact ⟨k_spec_l17Rd_pick, fun p h => by cases h⟩

theorem k_spec_l6Some__rsd : Entry Try.prog 259 c_spec_l6Some__rsd := by
  refine entry_by (C := C_spec_l6Some__rsd) mixed tys_ok t_spec_l6Some__rsd (fn := Try.f259) (c := bd Try.f259) (by kernel_rfl) (by kernel_rfl) (by kernel_rfl) (by kernel_rfl) ?_
  intro args st k he
  unfold c_spec_l6Some__rsd at he
  split at he
  rotate_left
  · exact he.elim
  rename_i a2 o0_0 o0_1 o1 o2
  have he : Ok (spec_l6Some__rsd a2 (o0_0, o0_1) o1 o2) (fun r => k (.c (.own 900 false)) [(0, .rc [.imm (.int .u8) r.1.1, .int .i64 r.1.2]), (1, .sl 3 (.int .i64) o1 .shallow), (2, .sl 124 (.pair (.int .i64) (.pair (.sl (.int .i64)) (.pair (.sl (.int .i64)) (.pair (.int .i64) (.sl (.sl (.int .i64))))))) o2 (.deep true .no)), (900, .sl 3 (.int .i64) r.2 .shallow)]) := he
  refine ⟨rfl, rfl, ?_⟩
  refine seq_model mixed tys_ok t_spec_l6Some__rsd (S := ((List Int) × Int) × (List Int)) (I := (fun (i3, i4) => (envOf [(0, .c (.ptr 0 0)), (2, .c (.int .i64 a2)), (4, .c (.ptr 10001000 0)), (7, .c (.own 10001001 false))], [(0, .rc [.imm (.int .u8) i3.1, .int .i64 i3.2]), (1, .sl 3 (.int .i64) o1 .shallow), (2, .sl 124 (.pair (.int .i64) (.pair (.sl (.int .i64)) (.pair (.sl (.int .i64)) (.pair (.int .i64) (.sl (.sl (.int .i64))))))) o2 (.deep true .no)), (10001000, .rc [.own 1 false, .own 2 false]), (10001001, .sl 3 (.int .i64) i4 .shallow)]))) (B := fun s => Ok (spec_l6Some__rsd_j1 a2 o1 s) (fun r => k (.c (.own 900 false)) [(0, .rc [.imm (.int .u8) r.1.1, .int .i64 r.1.2]), (1, .sl 3 (.int .i64) o1 .shallow), (2, .sl 124 (.pair (.int .i64) (.pair (.sl (.int .i64)) (.pair (.sl (.int .i64)) (.pair (.int .i64) (.sl (.sl (.int .i64))))))) o2 (.deep true .no)), (900, .sl 3 (.int .i64) r.2 .shallow)])) ?_ ?_
  · rintro ⟨i3, i4⟩ he
    refine seq_model mixed tys_ok t_spec_l6Some__rsd (S := (List Int)) (I := (fun i7 => (envOf [(0, .c (.ptr 0 0)), (2, .c (.int .i64 a2)), (7, .c (.own 10003000 false))], [(0, .rc [.imm (.int .u8) i3.1, .int .i64 i3.2]), (1, .sl 3 (.int .i64) o1 .shallow), (2, .sl 124 (.pair (.int .i64) (.pair (.sl (.int .i64)) (.pair (.sl (.int .i64)) (.pair (.int .i64) (.sl (.sl (.int .i64))))))) o2 (.deep true .no)), (10003000, .sl 3 (.int .i64) i7 .shallow)]))) (B := fun s => Ok (spec_l6Some__rsd_j2 a2 i3 s) (fun r => k (.c (.own 900 false)) [(0, .rc [.imm (.int .u8) r.1.1, .int .i64 r.1.2]), (1, .sl 3 (.int .i64) o1 .shallow), (2, .sl 124 (.pair (.int .i64) (.pair (.sl (.int .i64)) (.pair (.sl (.int .i64)) (.pair (.int .i64) (.sl (.sl (.int .i64))))))) o2 (.deep true .no)), (900, .sl 3 (.int .i64) r.2 .shallow)])) ?_ ?_
    · rintro i7 he
      refine seq_model mixed tys_ok t_spec_l6Some__rsd (S := (List Int)) (I := (fun i12 => (envOf [(0, .c (.ptr 0 0)), (7, .c (.own 10006000 false))], [(0, .rc [.imm (.int .u8) i3.1, .int .i64 i3.2]), (1, .sl 3 (.int .i64) o1 .shallow), (2, .sl 124 (.pair (.int .i64) (.pair (.sl (.int .i64)) (.pair (.sl (.int .i64)) (.pair (.int .i64) (.sl (.sl (.int .i64))))))) o2 (.deep true .no)), (10006000, .sl 3 (.int .i64) i12 .shallow)]))) (B := fun s => Ok (spec_l6Some__rsd_j3 i3 s) (fun r => k (.c (.own 900 false)) [(0, .rc [.imm (.int .u8) r.1.1, .int .i64 r.1.2]), (1, .sl 3 (.int .i64) o1 .shallow), (2, .sl 124 (.pair (.int .i64) (.pair (.sl (.int .i64)) (.pair (.sl (.int .i64)) (.pair (.int .i64) (.sl (.sl (.int .i64))))))) o2 (.deep true .no)), (900, .sl 3 (.int .i64) r.2 .shallow)])) ?_ ?_
      · rintro i12 he
        refine And.intro (fun hb => ?_) (fun hb => ?_)
        · have he := ok_t he hb
          obtain ⟨r3_, hr, he⟩ := ok_bind he
          refine ⟨r3_, hr, ?_⟩
          refine And.intro (fun hb => ?_) (fun hb => ?_)
          · have he := ok_t he hb
            have he := ok_rq he
            refine And.intro he.1 ?_
            have he := he.2
            have he := ok_rq he
            refine And.intro he.1 ?_
            have he := he.2
            have he := ok_rq he
            refine And.intro he.1 ?_
            have he := he.2
            have he := ok_rq he
            refine And.intro he.1 ?_
            have he := he.2
            have he := ok_some he
            exact ⟨rfl, _, _, (leads_ren [(900, 10006000)] (l := [(6, .c (.own 900 false))]) (st' := [(0, .rc [.imm (.int .u8) r3_.2.1, .int .i64 r3_.2.2]), (1, .sl 3 (.int .i64) o1 .shallow), (2, .sl 124 (.pair (.int .i64) (.pair (.sl (.int .i64)) (.pair (.sl (.int .i64)) (.pair (.int .i64) (.sl (.sl (.int .i64))))))) o2 (.deep true .no)), (900, .sl 3 (.int .i64) ((i12.set (0:Int).toNat (i12.getD (1:Int).toNat 0)).set (1:Int).toNat (i12.getD (0:Int).toNat 0)) .shallow)]) rfl rfl ⟨⟨.inl rfl, rfl, trivial⟩, ⟨rfl, rfl⟩, ⟨rfl, rfl⟩, ⟨rfl, rfl⟩, trivial⟩ ⟨⟨⟨rfl, rfl⟩, trivial⟩, trivial⟩), he⟩
          · have he := ok_f he hb
            have he := ok_some he
            exact ⟨rfl, _, _, (leads_ren [(900, 10006000)] (l := [(6, .c (.own 900 false))]) (st' := [(0, .rc [.imm (.int .u8) r3_.2.1, .int .i64 r3_.2.2]), (1, .sl 3 (.int .i64) o1 .shallow), (2, .sl 124 (.pair (.int .i64) (.pair (.sl (.int .i64)) (.pair (.sl (.int .i64)) (.pair (.int .i64) (.sl (.sl (.int .i64))))))) o2 (.deep true .no)), (900, .sl 3 (.int .i64) i12 .shallow)]) rfl rfl ⟨⟨.inl rfl, rfl, trivial⟩, ⟨rfl, rfl⟩, ⟨rfl, rfl⟩, ⟨rfl, rfl⟩, trivial⟩ ⟨⟨⟨rfl, rfl⟩, trivial⟩, trivial⟩), he⟩
        · have he := ok_f he hb
          have he := ok_some he
          exact ⟨rfl, _, _, (leads_ren [(900, 10006000)] (l := [(6, .c (.own 900 false))]) (st' := [(0, .rc [.imm (.int .u8) i3.1, .int .i64 i3.2]), (1, .sl 3 (.int .i64) o1 .shallow), (2, .sl 124 (.pair (.int .i64) (.pair (.sl (.int .i64)) (.pair (.sl (.int .i64)) (.pair (.int .i64) (.sl (.sl (.int .i64))))))) o2 (.deep true .no)), (900, .sl 3 (.int .i64) i12 .shallow)]) rfl rfl ⟨⟨.inl rfl, rfl, trivial⟩, ⟨rfl, rfl⟩, ⟨rfl, rfl⟩, ⟨rfl, rfl⟩, trivial⟩ ⟨⟨⟨rfl, rfl⟩, trivial⟩, trivial⟩), he⟩
      · skip
        refine And.intro (fun hb => ?_) (fun hb => ?_)
        · have he := ok_f he hb
          refine And.intro (fun hb => ?_) (fun hb => ?_)
          · have he := ok_t he hb
            refine loop_model mixed tys_ok t_spec_l6Some__rsd (S := Int × (List Int)) (I := (fun (i8, i9) => (envOf [(0, .c (.ptr 0 0)), (2, .c (.int .i64 a2)), (7, .c (.own 10004000 false)), (10, .c (.int .i64 i8))], [(0, .rc [.imm (.int .u8) i3.1, .int .i64 i3.2]), (1, .sl 3 (.int .i64) o1 .shallow), (2, .sl 124 (.pair (.int .i64) (.pair (.sl (.int .i64)) (.pair (.sl (.int .i64)) (.pair (.int .i64) (.sl (.sl (.int .i64))))))) o2 (.deep true .no)), (10004000, .sl 3 (.int .i64) i9 .shallow)]))) (f := spec_l6Some__rsd_l2 a2 i3) (K := (fun r => k (.c (.own 900 false)) [(0, .rc [.imm (.int .u8) r.1.1, .int .i64 r.1.2]), (1, .sl 3 (.int .i64) o1 .shallow), (2, .sl 124 (.pair (.int .i64) (.pair (.sl (.int .i64)) (.pair (.sl (.int .i64)) (.pair (.int .i64) (.sl (.sl (.int .i64))))))) o2 (.deep true .no)), (900, .sl 3 (.int .i64) r.2 .shallow)])) he (leads_ren [(10004000, 66)] (l := [(0, .c (.ptr 0 0)), (2, .c (.int .i64 a2)), (7, .c (.own 10004000 false)), (10, .c (.int .i64 (0:Int)))]) (st' := [(0, .rc [.imm (.int .u8) i3.1, .int .i64 i3.2]), (1, .sl 3 (.int .i64) o1 .shallow), (2, .sl 124 (.pair (.int .i64) (.pair (.sl (.int .i64)) (.pair (.sl (.int .i64)) (.pair (.int .i64) (.sl (.sl (.int .i64))))))) o2 (.deep true .no)), (10004000, .sl 3 (.int .i64) ([] : List Int) .shallow)]) rfl rfl ⟨⟨.inl rfl, rfl, trivial⟩, ⟨rfl, rfl⟩, ⟨rfl, rfl⟩, ⟨rfl, rfl⟩, trivial⟩ ⟨⟨⟨rfl, rfl⟩, rfl⟩, rfl, ⟨⟨rfl, rfl⟩, trivial⟩, rfl, trivial⟩) ?_
            rintro ⟨i8, i9⟩ J1 he
            refine And.intro (fun hb => ?_) (fun hb => ?_)
            · have he := ok_t he hb
              have he := ok_rq he
              refine And.intro he.1 ?_
              have he := he.2
              have he := ok_rq he
              refine And.intro he.1 ?_
              have he := he.2
              have he := ok_some he
              exact ⟨((i8 + (1:Int)), (i9 ++ [i8])), he, (leads_ren [(10004000, 75)] (l := [(0, .c (.ptr 0 0)), (2, .c (.int .i64 a2)), (7, .c (.own 10004000 false)), (10, .c (.int .i64 (i8 + (1:Int))))]) (st' := [(0, .rc [.imm (.int .u8) i3.1, .int .i64 i3.2]), (1, .sl 3 (.int .i64) o1 .shallow), (2, .sl 124 (.pair (.int .i64) (.pair (.sl (.int .i64)) (.pair (.sl (.int .i64)) (.pair (.int .i64) (.sl (.sl (.int .i64))))))) o2 (.deep true .no)), (10004000, .sl 3 (.int .i64) (i9 ++ [i8]) .shallow)]) rfl rfl ⟨⟨.inl rfl, rfl, trivial⟩, ⟨rfl, rfl⟩, ⟨rfl, rfl⟩, ⟨rfl, rfl⟩, trivial⟩ ⟨⟨⟨rfl, rfl⟩, rfl⟩, rfl, ⟨⟨rfl, rfl⟩, trivial⟩, rfl, trivial⟩)⟩
            · have he := ok_f he hb
              exact ⟨i9, ok_up he, (leads_ren [(10006000, 10004000)] (l := [(0, .c (.ptr 0 0)), (7, .c (.own 10006000 false))]) (st' := [(0, .rc [.imm (.int .u8) i3.1, .int .i64 i3.2]), (1, .sl 3 (.int .i64) o1 .shallow), (2, .sl 124 (.pair (.int .i64) (.pair (.sl (.int .i64)) (.pair (.sl (.int .i64)) (.pair (.int .i64) (.sl (.sl (.int .i64))))))) o2 (.deep true .no)), (10006000, .sl 3 (.int .i64) i9 .shallow)]) rfl rfl ⟨⟨.inl rfl, rfl, trivial⟩, ⟨rfl, rfl⟩, ⟨rfl, rfl⟩, ⟨rfl, rfl⟩, trivial⟩ ⟨⟨⟨rfl, rfl⟩, rfl⟩, ⟨⟨rfl, rfl⟩, trivial⟩, trivial⟩)⟩
          · have he := ok_f he hb
            exact ⟨i7, he, (leads_ren [(10006000, 10003000)] (l := [(0, .c (.ptr 0 0)), (7, .c (.own 10006000 false))]) (st' := [(0, .rc [.imm (.int .u8) i3.1, .int .i64 i3.2]), (1, .sl 3 (.int .i64) o1 .shallow), (2, .sl 124 (.pair (.int .i64) (.pair (.sl (.int .i64)) (.pair (.sl (.int .i64)) (.pair (.int .i64) (.sl (.sl (.int .i64))))))) o2 (.deep true .no)), (10006000, .sl 3 (.int .i64) i7 .shallow)]) rfl rfl ⟨⟨.inl rfl, rfl, trivial⟩, ⟨rfl, rfl⟩, ⟨rfl, rfl⟩, ⟨rfl, rfl⟩, trivial⟩ ⟨⟨⟨rfl, rfl⟩, rfl⟩, ⟨⟨rfl, rfl⟩, trivial⟩, trivial⟩)⟩
        · have he := ok_t he hb
          refine loop_model mixed tys_ok t_spec_l6Some__rsd (S := Int × (List Int)) (I := (fun (i10, i11) => (envOf [(0, .c (.ptr 0 0)), (2, .c (.int .i64 a2)), (7, .c (.own 10005000 false)), (10, .c (.int .i64 i10))], [(0, .rc [.imm (.int .u8) i3.1, .int .i64 i3.2]), (1, .sl 3 (.int .i64) o1 .shallow), (2, .sl 124 (.pair (.int .i64) (.pair (.sl (.int .i64)) (.pair (.sl (.int .i64)) (.pair (.int .i64) (.sl (.sl (.int .i64))))))) o2 (.deep true .no)), (10005000, .sl 3 (.int .i64) i11 .shallow)]))) (f := spec_l6Some__rsd_l1 a2 i3) (K := (fun r => k (.c (.own 900 false)) [(0, .rc [.imm (.int .u8) r.1.1, .int .i64 r.1.2]), (1, .sl 3 (.int .i64) o1 .shallow), (2, .sl 124 (.pair (.int .i64) (.pair (.sl (.int .i64)) (.pair (.sl (.int .i64)) (.pair (.int .i64) (.sl (.sl (.int .i64))))))) o2 (.deep true .no)), (900, .sl 3 (.int .i64) r.2 .shallow)])) he (leads_ren [(10005000, 66)] (l := [(0, .c (.ptr 0 0)), (2, .c (.int .i64 a2)), (7, .c (.own 10005000 false)), (10, .c (.int .i64 (0:Int)))]) (st' := [(0, .rc [.imm (.int .u8) i3.1, .int .i64 i3.2]), (1, .sl 3 (.int .i64) o1 .shallow), (2, .sl 124 (.pair (.int .i64) (.pair (.sl (.int .i64)) (.pair (.sl (.int .i64)) (.pair (.int .i64) (.sl (.sl (.int .i64))))))) o2 (.deep true .no)), (10005000, .sl 3 (.int .i64) ([] : List Int) .shallow)]) rfl rfl ⟨⟨.inl rfl, rfl, trivial⟩, ⟨rfl, rfl⟩, ⟨rfl, rfl⟩, ⟨rfl, rfl⟩, trivial⟩ ⟨⟨⟨rfl, rfl⟩, rfl⟩, rfl, ⟨⟨rfl, rfl⟩, trivial⟩, rfl, trivial⟩) ?_
          rintro ⟨i10, i11⟩ J1 he
          refine And.intro (fun hb => ?_) (fun hb => ?_)
          · have he := ok_t he hb
            have he := ok_rq he
            refine And.intro he.1 ?_
            have he := he.2
            have he := ok_rq he
            refine And.intro he.1 ?_
            have he := he.2
            have he := ok_some he
            exact ⟨((i10 + (1:Int)), (i11 ++ [i10])), he, (leads_ren [(10005000, 75)] (l := [(0, .c (.ptr 0 0)), (2, .c (.int .i64 a2)), (7, .c (.own 10005000 false)), (10, .c (.int .i64 (i10 + (1:Int))))]) (st' := [(0, .rc [.imm (.int .u8) i3.1, .int .i64 i3.2]), (1, .sl 3 (.int .i64) o1 .shallow), (2, .sl 124 (.pair (.int .i64) (.pair (.sl (.int .i64)) (.pair (.sl (.int .i64)) (.pair (.int .i64) (.sl (.sl (.int .i64))))))) o2 (.deep true .no)), (10005000, .sl 3 (.int .i64) (i11 ++ [i10]) .shallow)]) rfl rfl ⟨⟨.inl rfl, rfl, trivial⟩, ⟨rfl, rfl⟩, ⟨rfl, rfl⟩, ⟨rfl, rfl⟩, trivial⟩ ⟨⟨⟨rfl, rfl⟩, rfl⟩, rfl, ⟨⟨rfl, rfl⟩, trivial⟩, rfl, trivial⟩)⟩
          · have he := ok_f he hb
            exact ⟨i11, ok_up he, (leads_ren [(10006000, 10005000)] (l := [(0, .c (.ptr 0 0)), (7, .c (.own 10006000 false))]) (st' := [(0, .rc [.imm (.int .u8) i3.1, .int .i64 i3.2]), (1, .sl 3 (.int .i64) o1 .shallow), (2, .sl 124 (.pair (.int .i64) (.pair (.sl (.int .i64)) (.pair (.sl (.int .i64)) (.pair (.int .i64) (.sl (.sl (.int .i64))))))) o2 (.deep true .no)), (10006000, .sl 3 (.int .i64) i11 .shallow)]) rfl rfl ⟨⟨.inl rfl, rfl, trivial⟩, ⟨rfl, rfl⟩, ⟨rfl, rfl⟩, ⟨rfl, rfl⟩, trivial⟩ ⟨⟨⟨rfl, rfl⟩, rfl⟩, ⟨⟨rfl, rfl⟩, trivial⟩, trivial⟩)⟩
    · skip
      refine loop_model mixed tys_ok t_spec_l6Some__rsd (S := Int × (List Int)) (I := (fun (i5, i6) => (envOf [(0, .c (.ptr 0 0)), (2, .c (.int .i64 a2)), (4, .c (.ptr 10002000 0)), (7, .c (.own 10002001 false)), (9, .c (.int .i64 i5))], [(0, .rc [.imm (.int .u8) i3.1, .int .i64 i3.2]), (1, .sl 3 (.int .i64) o1 .shallow), (2, .sl 124 (.pair (.int .i64) (.pair (.sl (.int .i64)) (.pair (.sl (.int .i64)) (.pair (.int .i64) (.sl (.sl (.int .i64))))))) o2 (.deep true .no)), (10002000, .rc [.own 1 false, .own 2 false]), (10002001, .sl 3 (.int .i64) i6 .shallow)]))) (f := spec_l6Some__rsd_l3 a2 o1 i3) (K := (fun r => k (.c (.own 900 false)) [(0, .rc [.imm (.int .u8) r.1.1, .int .i64 r.1.2]), (1, .sl 3 (.int .i64) o1 .shallow), (2, .sl 124 (.pair (.int .i64) (.pair (.sl (.int .i64)) (.pair (.sl (.int .i64)) (.pair (.int .i64) (.sl (.sl (.int .i64))))))) o2 (.deep true .no)), (900, .sl 3 (.int .i64) r.2 .shallow)])) he (leads_ren [(10002000, 10001000), (10002001, 10001001)] (l := [(0, .c (.ptr 0 0)), (2, .c (.int .i64 a2)), (4, .c (.ptr 10002000 0)), (7, .c (.own 10002001 false)), (9, .c (.int .i64 (0:Int)))]) (st' := [(0, .rc [.imm (.int .u8) i3.1, .int .i64 i3.2]), (1, .sl 3 (.int .i64) o1 .shallow), (2, .sl 124 (.pair (.int .i64) (.pair (.sl (.int .i64)) (.pair (.sl (.int .i64)) (.pair (.int .i64) (.sl (.sl (.int .i64))))))) o2 (.deep true .no)), (10002000, .rc [.own 1 false, .own 2 false]), (10002001, .sl 3 (.int .i64) i4 .shallow)]) rfl rfl ⟨⟨.inl rfl, rfl, trivial⟩, ⟨rfl, rfl⟩, ⟨rfl, rfl⟩, ⟨⟨⟨rfl, rfl⟩, trivial⟩, ⟨⟨rfl, rfl⟩, trivial⟩, trivial⟩, ⟨rfl, rfl⟩, trivial⟩ ⟨⟨⟨rfl, rfl⟩, rfl⟩, rfl, ⟨⟨rfl, rfl⟩, rfl⟩, ⟨⟨rfl, rfl⟩, trivial⟩, rfl, trivial⟩) ?_
      rintro ⟨i5, i6⟩ J1 he
      refine And.intro (fun hb => ?_) (fun hb => ?_)
      · have he := ok_t he hb
        refine And.intro (fun hb => ?_) (fun hb => ?_)
        · have he := ok_t he hb
          refine And.intro (fun hb => ?_) (fun hb => ?_)
          · have he := ok_f he hb
            have he := ok_rq he
            refine And.intro he.1 ?_
            have he := he.2
            have he := ok_rq he
            refine And.intro he.1 ?_
            have he := he.2
            refine And.intro (fun hb => ?_) (fun hb => ?_)
            · have he := ok_t he hb
              have he := ok_rq he
              refine And.intro he.1 ?_
              have he := he.2
              have he := ok_rq he
              refine And.intro he.1 ?_
              have he := he.2
              have he := ok_some he
              exact ⟨((i5 + (1:Int)), (i6 ++ [i5])), he, (leads_ren [(10002001, 56)] (l := [(0, .c (.ptr 0 0)), (2, .c (.int .i64 a2)), (4, .c (.ptr 10002000 0)), (7, .c (.own 10002001 false)), (9, .c (.int .i64 (i5 + (1:Int))))]) (st' := [(0, .rc [.imm (.int .u8) i3.1, .int .i64 i3.2]), (1, .sl 3 (.int .i64) o1 .shallow), (2, .sl 124 (.pair (.int .i64) (.pair (.sl (.int .i64)) (.pair (.sl (.int .i64)) (.pair (.int .i64) (.sl (.sl (.int .i64))))))) o2 (.deep true .no)), (10002000, .rc [.own 1 false, .own 2 false]), (10002001, .sl 3 (.int .i64) (i6 ++ [i5]) .shallow)]) rfl rfl ⟨⟨.inl rfl, rfl, trivial⟩, ⟨rfl, rfl⟩, ⟨rfl, rfl⟩, ⟨⟨⟨rfl, rfl⟩, trivial⟩, ⟨⟨rfl, rfl⟩, trivial⟩, trivial⟩, ⟨rfl, rfl⟩, trivial⟩ ⟨⟨⟨rfl, rfl⟩, rfl⟩, rfl, ⟨⟨rfl, rfl⟩, rfl⟩, ⟨⟨rfl, rfl⟩, trivial⟩, rfl, trivial⟩)⟩
            · have he := ok_f he hb
              have he := ok_rq he
              refine And.intro he.1 ?_
              have he := he.2
              have he := ok_some he
              exact ⟨((i5 + (1:Int)), i6), he, (leads_ren [] (l := [(0, .c (.ptr 0 0)), (2, .c (.int .i64 a2)), (4, .c (.ptr 10002000 0)), (7, .c (.own 10002001 false)), (9, .c (.int .i64 (i5 + (1:Int))))]) (st' := [(0, .rc [.imm (.int .u8) i3.1, .int .i64 i3.2]), (1, .sl 3 (.int .i64) o1 .shallow), (2, .sl 124 (.pair (.int .i64) (.pair (.sl (.int .i64)) (.pair (.sl (.int .i64)) (.pair (.int .i64) (.sl (.sl (.int .i64))))))) o2 (.deep true .no)), (10002000, .rc [.own 1 false, .own 2 false]), (10002001, .sl 3 (.int .i64) i6 .shallow)]) rfl rfl ⟨⟨.inl rfl, rfl, trivial⟩, ⟨rfl, rfl⟩, ⟨rfl, rfl⟩, ⟨⟨⟨rfl, rfl⟩, trivial⟩, ⟨⟨rfl, rfl⟩, trivial⟩, trivial⟩, ⟨rfl, rfl⟩, trivial⟩ ⟨⟨⟨rfl, rfl⟩, rfl⟩, rfl, ⟨⟨rfl, rfl⟩, rfl⟩, ⟨⟨rfl, rfl⟩, trivial⟩, rfl, trivial⟩)⟩
          · have he := ok_t he hb
            have he := ok_rq he
            refine And.intro he.1 ?_
            have he := he.2
            have he := ok_rq he
            refine And.intro he.1 ?_
            have he := he.2
            have he := ok_some he
            exact ⟨((i5 + (1:Int)), (i6 ++ [i5])), he, (leads_ren [(10002001, 56)] (l := [(0, .c (.ptr 0 0)), (2, .c (.int .i64 a2)), (4, .c (.ptr 10002000 0)), (7, .c (.own 10002001 false)), (9, .c (.int .i64 (i5 + (1:Int))))]) (st' := [(0, .rc [.imm (.int .u8) i3.1, .int .i64 i3.2]), (1, .sl 3 (.int .i64) o1 .shallow), (2, .sl 124 (.pair (.int .i64) (.pair (.sl (.int .i64)) (.pair (.sl (.int .i64)) (.pair (.int .i64) (.sl (.sl (.int .i64))))))) o2 (.deep true .no)), (10002000, .rc [.own 1 false, .own 2 false]), (10002001, .sl 3 (.int .i64) (i6 ++ [i5]) .shallow)]) rfl rfl ⟨⟨.inl rfl, rfl, trivial⟩, ⟨rfl, rfl⟩, ⟨rfl, rfl⟩, ⟨⟨⟨rfl, rfl⟩, trivial⟩, ⟨⟨rfl, rfl⟩, trivial⟩, trivial⟩, ⟨rfl, rfl⟩, trivial⟩ ⟨⟨⟨rfl, rfl⟩, rfl⟩, rfl, ⟨⟨rfl, rfl⟩, rfl⟩, ⟨⟨rfl, rfl⟩, trivial⟩, rfl, trivial⟩)⟩
        · have he := ok_f he hb
          exact ⟨i6, ok_up he, (leads_ren [(10003000, 10002001)] (l := [(0, .c (.ptr 0 0)), (2, .c (.int .i64 a2)), (7, .c (.own 10003000 false))]) (st' := [(0, .rc [.imm (.int .u8) i3.1, .int .i64 i3.2]), (1, .sl 3 (.int .i64) o1 .shallow), (2, .sl 124 (.pair (.int .i64) (.pair (.sl (.int .i64)) (.pair (.sl (.int .i64)) (.pair (.int .i64) (.sl (.sl (.int .i64))))))) o2 (.deep true .no)), (10003000, .sl 3 (.int .i64) i6 .shallow)]) rfl rfl ⟨⟨.inl rfl, rfl, trivial⟩, ⟨rfl, rfl⟩, ⟨rfl, rfl⟩, ⟨rfl, rfl⟩, trivial⟩ ⟨⟨⟨rfl, rfl⟩, rfl⟩, rfl, ⟨⟨rfl, rfl⟩, trivial⟩, trivial⟩)⟩
      · have he := ok_f he hb
        exact ⟨i6, ok_up he, (leads_ren [(10003000, 10002001)] (l := [(0, .c (.ptr 0 0)), (2, .c (.int .i64 a2)), (7, .c (.own 10003000 false))]) (st' := [(0, .rc [.imm (.int .u8) i3.1, .int .i64 i3.2]), (1, .sl 3 (.int .i64) o1 .shallow), (2, .sl 124 (.pair (.int .i64) (.pair (.sl (.int .i64)) (.pair (.sl (.int .i64)) (.pair (.int .i64) (.sl (.sl (.int .i64))))))) o2 (.deep true .no)), (10003000, .sl 3 (.int .i64) i6 .shallow)]) rfl rfl ⟨⟨.inl rfl, rfl, trivial⟩, ⟨rfl, rfl⟩, ⟨rfl, rfl⟩, ⟨rfl, rfl⟩, trivial⟩ ⟨⟨⟨rfl, rfl⟩, rfl⟩, rfl, ⟨⟨rfl, rfl⟩, trivial⟩, trivial⟩)⟩
  · skip
    refine loop_model mixed tys_ok t_spec_l6Some__rsd (S := Int × ((List Int) × Int) × (List Int)) (I := (fun (i, i1, i2) => (envOf [(0, .c (.ptr 0 0)), (2, .c (.int .i64 a2)), (4, .c (.ptr 10000000 0)), (7, .c (.own 10000001 false)), (8, .c (.int .i64 i))], [(0, .rc [.imm (.int .u8) i1.1, .int .i64 i1.2]), (1, .sl 3 (.int .i64) o1 .shallow), (2, .sl 124 (.pair (.int .i64) (.pair (.sl (.int .i64)) (.pair (.sl (.int .i64)) (.pair (.int .i64) (.sl (.sl (.int .i64))))))) o2 (.deep true .no)), (10000000, .rc [.own 1 false, .own 2 false]), (10000001, .sl 3 (.int .i64) i2 .shallow)]))) (f := spec_l6Some__rsd_l4 a2 o1) (K := (fun r => k (.c (.own 900 false)) [(0, .rc [.imm (.int .u8) r.1.1, .int .i64 r.1.2]), (1, .sl 3 (.int .i64) o1 .shallow), (2, .sl 124 (.pair (.int .i64) (.pair (.sl (.int .i64)) (.pair (.sl (.int .i64)) (.pair (.int .i64) (.sl (.sl (.int .i64))))))) o2 (.deep true .no)), (900, .sl 3 (.int .i64) r.2 .shallow)])) he (leads_ren [(10000000, 4), (10000001, 12)] (l := [(0, .c (.ptr 0 0)), (2, .c (.int .i64 a2)), (4, .c (.ptr 10000000 0)), (7, .c (.own 10000001 false)), (8, .c (.int .i64 (0:Int)))]) (st' := [(0, .rc [.imm (.int .u8) (o0_0, o0_1).1, .int .i64 (o0_0, o0_1).2]), (1, .sl 3 (.int .i64) o1 .shallow), (2, .sl 124 (.pair (.int .i64) (.pair (.sl (.int .i64)) (.pair (.sl (.int .i64)) (.pair (.int .i64) (.sl (.sl (.int .i64))))))) o2 (.deep true .no)), (10000000, .rc [.own 1 false, .own 2 false]), (10000001, .sl 3 (.int .i64) ([] : List Int) .shallow)]) rfl rfl ⟨⟨.inl rfl, rfl, trivial⟩, ⟨rfl, rfl⟩, ⟨rfl, rfl⟩, ⟨⟨⟨rfl, rfl⟩, trivial⟩, ⟨⟨rfl, rfl⟩, trivial⟩, trivial⟩, ⟨rfl, rfl⟩, trivial⟩ ⟨⟨⟨rfl, rfl⟩, rfl⟩, rfl, ⟨⟨rfl, rfl⟩, rfl⟩, ⟨⟨rfl, rfl⟩, trivial⟩, rfl, trivial⟩) ?_
    rintro ⟨i, i1, i2⟩ J1 he
    refine And.intro (fun hb => ?_) (fun hb => ?_)
    · have he := ok_t he hb
      obtain ⟨r2_, hr, he⟩ := ok_bind he
      refine ⟨r2_, hr, ?_⟩
      refine And.intro (fun hb => ?_) (fun hb => ?_)
      · have he := ok_t he hb
        have he := ok_rq he
        refine And.intro he.1 ?_
        have he := he.2
        have he := ok_rq he
        refine And.intro he.1 ?_
        have he := he.2
        have he := ok_some he
        exact ⟨((i + (1:Int)), r2_.2, (i2 ++ [i])), he, (leads_ren [(10000001, 26)] (l := [(0, .c (.ptr 0 0)), (2, .c (.int .i64 a2)), (4, .c (.ptr 10000000 0)), (7, .c (.own 10000001 false)), (8, .c (.int .i64 (i + (1:Int))))]) (st' := [(0, .rc [.imm (.int .u8) r2_.2.1, .int .i64 r2_.2.2]), (1, .sl 3 (.int .i64) o1 .shallow), (2, .sl 124 (.pair (.int .i64) (.pair (.sl (.int .i64)) (.pair (.sl (.int .i64)) (.pair (.int .i64) (.sl (.sl (.int .i64))))))) o2 (.deep true .no)), (10000000, .rc [.own 1 false, .own 2 false]), (10000001, .sl 3 (.int .i64) (i2 ++ [i]) .shallow)]) rfl rfl ⟨⟨.inl rfl, rfl, trivial⟩, ⟨rfl, rfl⟩, ⟨rfl, rfl⟩, ⟨⟨⟨rfl, rfl⟩, trivial⟩, ⟨⟨rfl, rfl⟩, trivial⟩, trivial⟩, ⟨rfl, rfl⟩, trivial⟩ ⟨⟨⟨rfl, rfl⟩, rfl⟩, rfl, ⟨⟨rfl, rfl⟩, rfl⟩, ⟨⟨rfl, rfl⟩, trivial⟩, rfl, trivial⟩)⟩
      · have he := ok_f he hb
        have he := ok_rq he
        refine And.intro he.1 ?_
        have he := he.2
        have he := ok_some he
        exact ⟨((i + (1:Int)), r2_.2, i2), he, (leads_ren [] (l := [(0, .c (.ptr 0 0)), (2, .c (.int .i64 a2)), (4, .c (.ptr 10000000 0)), (7, .c (.own 10000001 false)), (8, .c (.int .i64 (i + (1:Int))))]) (st' := [(0, .rc [.imm (.int .u8) r2_.2.1, .int .i64 r2_.2.2]), (1, .sl 3 (.int .i64) o1 .shallow), (2, .sl 124 (.pair (.int .i64) (.pair (.sl (.int .i64)) (.pair (.sl (.int .i64)) (.pair (.int .i64) (.sl (.sl (.int .i64))))))) o2 (.deep true .no)), (10000000, .rc [.own 1 false, .own 2 false]), (10000001, .sl 3 (.int .i64) i2 .shallow)]) rfl rfl ⟨⟨.inl rfl, rfl, trivial⟩, ⟨rfl, rfl⟩, ⟨rfl, rfl⟩, ⟨⟨⟨rfl, rfl⟩, trivial⟩, ⟨⟨rfl, rfl⟩, trivial⟩, trivial⟩, ⟨rfl, rfl⟩, trivial⟩ ⟨⟨⟨rfl, rfl⟩, rfl⟩, rfl, ⟨⟨rfl, rfl⟩, rfl⟩, ⟨⟨rfl, rfl⟩, trivial⟩, rfl, trivial⟩)⟩
    · have he := ok_f he hb
      exact ⟨(i1, i2), ok_up he, (leads_ren [(10001000, 10000000), (10001001, 10000001)] (l := [(0, .c (.ptr 0 0)), (2, .c (.int .i64 a2)), (4, .c (.ptr 10001000 0)), (7, .c (.own 10001001 false))]) (st' := [(0, .rc [.imm (.int .u8) i1.1, .int .i64 i1.2]), (1, .sl 3 (.int .i64) o1 .shallow), (2, .sl 124 (.pair (.int .i64) (.pair (.sl (.int .i64)) (.pair (.sl (.int .i64)) (.pair (.int .i64) (.sl (.sl (.int .i64))))))) o2 (.deep true .no)), (10001000, .rc [.own 1 false, .own 2 false]), (10001001, .sl 3 (.int .i64) i2 .shallow)]) rfl rfl ⟨⟨.inl rfl, rfl, trivial⟩, ⟨rfl, rfl⟩, ⟨rfl, rfl⟩, ⟨⟨⟨rfl, rfl⟩, trivial⟩, ⟨⟨rfl, rfl⟩, trivial⟩, trivial⟩, ⟨rfl, rfl⟩, trivial⟩ ⟨⟨⟨rfl, rfl⟩, rfl⟩, rfl, ⟨⟨rfl, rfl⟩, rfl⟩, ⟨⟨rfl, rfl⟩, trivial⟩, trivial⟩)⟩

noncomputable def c_spec_l6Draw__rsd : Con := fun args st => match args, st with
  | [.c (.ptr 0 0), .agg [.own 1 false, .own 2 false]], [(0, .rc [.imm (.int .u8) o0_0, .int .i64 o0_1]), (1, .sl 3 (.int .i64) o1 .shallow), (2, .sl 124 (.pair (.int .i64) (.pair (.sl (.int .i64)) (.pair (.sl (.int .i64)) (.pair (.int .i64) (.sl (.sl (.int .i64))))))) o2 (.deep true .no))] => .opt (((List Int) × Int) × Int × Int × (List Int) × (List Int) × (List (List Int))) (spec_l6Draw__rsd (o0_0, o0_1) o1 o2) (fun r => .ret (.agg [.int .i64 r.2.1, .own 901 false, .own 902 false, .int .i64 r.2.2.1, .own 903 false]) [(0, .rc [.imm (.int .u8) r.1.1, .int .i64 r.1.2]), (1, .sl 3 (.int .i64) o1 .shallow), (2, .sl 124 (.pair (.int .i64) (.pair (.sl (.int .i64)) (.pair (.sl (.int .i64)) (.pair (.int .i64) (.sl (.sl (.int .i64))))))) o2 (.deep true .no)), (900, .rc [.int .i64 r.2.1, .own 901 false, .own 902 false, .int .i64 r.2.2.1, .own 903 false]), (901, .sl 3 (.int .i64) r.2.2.2.1 .shallow), (902, .sl 3 (.int .i64) r.2.2.2.2.1 .shallow), (903, .sl 23 (.sl (.int .i64)) r.2.2.2.2.2 (.deep true .no))])
  | _, _ => .fail

noncomputable def C_spec_l6Draw__rsd : Cfg := { y := tys, n := 77, h := 3, tab := [(99, c_spec_l17Rd_num), (166, c_spec_l17Rd_pick), (259, c_spec_l6Some__rsd)], cut := [9, 19], hand := [(259, [1])], good := [], deep := [66], sched := [(8, (.first 0 (.first 2 (.alt 1 (.alt 3 (.alt 4 (.alt 5 (.alt 6 (.first 7 (.alt 8 .done .stop)) .stop) .stop) .stop) .stop) (.alt 3 (.alt 1 (.alt 4 (.alt 5 (.alt 6 (.first 7 (.alt 8 .done .stop)) .stop) .stop) .stop) (.alt 4 (.alt 1 (.alt 5 (.alt 6 (.first 7 (.alt 8 .done .stop)) .stop) .stop) (.alt 5 (.alt 1 (.alt 6 (.first 7 (.alt 8 .done .stop)) .stop) .stop) .stop)) .stop)) .stop)))))] }

theorem t_spec_l6Draw__rsd : TabOk Try.prog C_spec_l6Draw__rsd := by
  refine tabOk_of ?_
  simp only [C_spec_l6Draw__rsd, List.forall_mem_cons]
  exact ⟨k_spec_l17Rd_num, k_spec_l17Rd_pick, k_spec_l6Some__rsd, fun p h => by cases h⟩

theorem k_spec_l6Draw__rsd : Entry Try.prog 204 c_spec_l6Draw__rsd := by
  refine entry_by (C := C_spec_l6Draw__rsd) mixed tys_ok t_spec_l6Draw__rsd (fn := Try.f204) (c := bd Try.f204) (by kernel_rfl) (by kernel_rfl) (by kernel_rfl) (by kernel_rfl) ?_
  intro args st k he
  unfold c_spec_l6Draw__rsd at he
  split at he
  rotate_left
  · exact he.elim
  rename_i o0_0 o0_1 o1 o2
  have he : Ok (spec_l6Draw__rsd (o0_0, o0_1) o1 o2) (fun r => k (.agg [.int .i64 r.2.1, .own 901 false, .own 902 false, .int .i64 r.2.2.1, .own 903 false]) [(0, .rc [.imm (.int .u8) r.1.1, .int .i64 r.1.2]), (1, .sl 3 (.int .i64) o1 .shallow), (2, .sl 124 (.pair (.int .i64) (.pair (.sl (.int .i64)) (.pair (.sl (.int .i64)) (.pair (.int .i64) (.sl (.sl (.int .i64))))))) o2 (.deep true .no)), (900, .rc [.int .i64 r.2.1, .own 901 false, .own 902 false, .int .i64 r.2.2.1, .own 903 false]), (901, .sl 3 (.int .i64) r.2.2.2.1 .shallow), (902, .sl 3 (.int .i64) r.2.2.2.2.1 .shallow), (903, .sl 23 (.sl (.int .i64)) r.2.2.2.2.2 (.deep true .no))]) := he
  refine ⟨rfl, rfl, ?_⟩
  obtain ⟨r1_, hr, he⟩ := ok_bind he
  refine ⟨r1_, hr, ?_⟩
  obtain ⟨r2_, hr, he⟩ := ok_bind he
  refine ⟨r2_, hr, ?_⟩
  refine And.intro (fun hb => ?_) (fun hb => ?_)
  · have he := ok_t he hb
    refine seq_model mixed tys_ok t_spec_l6Draw__rsd (S := ((List Int) × Int) × (List Int)) (I := (fun (i2, i_21) => (envOf [(0, .c (.ptr 0 0)), (4, .c (.ptr 10001000 0)), (5, .c (.ptr 10001001 0))], [(0, .rc [.imm (.int .u8) i2.1, .int .i64 i2.2]), (1, .sl 3 (.int .i64) o1 .shallow), (2, .sl 124 (.pair (.int .i64) (.pair (.sl (.int .i64)) (.pair (.sl (.int .i64)) (.pair (.int .i64) (.sl (.sl (.int .i64))))))) o2 (.deep true .no)), (10001000, .rc [.int .i64 (0:Int), .nil, .nil, .int .i64 (0:Int), .nil]), (10001001, .rc [.int .i64 r1_.1, .own 10001002 false, .own 10001003 false, .int .i64 (0:Int), .nil]), (10001002, .sl 3 (.int .i64) r2_.2 .shallow), (10001003, .sl 3 (.int .i64) i_21 .shallow)]))) (B := fun s => Ok (spec_l6Draw__rsd_j1 r1_ r2_ s) (fun r => k (.agg [.int .i64 r.2.1, .own 901 false, .own 902 false, .int .i64 r.2.2.1, .own 903 false]) [(0, .rc [.imm (.int .u8) r.1.1, .int .i64 r.1.2]), (1, .sl 3 (.int .i64) o1 .shallow), (2, .sl 124 (.pair (.int .i64) (.pair (.sl (.int .i64)) (.pair (.sl (.int .i64)) (.pair (.int .i64) (.sl (.sl (.int .i64))))))) o2 (.deep true .no)), (900, .rc [.int .i64 r.2.1, .own 901 false, .own 902 false, .int .i64 r.2.2.1, .own 903 false]), (901, .sl 3 (.int .i64) r.2.2.2.1 .shallow), (902, .sl 3 (.int .i64) r.2.2.2.2.1 .shallow), (903, .sl 23 (.sl (.int .i64)) r.2.2.2.2.2 (.deep true .no))])) ?_ ?_
    · rintro ⟨i2, i_21⟩ he
      obtain ⟨r6_, hr, he⟩ := ok_bind he
      refine ⟨r6_, hr, ?_⟩
      have he := ok_some he
      exact ⟨rfl, _, _, (leads_ren [(900, 10001000), (901, 10001002), (902, 10001003)] (l := [(4, .c (.ptr 900 0))]) (st' := [(0, .rc [.imm (.int .u8) r6_.2.1, .int .i64 r6_.2.2]), (1, .sl 3 (.int .i64) o1 .shallow), (2, .sl 124 (.pair (.int .i64) (.pair (.sl (.int .i64)) (.pair (.sl (.int .i64)) (.pair (.int .i64) (.sl (.sl (.int .i64))))))) o2 (.deep true .no)), (900, .rc [.int .i64 r1_.1, .own 901 false, .own 902 false, .int .i64 r6_.1, .own 903 false]), (901, .sl 3 (.int .i64) r2_.2 .shallow), (902, .sl 3 (.int .i64) i_21 .shallow), (903, .sl 23 (.sl (.int .i64)) ([] : List (List Int)) (.deep true .no))]) rfl rfl ⟨⟨.inl rfl, rfl, trivial⟩, ⟨rfl, rfl⟩, ⟨rfl, rfl⟩, ⟨rfl, ⟨⟨rfl, rfl⟩, trivial⟩, ⟨⟨rfl, rfl⟩, trivial⟩, rfl, ⟨rfl, trivial⟩, trivial⟩, ⟨rfl, rfl⟩, ⟨rfl, rfl⟩, trivial, trivial⟩ ⟨⟨⟨rfl, rfl⟩, rfl⟩, trivial⟩), he⟩
    · skip
      refine loop_model mixed tys_ok t_spec_l6Draw__rsd (S := Int × ((List Int) × Int) × (List Int)) (I := (fun (i, i1, i_2) => (envOf [(0, .c (.ptr 0 0)), (4, .c (.ptr 10000000 0)), (5, .c (.ptr 10000001 0)), (6, .c (.int .i64 i))], [(0, .rc [.imm (.int .u8) i1.1, .int .i64 i1.2]), (1, .sl 3 (.int .i64) o1 .shallow), (2, .sl 124 (.pair (.int .i64) (.pair (.sl (.int .i64)) (.pair (.sl (.int .i64)) (.pair (.int .i64) (.sl (.sl (.int .i64))))))) o2 (.deep true .no)), (10000000, .rc [.int .i64 (0:Int), .nil, .nil, .int .i64 (0:Int), .nil]), (10000001, .rc [.int .i64 r1_.1, .own 10000002 false, .own 10000003 false, .int .i64 (0:Int), .nil]), (10000002, .sl 3 (.int .i64) r2_.2 .shallow), (10000003, .sl 3 (.int .i64) i_2 .shallow)]))) (f := spec_l6Draw__rsd_l1 r1_ r2_) (K := (fun r => k (.agg [.int .i64 r.2.1, .own 901 false, .own 902 false, .int .i64 r.2.2.1, .own 903 false]) [(0, .rc [.imm (.int .u8) r.1.1, .int .i64 r.1.2]), (1, .sl 3 (.int .i64) o1 .shallow), (2, .sl 124 (.pair (.int .i64) (.pair (.sl (.int .i64)) (.pair (.sl (.int .i64)) (.pair (.int .i64) (.sl (.sl (.int .i64))))))) o2 (.deep true .no)), (900, .rc [.int .i64 r.2.1, .own 901 false, .own 902 false, .int .i64 r.2.2.1, .own 903 false]), (901, .sl 3 (.int .i64) r.2.2.2.1 .shallow), (902, .sl 3 (.int .i64) r.2.2.2.2.1 .shallow), (903, .sl 23 (.sl (.int .i64)) r.2.2.2.2.2 (.deep true .no))])) he (leads_ren [(10000000, 4), (10000001, 5), (10000002, 17900)] (l := [(0, .c (.ptr 0 0)), (4, .c (.ptr 10000000 0)), (5, .c (.ptr 10000001 0)), (6, .c (.int .i64 (0:Int)))]) (st' := [(0, .rc [.imm (.int .u8) r2_.1.1, .int .i64 r2_.1.2]), (1, .sl 3 (.int .i64) o1 .shallow), (2, .sl 124 (.pair (.int .i64) (.pair (.sl (.int .i64)) (.pair (.sl (.int .i64)) (.pair (.int .i64) (.sl (.sl (.int .i64))))))) o2 (.deep true .no)), (10000000, .rc [.int .i64 (0:Int), .nil, .nil, .int .i64 (0:Int), .nil]), (10000001, .rc [.int .i64 r1_.1, .own 10000002 false, .own 10000003 false, .int .i64 (0:Int), .nil]), (10000002, .sl 3 (.int .i64) r2_.2 .shallow), (10000003, .sl 3 (.int .i64) ([] : List Int) .shallow)]) rfl rfl ⟨⟨.inl rfl, rfl, trivial⟩, ⟨rfl, rfl⟩, ⟨rfl, rfl⟩, ⟨rfl, rfl, rfl, rfl, rfl, trivial⟩, ⟨rfl, ⟨⟨rfl, rfl⟩, trivial⟩, ⟨rfl, trivial⟩, rfl, rfl, trivial⟩, ⟨rfl, rfl⟩, trivial, trivial⟩ ⟨⟨⟨rfl, rfl⟩, rfl⟩, ⟨⟨rfl, rfl⟩, rfl⟩, ⟨⟨rfl, rfl⟩, rfl⟩, rfl, trivial⟩) ?_
      rintro ⟨i, i1, i_2⟩ J1 he
      refine And.intro (fun hb => ?_) (fun hb => ?_)
      · have he := ok_t he hb
        refine And.intro (by kernel_rfl) ?_
        obtain ⟨r5_, hq1, he⟩ := ok_bind he
        have he := ok_rq he
        have hq2 := he.1
        have he := he.2
        refine And.intro ?_ (And.intro ?_ (trivial))
        · skip
          refine And.intro ?_ trivial
          refine And.intro ?_ trivial
          refine ⟨r5_, hq1, ?_⟩
          refine And.intro ?_ trivial
          refine And.intro ?_ trivial
          refine And.intro hq2 ?_
          refine And.intro ?_ trivial
          have he := ok_rq he
          refine And.intro he.1 ?_
          have he := he.2
          have he := ok_some he
          exact ⟨((i + (1:Int)), r5_.2, (i_2 ++ [r5_.1])), he, (leads_ren [(10000003, 35)] (l := [(0, .c (.ptr 0 0)), (4, .c (.ptr 10000000 0)), (5, .c (.ptr 10000001 0)), (6, .c (.int .i64 (i + (1:Int))))]) (st' := [(0, .rc [.imm (.int .u8) r5_.2.1, .int .i64 r5_.2.2]), (1, .sl 3 (.int .i64) o1 .shallow), (2, .sl 124 (.pair (.int .i64) (.pair (.sl (.int .i64)) (.pair (.sl (.int .i64)) (.pair (.int .i64) (.sl (.sl (.int .i64))))))) o2 (.deep true .no)), (10000000, .rc [.int .i64 (0:Int), .nil, .nil, .int .i64 (0:Int), .nil]), (10000001, .rc [.int .i64 r1_.1, .own 10000002 false, .own 10000003 false, .int .i64 (0:Int), .nil]), (10000002, .sl 3 (.int .i64) r2_.2 .shallow), (10000003, .sl 3 (.int .i64) (i_2 ++ [r5_.1]) .shallow)]) rfl rfl ⟨⟨.inl rfl, rfl, trivial⟩, ⟨rfl, rfl⟩, ⟨rfl, rfl⟩, ⟨rfl, rfl, rfl, rfl, rfl, trivial⟩, ⟨rfl, ⟨⟨rfl, rfl⟩, trivial⟩, ⟨⟨rfl, rfl⟩, trivial⟩, rfl, rfl, trivial⟩, ⟨rfl, rfl⟩, ⟨rfl, rfl⟩, trivial⟩ ⟨⟨⟨rfl, rfl⟩, rfl⟩, ⟨⟨rfl, rfl⟩, rfl⟩, ⟨⟨rfl, rfl⟩, rfl⟩, rfl, trivial⟩)⟩
        · skip
          refine And.intro ?_ (And.intro ?_ (trivial))
          · skip
            refine And.intro ?_ trivial
            refine ⟨r5_, hq1, ?_⟩
            refine And.intro ?_ trivial
            refine And.intro ?_ trivial
            refine And.intro hq2 ?_
            refine And.intro ?_ trivial
            have he := ok_rq he
            refine And.intro he.1 ?_
            have he := he.2
            have he := ok_some he
            exact ⟨((i + (1:Int)), r5_.2, (i_2 ++ [r5_.1])), he, (leads_ren [(10000003, 35)] (l := [(0, .c (.ptr 0 0)), (4, .c (.ptr 10000000 0)), (5, .c (.ptr 10000001 0)), (6, .c (.int .i64 (i + (1:Int))))]) (st' := [(0, .rc [.imm (.int .u8) r5_.2.1, .int .i64 r5_.2.2]), (1, .sl 3 (.int .i64) o1 .shallow), (2, .sl 124 (.pair (.int .i64) (.pair (.sl (.int .i64)) (.pair (.sl (.int .i64)) (.pair (.int .i64) (.sl (.sl (.int .i64))))))) o2 (.deep true .no)), (10000000, .rc [.int .i64 (0:Int), .nil, .nil, .int .i64 (0:Int), .nil]), (10000001, .rc [.int .i64 r1_.1, .own 10000002 false, .own 10000003 false, .int .i64 (0:Int), .nil]), (10000002, .sl 3 (.int .i64) r2_.2 .shallow), (10000003, .sl 3 (.int .i64) (i_2 ++ [r5_.1]) .shallow)]) rfl rfl ⟨⟨.inl rfl, rfl, trivial⟩, ⟨rfl, rfl⟩, ⟨rfl, rfl⟩, ⟨rfl, rfl, rfl, rfl, rfl, trivial⟩, ⟨rfl, ⟨⟨rfl, rfl⟩, trivial⟩, ⟨⟨rfl, rfl⟩, trivial⟩, rfl, rfl, trivial⟩, ⟨rfl, rfl⟩, ⟨rfl, rfl⟩, trivial⟩ ⟨⟨⟨rfl, rfl⟩, rfl⟩, ⟨⟨rfl, rfl⟩, rfl⟩, ⟨⟨rfl, rfl⟩, rfl⟩, rfl, trivial⟩)⟩
          · skip
            refine ⟨r5_, hq1, ?_⟩
            refine And.intro ?_ (And.intro ?_ (trivial))
            · skip
              refine And.intro ?_ trivial
              refine And.intro ?_ trivial
              refine And.intro hq2 ?_
              refine And.intro ?_ trivial
              have he := ok_rq he
              refine And.intro he.1 ?_
              have he := he.2
              have he := ok_some he
              exact ⟨((i + (1:Int)), r5_.2, (i_2 ++ [r5_.1])), he, (leads_ren [(10000003, 35)] (l := [(0, .c (.ptr 0 0)), (4, .c (.ptr 10000000 0)), (5, .c (.ptr 10000001 0)), (6, .c (.int .i64 (i + (1:Int))))]) (st' := [(0, .rc [.imm (.int .u8) r5_.2.1, .int .i64 r5_.2.2]), (1, .sl 3 (.int .i64) o1 .shallow), (2, .sl 124 (.pair (.int .i64) (.pair (.sl (.int .i64)) (.pair (.sl (.int .i64)) (.pair (.int .i64) (.sl (.sl (.int .i64))))))) o2 (.deep true .no)), (10000000, .rc [.int .i64 (0:Int), .nil, .nil, .int .i64 (0:Int), .nil]), (10000001, .rc [.int .i64 r1_.1, .own 10000002 false, .own 10000003 false, .int .i64 (0:Int), .nil]), (10000002, .sl 3 (.int .i64) r2_.2 .shallow), (10000003, .sl 3 (.int .i64) (i_2 ++ [r5_.1]) .shallow)]) rfl rfl ⟨⟨.inl rfl, rfl, trivial⟩, ⟨rfl, rfl⟩, ⟨rfl, rfl⟩, ⟨rfl, rfl, rfl, rfl, rfl, trivial⟩, ⟨rfl, ⟨⟨rfl, rfl⟩, trivial⟩, ⟨⟨rfl, rfl⟩, trivial⟩, rfl, rfl, trivial⟩, ⟨rfl, rfl⟩, ⟨rfl, rfl⟩, trivial⟩ ⟨⟨⟨rfl, rfl⟩, rfl⟩, ⟨⟨rfl, rfl⟩, rfl⟩, ⟨⟨rfl, rfl⟩, rfl⟩, rfl, trivial⟩)⟩
            · skip
              refine And.intro ?_ trivial
              refine And.intro ?_ trivial
              refine And.intro hq2 ?_
              refine And.intro ?_ trivial
              have he := ok_rq he
              refine And.intro he.1 ?_
              have he := he.2
              have he := ok_some he
              exact ⟨((i + (1:Int)), r5_.2, (i_2 ++ [r5_.1])), he, (leads_ren [(10000003, 35)] (l := [(0, .c (.ptr 0 0)), (4, .c (.ptr 10000000 0)), (5, .c (.ptr 10000001 0)), (6, .c (.int .i64 (i + (1:Int))))]) (st' := [(0, .rc [.imm (.int .u8) r5_.2.1, .int .i64 r5_.2.2]), (1, .sl 3 (.int .i64) o1 .shallow), (2, .sl 124 (.pair (.int .i64) (.pair (.sl (.int .i64)) (.pair (.sl (.int .i64)) (.pair (.int .i64) (.sl (.sl (.int .i64))))))) o2 (.deep true .no)), (10000000, .rc [.int .i64 (0:Int), .nil, .nil, .int .i64 (0:Int), .nil]), (10000001, .rc [.int .i64 r1_.1, .own 10000002 false, .own 10000003 false, .int .i64 (0:Int), .nil]), (10000002, .sl 3 (.int .i64) r2_.2 .shallow), (10000003, .sl 3 (.int .i64) (i_2 ++ [r5_.1]) .shallow)]) rfl rfl ⟨⟨.inl rfl, rfl, trivial⟩, ⟨rfl, rfl⟩, ⟨rfl, rfl⟩, ⟨rfl, rfl, rfl, rfl, rfl, trivial⟩, ⟨rfl, ⟨⟨rfl, rfl⟩, trivial⟩, ⟨⟨rfl, rfl⟩, trivial⟩, rfl, rfl, trivial⟩, ⟨rfl, rfl⟩, ⟨rfl, rfl⟩, trivial⟩ ⟨⟨⟨rfl, rfl⟩, rfl⟩, ⟨⟨rfl, rfl⟩, rfl⟩, ⟨⟨rfl, rfl⟩, rfl⟩, rfl, trivial⟩)⟩
      · have he := ok_f he hb
        exact ⟨(i1, i_2), ok_up he, (leads_ren [(10001000, 10000000), (10001001, 10000001), (10001002, 10000002), (10001003, 10000003)] (l := [(0, .c (.ptr 0 0)), (4, .c (.ptr 10001000 0)), (5, .c (.ptr 10001001 0))]) (st' := [(0, .rc [.imm (.int .u8) i1.1, .int .i64 i1.2]), (1, .sl 3 (.int .i64) o1 .shallow), (2, .sl 124 (.pair (.int .i64) (.pair (.sl (.int .i64)) (.pair (.sl (.int .i64)) (.pair (.int .i64) (.sl (.sl (.int .i64))))))) o2 (.deep true .no)), (10001000, .rc [.int .i64 (0:Int), .nil, .nil, .int .i64 (0:Int), .nil]), (10001001, .rc [.int .i64 r1_.1, .own 10001002 false, .own 10001003 false, .int .i64 (0:Int), .nil]), (10001002, .sl 3 (.int .i64) r2_.2 .shallow), (10001003, .sl 3 (.int .i64) i_2 .shallow)]) rfl rfl ⟨⟨.inl rfl, rfl, trivial⟩, ⟨rfl, rfl⟩, ⟨rfl, rfl⟩, ⟨rfl, rfl, rfl, rfl, rfl, trivial⟩, ⟨rfl, ⟨⟨rfl, rfl⟩, trivial⟩, ⟨⟨rfl, rfl⟩, trivial⟩, rfl, rfl, trivial⟩, ⟨rfl, rfl⟩, ⟨rfl, rfl⟩, trivial⟩ ⟨⟨⟨rfl, rfl⟩, rfl⟩, ⟨⟨rfl, rfl⟩, rfl⟩, ⟨⟨rfl, rfl⟩, rfl⟩, trivial⟩)⟩
  · have he := ok_f he hb
    refine And.intro (fun hb => ?_) (fun hb => ?_)
    · have he := ok_t he hb
      obtain ⟨r7_, hr, he⟩ := ok_bind he
      refine ⟨r7_, hr, ?_⟩
      refine loop_model mixed tys_ok t_spec_l6Draw__rsd (S := Int × ((List Int) × Int) × (List (List Int))) (I := (fun (i3, i9, i_4) => (envOf [(0, .c (.ptr 0 0)), (4, .c (.ptr 10002000 0)), (5, .c (.ptr 10002001 0)), (7, .c (.int .i64 i3))], [(0, .rc [.imm (.int .u8) i9.1, .int .i64 i9.2]), (1, .sl 3 (.int .i64) o1 .shallow), (2, .sl 124 (.pair (.int .i64) (.pair (.sl (.int .i64)) (.pair (.sl (.int .i64)) (.pair (.int .i64) (.sl (.sl (.int .i64))))))) o2 (.deep true .no)), (10002000, .rc [.int .i64 (0:Int), .nil, .nil, .int .i64 (0:Int), .nil]), (10002001, .rc [.int .i64 r1_.1, .own 10002002 false, .nil, .int .i64 (0:Int), .own 10002003 false]), (10002002, .sl 3 (.int .i64) r2_.2 .shallow), (10002003, .sl 23 (.sl (.int .i64)) i_4 (.deep true .no))]))) (f := spec_l6Draw__rsd_l2 r1_ r2_) (K := (fun r => k (.agg [.int .i64 r.2.1, .own 901 false, .own 902 false, .int .i64 r.2.2.1, .own 903 false]) [(0, .rc [.imm (.int .u8) r.1.1, .int .i64 r.1.2]), (1, .sl 3 (.int .i64) o1 .shallow), (2, .sl 124 (.pair (.int .i64) (.pair (.sl (.int .i64)) (.pair (.sl (.int .i64)) (.pair (.int .i64) (.sl (.sl (.int .i64))))))) o2 (.deep true .no)), (900, .rc [.int .i64 r.2.1, .own 901 false, .own 902 false, .int .i64 r.2.2.1, .own 903 false]), (901, .sl 3 (.int .i64) r.2.2.2.1 .shallow), (902, .sl 3 (.int .i64) r.2.2.2.2.1 .shallow), (903, .sl 23 (.sl (.int .i64)) r.2.2.2.2.2 (.deep true .no))])) he (leads_ren [(10002000, 4), (10002001, 5), (10002002, 17900)] (l := [(0, .c (.ptr 0 0)), (4, .c (.ptr 10002000 0)), (5, .c (.ptr 10002001 0)), (7, .c (.int .i64 r7_.1))]) (st' := [(0, .rc [.imm (.int .u8) r7_.2.1, .int .i64 r7_.2.2]), (1, .sl 3 (.int .i64) o1 .shallow), (2, .sl 124 (.pair (.int .i64) (.pair (.sl (.int .i64)) (.pair (.sl (.int .i64)) (.pair (.int .i64) (.sl (.sl (.int .i64))))))) o2 (.deep true .no)), (10002000, .rc [.int .i64 (0:Int), .nil, .nil, .int .i64 (0:Int), .nil]), (10002001, .rc [.int .i64 r1_.1, .own 10002002 false, .nil, .int .i64 (0:Int), .own 10002003 false]), (10002002, .sl 3 (.int .i64) r2_.2 .shallow), (10002003, .sl 23 (.sl (.int .i64)) ([] : List (List Int)) (.deep true .no))]) rfl rfl ⟨⟨.inl rfl, rfl, trivial⟩, ⟨rfl, rfl⟩, ⟨rfl, rfl⟩, ⟨rfl, rfl, rfl, rfl, rfl, trivial⟩, ⟨rfl, ⟨⟨rfl, rfl⟩, trivial⟩, rfl, rfl, ⟨rfl, trivial⟩, trivial⟩, ⟨rfl, rfl⟩, trivial, trivial⟩ ⟨⟨⟨rfl, rfl⟩, rfl⟩, ⟨⟨rfl, rfl⟩, rfl⟩, ⟨⟨rfl, rfl⟩, rfl⟩, rfl, trivial⟩) ?_
      rintro ⟨i3, i9, i_4⟩ J1 he
      refine And.intro (fun hb => ?_) (fun hb => ?_)
      · have he := ok_t he hb
        refine seq_model mixed tys_ok t_spec_l6Draw__rsd (S := ((List Int) × Int) × (List Int)) (I := (fun (i13, i14) => (envOf [(0, .c (.ptr 0 0)), (4, .c (.ptr 10006000 0)), (5, .c (.ptr 10006001 0)), (7, .c (.int .i64 i3)), (8, .c (.own 10006002 false))], [(0, .rc [.imm (.int .u8) i13.1, .int .i64 i13.2]), (1, .sl 3 (.int .i64) o1 .shallow), (2, .sl 124 (.pair (.int .i64) (.pair (.sl (.int .i64)) (.pair (.sl (.int .i64)) (.pair (.int .i64) (.sl (.sl (.int .i64))))))) o2 (.deep true .no)), (10006000, .rc [.int .i64 (0:Int), .nil, .nil, .int .i64 (0:Int), .nil]), (10006001, .rc [.int .i64 r1_.1, .own 10006003 false, .nil, .int .i64 (0:Int), .own 10006004 false]), (10006002, .sl 3 (.int .i64) i14 .shallow), (10006003, .sl 3 (.int .i64) r2_.2 .shallow), (10006004, .sl 23 (.sl (.int .i64)) i_4 (.deep true .no))]))) (B := fun s => Ok (spec_l6Draw__rsd_j2 i3 i_4 s) (LK J1 (fun r => k (.agg [.int .i64 r.2.1, .own 901 false, .own 902 false, .int .i64 r.2.2.1, .own 903 false]) [(0, .rc [.imm (.int .u8) r.1.1, .int .i64 r.1.2]), (1, .sl 3 (.int .i64) o1 .shallow), (2, .sl 124 (.pair (.int .i64) (.pair (.sl (.int .i64)) (.pair (.sl (.int .i64)) (.pair (.int .i64) (.sl (.sl (.int .i64))))))) o2 (.deep true .no)), (900, .rc [.int .i64 r.2.1, .own 901 false, .own 902 false, .int .i64 r.2.2.1, .own 903 false]), (901, .sl 3 (.int .i64) r.2.2.2.1 .shallow), (902, .sl 3 (.int .i64) r.2.2.2.2.1 .shallow), (903, .sl 23 (.sl (.int .i64)) r.2.2.2.2.2 (.deep true .no))]))) ?_ ?_
        · rintro ⟨i13, i14⟩ he
          have he := ok_rq he
          refine And.intro he.1 ?_
          have he := he.2
          have he := ok_rq he
          refine And.intro he.1 ?_
          have he := he.2
          have he := ok_some he
          exact ⟨((i3 - (1:Int)), i13, (i_4 ++ [i14])), he, (leads_ren [(10002000, 10006000), (10002001, 10006001), (10002002, 10006003), (10002003, 67)] (l := [(0, .c (.ptr 0 0)), (4, .c (.ptr 10002000 0)), (5, .c (.ptr 10002001 0)), (7, .c (.int .i64 (i3 - (1:Int))))]) (st' := [(0, .rc [.imm (.int .u8) i13.1, .int .i64 i13.2]), (1, .sl 3 (.int .i64) o1 .shallow), (2, .sl 124 (.pair (.int .i64) (.pair (.sl (.int .i64)) (.pair (.sl (.int .i64)) (.pair (.int .i64) (.sl (.sl (.int .i64))))))) o2 (.deep true .no)), (10002000, .rc [.int .i64 (0:Int), .nil, .nil, .int .i64 (0:Int), .nil]), (10002001, .rc [.int .i64 r1_.1, .own 10002002 false, .nil, .int .i64 (0:Int), .own 10002003 false]), (10002002, .sl 3 (.int .i64) r2_.2 .shallow), (10002003, .sl 23 (.sl (.int .i64)) (i_4 ++ [i14]) (.deep true .no))]) rfl rfl ⟨⟨.inl rfl, rfl, trivial⟩, ⟨rfl, rfl⟩, ⟨rfl, rfl⟩, ⟨rfl, rfl, rfl, rfl, rfl, trivial⟩, ⟨rfl, ⟨⟨rfl, rfl⟩, trivial⟩, rfl, rfl, ⟨⟨rfl, rfl⟩, trivial⟩, trivial⟩, ⟨rfl, rfl⟩, ⟨rfl, rfl⟩, trivial⟩ ⟨⟨⟨rfl, rfl⟩, rfl⟩, ⟨⟨rfl, rfl⟩, rfl⟩, ⟨⟨rfl, rfl⟩, rfl⟩, rfl, trivial⟩)⟩
        · skip
          refine loop_model mixed tys_ok t_spec_l6Draw__rsd (S := Int × ((List Int) × Int) × (List Int)) (I := (fun (i10, i11, i12) => (envOf [(0, .c (.ptr 0 0)), (4, .c (.ptr 10005000 0)), (5, .c (.ptr 10005001 0)), (7, .c (.int .i64 i3)), (8, .c (.own 10005002 false)), (9, .c (.int .i64 i10))], [(0, .rc [.imm (.int .u8) i11.1, .int .i64 i11.2]), (1, .sl 3 (.int .i64) o1 .shallow), (2, .sl 124 (.pair (.int .i64) (.pair (.sl (.int .i64)) (.pair (.sl (.int .i64)) (.pair (.int .i64) (.sl (.sl (.int .i64))))))) o2 (.deep true .no)), (10005000, .rc [.int .i64 (0:Int), .nil, .nil, .int .i64 (0:Int), .nil]), (10005001, .rc [.int .i64 r1_.1, .own 10005003 false, .nil, .int .i64 (0:Int), .own 10005004 false]), (10005002, .sl 3 (.int .i64) i12 .shallow), (10005003, .sl 3 (.int .i64) r2_.2 .shallow), (10005004, .sl 23 (.sl (.int .i64)) i_4 (.deep true .no))]))) (f := spec_l6Draw__rsd_l3 r2_ i3 i_4) (K := (LK J1 (fun r => k (.agg [.int .i64 r.2.1, .own 901 false, .own 902 false, .int .i64 r.2.2.1, .own 903 false]) [(0, .rc [.imm (.int .u8) r.1.1, .int .i64 r.1.2]), (1, .sl 3 (.int .i64) o1 .shallow), (2, .sl 124 (.pair (.int .i64) (.pair (.sl (.int .i64)) (.pair (.sl (.int .i64)) (.pair (.int .i64) (.sl (.sl (.int .i64))))))) o2 (.deep true .no)), (900, .rc [.int .i64 r.2.1, .own 901 false, .own 902 false, .int .i64 r.2.2.1, .own 903 false]), (901, .sl 3 (.int .i64) r.2.2.2.1 .shallow), (902, .sl 3 (.int .i64) r.2.2.2.2.1 .shallow), (903, .sl 23 (.sl (.int .i64)) r.2.2.2.2.2 (.deep true .no))]))) he (leads_ren [(10005000, 10002000), (10005001, 10002001), (10005002, 50), (10005003, 10002002), (10005004, 10002003)] (l := [(0, .c (.ptr 0 0)), (4, .c (.ptr 10005000 0)), (5, .c (.ptr 10005001 0)), (7, .c (.int .i64 i3)), (8, .c (.own 10005002 false)), (9, .c (.int .i64 (0:Int)))]) (st' := [(0, .rc [.imm (.int .u8) i9.1, .int .i64 i9.2]), (1, .sl 3 (.int .i64) o1 .shallow), (2, .sl 124 (.pair (.int .i64) (.pair (.sl (.int .i64)) (.pair (.sl (.int .i64)) (.pair (.int .i64) (.sl (.sl (.int .i64))))))) o2 (.deep true .no)), (10005000, .rc [.int .i64 (0:Int), .nil, .nil, .int .i64 (0:Int), .nil]), (10005001, .rc [.int .i64 r1_.1, .own 10005003 false, .nil, .int .i64 (0:Int), .own 10005004 false]), (10005002, .sl 3 (.int .i64) ([] : List Int) .shallow), (10005003, .sl 3 (.int .i64) r2_.2 .shallow), (10005004, .sl 23 (.sl (.int .i64)) i_4 (.deep true .no))]) rfl rfl ⟨⟨.inl rfl, rfl, trivial⟩, ⟨rfl, rfl⟩, ⟨rfl, rfl⟩, ⟨rfl, rfl, rfl, rfl, rfl, trivial⟩, ⟨rfl, ⟨⟨rfl, rfl⟩, trivial⟩, rfl, rfl, ⟨⟨rfl, rfl⟩, trivial⟩, trivial⟩, ⟨rfl, rfl⟩, ⟨rfl, rfl⟩, ⟨rfl, rfl⟩, trivial⟩ ⟨⟨⟨rfl, rfl⟩, rfl⟩, ⟨⟨rfl, rfl⟩, rfl⟩, ⟨⟨rfl, rfl⟩, rfl⟩, rfl, ⟨⟨rfl, rfl⟩, trivial⟩, rfl, trivial⟩) ?_
          rintro ⟨i10, i11, i12⟩ J2 he
          refine And.intro (fun hb => ?_) (fun hb => ?_)
          · have he := ok_t he hb
            obtain ⟨r11_, hr, he⟩ := ok_bind he
            refine ⟨r11_, hr, ?_⟩
            have he := ok_rq he
            refine And.intro he.1 ?_
            have he := he.2
            have he := ok_rq he
            refine And.intro he.1 ?_
            have he := he.2
            have he := ok_some he
            exact ⟨((i10 + (1:Int)), r11_.2, (i12 ++ [r11_.1])), he, (leads_ren [(10005002, 62)] (l := [(0, .c (.ptr 0 0)), (4, .c (.ptr 10005000 0)), (5, .c (.ptr 10005001 0)), (7, .c (.int .i64 i3)), (8, .c (.own 10005002 false)), (9, .c (.int .i64 (i10 + (1:Int))))]) (st' := [(0, .rc [.imm (.int .u8) r11_.2.1, .int .i64 r11_.2.2]), (1, .sl 3 (.int .i64) o1 .shallow), (2, .sl 124 (.pair (.int .i64) (.pair (.sl (.int .i64)) (.pair (.sl (.int .i64)) (.pair (.int .i64) (.sl (.sl (.int .i64))))))) o2 (.deep true .no)), (10005000, .rc [.int .i64 (0:Int), .nil, .nil, .int .i64 (0:Int), .nil]), (10005001, .rc [.int .i64 r1_.1, .own 10005003 false, .nil, .int .i64 (0:Int), .own 10005004 false]), (10005002, .sl 3 (.int .i64) (i12 ++ [r11_.1]) .shallow), (10005003, .sl 3 (.int .i64) r2_.2 .shallow), (10005004, .sl 23 (.sl (.int .i64)) i_4 (.deep true .no))]) rfl rfl ⟨⟨.inl rfl, rfl, trivial⟩, ⟨rfl, rfl⟩, ⟨rfl, rfl⟩, ⟨rfl, rfl, rfl, rfl, rfl, trivial⟩, ⟨rfl, ⟨⟨rfl, rfl⟩, trivial⟩, rfl, rfl, ⟨⟨rfl, rfl⟩, trivial⟩, trivial⟩, ⟨rfl, rfl⟩, ⟨rfl, rfl⟩, ⟨rfl, rfl⟩, trivial⟩ ⟨⟨⟨rfl, rfl⟩, rfl⟩, ⟨⟨rfl, rfl⟩, rfl⟩, ⟨⟨rfl, rfl⟩, rfl⟩, rfl, ⟨⟨rfl, rfl⟩, trivial⟩, rfl, trivial⟩)⟩
          · have he := ok_f he hb
            exact ⟨(i11, i12), ok_up he, (leads_ren [(10006000, 10005000), (10006001, 10005001), (10006002, 10005002), (10006003, 10005003), (10006004, 10005004)] (l := [(0, .c (.ptr 0 0)), (4, .c (.ptr 10006000 0)), (5, .c (.ptr 10006001 0)), (7, .c (.int .i64 i3)), (8, .c (.own 10006002 false))]) (st' := [(0, .rc [.imm (.int .u8) i11.1, .int .i64 i11.2]), (1, .sl 3 (.int .i64) o1 .shallow), (2, .sl 124 (.pair (.int .i64) (.pair (.sl (.int .i64)) (.pair (.sl (.int .i64)) (.pair (.int .i64) (.sl (.sl (.int .i64))))))) o2 (.deep true .no)), (10006000, .rc [.int .i64 (0:Int), .nil, .nil, .int .i64 (0:Int), .nil]), (10006001, .rc [.int .i64 r1_.1, .own 10006003 false, .nil, .int .i64 (0:Int), .own 10006004 false]), (10006002, .sl 3 (.int .i64) i12 .shallow), (10006003, .sl 3 (.int .i64) r2_.2 .shallow), (10006004, .sl 23 (.sl (.int .i64)) i_4 (.deep true .no))]) rfl rfl ⟨⟨.inl rfl, rfl, trivial⟩, ⟨rfl, rfl⟩, ⟨rfl, rfl⟩, ⟨rfl, rfl, rfl, rfl, rfl, trivial⟩, ⟨rfl, ⟨⟨rfl, rfl⟩, trivial⟩, rfl, rfl, ⟨⟨rfl, rfl⟩, trivial⟩, trivial⟩, ⟨rfl, rfl⟩, ⟨rfl, rfl⟩, ⟨rfl, rfl⟩, trivial⟩ ⟨⟨⟨rfl, rfl⟩, rfl⟩, ⟨⟨rfl, rfl⟩, rfl⟩, ⟨⟨rfl, rfl⟩, rfl⟩, rfl, ⟨⟨rfl, rfl⟩, trivial⟩, trivial⟩)⟩
      · have he := ok_f he hb
        have he := ok_some he
        exact ⟨rfl, _, _, (leads_ren [(900, 10002000), (901, 10002002), (903, 10002003)] (l := [(4, .c (.ptr 900 0))]) (st' := [(0, .rc [.imm (.int .u8) i9.1, .int .i64 i9.2]), (1, .sl 3 (.int .i64) o1 .shallow), (2, .sl 124 (.pair (.int .i64) (.pair (.sl (.int .i64)) (.pair (.sl (.int .i64)) (.pair (.int .i64) (.sl (.sl (.int .i64))))))) o2 (.deep true .no)), (900, .rc [.int .i64 r1_.1, .own 901 false, .own 902 false, .int .i64 (0:Int), .own 903 false]), (901, .sl 3 (.int .i64) r2_.2 .shallow), (902, .sl 3 (.int .i64) ([] : List Int) .shallow), (903, .sl 23 (.sl (.int .i64)) i_4 (.deep true .no))]) rfl rfl ⟨⟨.inl rfl, rfl, trivial⟩, ⟨rfl, rfl⟩, ⟨rfl, rfl⟩, ⟨rfl, ⟨⟨rfl, rfl⟩, trivial⟩, ⟨rfl, trivial⟩, rfl, ⟨⟨rfl, rfl⟩, trivial⟩, trivial⟩, ⟨rfl, rfl⟩, trivial, ⟨rfl, rfl⟩, trivial⟩ ⟨⟨⟨rfl, rfl⟩, rfl⟩, trivial⟩), he⟩
    · have he := ok_f he hb
      refine And.intro (fun hb => ?_) (fun hb => ?_)
      · have he := ok_t he hb
        obtain ⟨r12_, hr, he⟩ := ok_bind he
        refine ⟨r12_, hr, ?_⟩
        have he := ok_rq he
        refine And.intro he.1 ?_
        have he := he.2
        have he := ok_some he
        exact ⟨rfl, _, _, (leads_ren [(900, 4), (901, 74)] (l := [(4, .c (.ptr 900 0))]) (st' := [(0, .rc [.imm (.int .u8) r12_.1.1, .int .i64 r12_.1.2]), (1, .sl 3 (.int .i64) o1 .shallow), (2, .sl 124 (.pair (.int .i64) (.pair (.sl (.int .i64)) (.pair (.sl (.int .i64)) (.pair (.int .i64) (.sl (.sl (.int .i64))))))) o2 (.deep true .no)), (900, .rc [.int .i64 r1_.1, .own 901 false, .own 902 false, .int .i64 (0:Int), .own 903 false]), (901, .sl 3 (.int .i64) (r12_.2.take (2:Int).toNat) .shallow), (902, .sl 3 (.int .i64) ([] : List Int) .shallow), (903, .sl 23 (.sl (.int .i64)) ([] : List (List Int)) (.deep true .no))]) rfl rfl ⟨⟨.inl rfl, rfl, trivial⟩, ⟨rfl, rfl⟩, ⟨rfl, rfl⟩, ⟨rfl, ⟨⟨rfl, rfl⟩, trivial⟩, ⟨rfl, trivial⟩, rfl, ⟨rfl, trivial⟩, trivial⟩, ⟨rfl, rfl⟩, trivial, trivial, trivial⟩ ⟨⟨⟨rfl, rfl⟩, rfl⟩, trivial⟩), he⟩
      · have he := ok_f he hb
        have he := ok_some he
        exact ⟨rfl, _, _, (leads_ren [(900, 4), (901, 17900)] (l := [(4, .c (.ptr 900 0))]) (st' := [(0, .rc [.imm (.int .u8) r2_.1.1, .int .i64 r2_.1.2]), (1, .sl 3 (.int .i64) o1 .shallow), (2, .sl 124 (.pair (.int .i64) (.pair (.sl (.int .i64)) (.pair (.sl (.int .i64)) (.pair (.int .i64) (.sl (.sl (.int .i64))))))) o2 (.deep true .no)), (900, .rc [.int .i64 r1_.1, .own 901 false, .own 902 false, .int .i64 (0:Int), .own 903 false]), (901, .sl 3 (.int .i64) r2_.2 .shallow), (902, .sl 3 (.int .i64) ([] : List Int) .shallow), (903, .sl 23 (.sl (.int .i64)) ([] : List (List Int)) (.deep true .no))]) rfl rfl ⟨⟨.inl rfl, rfl, trivial⟩, ⟨rfl, rfl⟩, ⟨rfl, rfl⟩, ⟨rfl, ⟨⟨rfl, rfl⟩, trivial⟩, ⟨rfl, trivial⟩, rfl, ⟨rfl, trivial⟩, trivial⟩, ⟨rfl, rfl⟩, trivial, trivial, trivial⟩ ⟨⟨⟨rfl, rfl⟩, rfl⟩, trivial⟩), he⟩

noncomputable def c_spec_l6Model : Con := fun args st => match args, st with
  | [.c (.ptr 0 0)], [(0, .rc [.imm (.int .u8) o0_0, .int .i64 o0_1])] => .opt (((List Int) × Int) × (List Int) × (List (Int × (List Int) × (List Int) × Int × (List (List Int))))) (spec_l6Model (o0_0, o0_1)) (fun r => .ret (.agg [.own 901 false, .own 902 false]) [(0, .rc [.imm (.int .u8) r.1.1, .int .i64 r.1.2]), (900, .rc [.own 901 false, .own 902 false]), (901, .sl 3 (.int .i64) r.2.1 .shallow), (902, .sl 124 (.pair (.int .i64) (.pair (.sl (.int .i64)) (.pair (.sl (.int .i64)) (.pair (.int .i64) (.sl (.sl (.int .i64))))))) r.2.2 (.deep true .no))])
  | _, _ => .fail

noncomputable def C_spec_l6Model : Cfg := { y := tys, n := 67, h := 1, tab := [(99, c_spec_l17Rd_num), (204, c_spec_l6Draw__rsd)], cut := [6, 15], hand := [(204, [1])], good := [], deep := [63], sched := [(5, (.first 0 (.first 2 (.alt 1 (.alt 3 (.alt 4 (.alt 5 (.alt 6 (.first 7 (.alt 8 .done .stop)) .stop) .stop) .stop) .stop) (.alt 3 (.alt 1 (.alt 4 (.alt 5 (.alt 6 (.first 7 (.alt 8 .done .stop)) .stop) .stop) .stop) (.alt 4 (.alt 1 (.alt 5 (.alt 6 (.first 7 (.alt 8 .done .stop)) .stop) .stop) (.alt 5 (.alt 1 (.alt 6 (.first 7 (.alt 8 .done .stop)) .stop) .stop) .stop)) .stop)) .stop))))), (18, (.first 0 (.first 2 (.alt 1 (.alt 3 (.alt 4 (.alt 5 (.alt 6 (.first 7 (.alt 8 .done .stop)) .stop) .stop) .stop) .stop) (.alt 3 (.alt 1 (.alt 4 (.alt 5 (.alt 6 (.first 7 (.alt 8 .done .stop)) .stop) .stop) .stop) (.alt 4 (.alt 1 (.alt 5 (.alt 6 (.first 7 (.alt 8 .done .stop)) .stop) .stop) (.alt 5 (.alt 1 (.alt 6 (.first 7 (.alt 8 .done .stop)) .stop) .stop) .stop)) .stop)) .stop)))))] }

theorem t_spec_l6Model : TabOk Try.prog C_spec_l6Model := by
  refine tabOk_of ?_
  simp only [C_spec_l6Model, List.forall_mem_cons]
  exact ⟨k_spec_l17Rd_num, k_spec_l6Draw__rsd, fun p h => by cases h⟩

theorem k_spec_l6Model : Entry Try.prog 96 c_spec_l6Model := by
  refine entry_by (C := C_spec_l6Model) mixed tys_ok t_spec_l6Model (fn := Try.f96) (c := bd Try.f96) (by kernel_rfl) (by kernel_rfl) (by kernel_rfl) (by kernel_rfl) ?_
  intro args st k he
  unfold c_spec_l6Model at he
  split at he
  rotate_left
  · exact he.elim
  rename_i o0_0 o0_1
  have he : Ok (spec_l6Model (o0_0, o0_1)) (fun r => k (.agg [.own 901 false, .own 902 false]) [(0, .rc [.imm (.int .u8) r.1.1, .int .i64 r.1.2]), (900, .rc [.own 901 false, .own 902 false]), (901, .sl 3 (.int .i64) r.2.1 .shallow), (902, .sl 124 (.pair (.int .i64) (.pair (.sl (.int .i64)) (.pair (.sl (.int .i64)) (.pair (.int .i64) (.sl (.sl (.int .i64))))))) r.2.2 (.deep true .no))]) := he
  refine ⟨rfl, rfl, ?_⟩
  refine seq_model mixed tys_ok t_spec_l6Model (S := ((List Int) × Int) × (List Int)) (I := (fun (i2, i_01) => (envOf [(0, .c (.ptr 0 0)), (2, .c (.ptr 10001000 0)), (3, .c (.ptr 10001001 0))], [(0, .rc [.imm (.int .u8) i2.1, .int .i64 i2.2]), (10001000, .rc [.nil, .nil]), (10001001, .rc [.own 10001002 false, .nil]), (10001002, .sl 3 (.int .i64) i_01 .shallow)]))) (B := fun s => Ok (spec_l6Model_j1 s) (fun r => k (.agg [.own 901 false, .own 902 false]) [(0, .rc [.imm (.int .u8) r.1.1, .int .i64 r.1.2]), (900, .rc [.own 901 false, .own 902 false]), (901, .sl 3 (.int .i64) r.2.1 .shallow), (902, .sl 124 (.pair (.int .i64) (.pair (.sl (.int .i64)) (.pair (.sl (.int .i64)) (.pair (.int .i64) (.sl (.sl (.int .i64))))))) r.2.2 (.deep true .no))])) ?_ ?_
  · rintro ⟨i2, i_01⟩ he
    refine seq_model mixed tys_ok t_spec_l6Model (S := (List Int)) (I := (fun i_03 => (envOf [(0, .c (.ptr 0 0)), (2, .c (.ptr 10005000 0)), (3, .c (.ptr 10005001 0))], [(0, .rc [.imm (.int .u8) i2.1, .int .i64 i2.2]), (10005000, .rc [.nil, .nil]), (10005001, .rc [.own 10005002 false, .nil]), (10005002, .sl 3 (.int .i64) i_03 .shallow)]))) (B := fun s => Ok (spec_l6Model_j2 i2 s) (fun r => k (.agg [.own 901 false, .own 902 false]) [(0, .rc [.imm (.int .u8) r.1.1, .int .i64 r.1.2]), (900, .rc [.own 901 false, .own 902 false]), (901, .sl 3 (.int .i64) r.2.1 .shallow), (902, .sl 124 (.pair (.int .i64) (.pair (.sl (.int .i64)) (.pair (.sl (.int .i64)) (.pair (.int .i64) (.sl (.sl (.int .i64))))))) r.2.2 (.deep true .no))])) ?_ ?_
    · rintro i_03 he
      obtain ⟨r5_, hr, he⟩ := ok_bind he
      refine ⟨r5_, hr, ?_⟩
      refine loop_model mixed tys_ok t_spec_l6Model (S := Int × ((List Int) × Int) × (List (Int × (List Int) × (List Int) × Int × (List (List Int))))) (I := (fun (i8, i9, i_1) => (envOf [(0, .c (.ptr 0 0)), (2, .c (.ptr 10006000 0)), (3, .c (.ptr 10006001 0)), (7, .c (.int .i64 i8))], [(0, .rc [.imm (.int .u8) i9.1, .int .i64 i9.2]), (10006000, .rc [.nil, .nil]), (10006001, .rc [.own 10006002 false, .own 10006003 false]), (10006002, .sl 3 (.int .i64) i_03 .shallow), (10006003, .sl 124 (.pair (.int .i64) (.pair (.sl (.int .i64)) (.pair (.sl (.int .i64)) (.pair (.int .i64) (.sl (.sl (.int .i64))))))) i_1 (.deep true .no))]))) (f := spec_l6Model_l1 i_03) (K := (fun r => k (.agg [.own 901 false, .own 902 false]) [(0, .rc [.imm (.int .u8) r.1.1, .int .i64 r.1.2]), (900, .rc [.own 901 false, .own 902 false]), (901, .sl 3 (.int .i64) r.2.1 .shallow), (902, .sl 124 (.pair (.int .i64) (.pair (.sl (.int .i64)) (.pair (.sl (.int .i64)) (.pair (.int .i64) (.sl (.sl (.int .i64))))))) r.2.2 (.deep true .no))])) he (leads_ren [(10006000, 10005000), (10006001, 10005001), (10006002, 10005002)] (l := [(0, .c (.ptr 0 0)), (2, .c (.ptr 10006000 0)), (3, .c (.ptr 10006001 0)), (7, .c (.int .i64 r5_.1))]) (st' := [(0, .rc [.imm (.int .u8) r5_.2.1, .int .i64 r5_.2.2]), (10006000, .rc [.nil, .nil]), (10006001, .rc [.own 10006002 false, .own 10006003 false]), (10006002, .sl 3 (.int .i64) i_03 .shallow), (10006003, .sl 124 (.pair (.int .i64) (.pair (.sl (.int .i64)) (.pair (.sl (.int .i64)) (.pair (.int .i64) (.sl (.sl (.int .i64))))))) ([] : List (Int × (List Int) × (List Int) × Int × (List (List Int)))) (.deep true .no))]) rfl rfl ⟨⟨.inl rfl, rfl, trivial⟩, ⟨rfl, rfl, trivial⟩, ⟨⟨⟨rfl, rfl⟩, trivial⟩, ⟨rfl, trivial⟩, trivial⟩, ⟨rfl, rfl⟩, trivial, trivial⟩ ⟨⟨⟨rfl, rfl⟩, rfl⟩, ⟨⟨rfl, rfl⟩, rfl⟩, ⟨⟨rfl, rfl⟩, rfl⟩, rfl, trivial⟩) ?_
      rintro ⟨i8, i9, i_1⟩ J1 he
      refine And.intro (fun hb => ?_) (fun hb => ?_)
      · have he := ok_t he hb
        refine And.intro (by kernel_rfl) ?_
        obtain ⟨r8_, hq1, he⟩ := ok_bind he
        have he := ok_rq he
        have hq2 := he.1
        have he := he.2
        refine And.intro ?_ (And.intro ?_ (trivial))
        · skip
          refine And.intro ?_ trivial
          refine And.intro ?_ trivial
          refine ⟨r8_, hq1, ?_⟩
          refine And.intro ?_ trivial
          refine And.intro ?_ trivial
          refine And.intro hq2 ?_
          refine And.intro ?_ trivial
          have he := ok_rq he
          refine And.intro he.1 ?_
          have he := he.2
          have he := ok_some he
          exact ⟨((i8 - (1:Int)), r8_.1, (i_1 ++ [(r8_.2.1, (r8_.2.2.2.1, (r8_.2.2.2.2.1, (r8_.2.2.1, r8_.2.2.2.2.2))))])), he, (leads_ren [(10006003, 64)] (l := [(0, .c (.ptr 0 0)), (2, .c (.ptr 10006000 0)), (3, .c (.ptr 10006001 0)), (7, .c (.int .i64 (i8 - (1:Int))))]) (st' := [(0, .rc [.imm (.int .u8) r8_.1.1, .int .i64 r8_.1.2]), (10006000, .rc [.nil, .nil]), (10006001, .rc [.own 10006002 false, .own 10006003 false]), (10006002, .sl 3 (.int .i64) i_03 .shallow), (10006003, .sl 124 (.pair (.int .i64) (.pair (.sl (.int .i64)) (.pair (.sl (.int .i64)) (.pair (.int .i64) (.sl (.sl (.int .i64))))))) (i_1 ++ [(r8_.2.1, (r8_.2.2.2.1, (r8_.2.2.2.2.1, (r8_.2.2.1, r8_.2.2.2.2.2))))]) (.deep true .no))]) rfl rfl ⟨⟨.inl rfl, rfl, trivial⟩, ⟨rfl, rfl, trivial⟩, ⟨⟨⟨rfl, rfl⟩, trivial⟩, ⟨⟨rfl, rfl⟩, trivial⟩, trivial⟩, ⟨rfl, rfl⟩, ⟨rfl, rfl⟩, trivial⟩ ⟨⟨⟨rfl, rfl⟩, rfl⟩, ⟨⟨rfl, rfl⟩, rfl⟩, ⟨⟨rfl, rfl⟩, rfl⟩, rfl, trivial⟩)⟩
        · skip
          refine And.intro ?_ (And.intro ?_ (trivial))
          · skip
            refine And.intro ?_ trivial
            refine ⟨r8_, hq1, ?_⟩
            refine And.intro ?_ trivial
            refine And.intro ?_ trivial
            refine And.intro hq2 ?_
            refine And.intro ?_ trivial
            have he := ok_rq he
            refine And.intro he.1 ?_
            have he := he.2
            have he := ok_some he
            exact ⟨((i8 - (1:Int)), r8_.1, (i_1 ++ [(r8_.2.1, (r8_.2.2.2.1, (r8_.2.2.2.2.1, (r8_.2.2.1, r8_.2.2.2.2.2))))])), he, (leads_ren [(10006003, 64)] (l := [(0, .c (.ptr 0 0)), (2, .c (.ptr 10006000 0)), (3, .c (.ptr 10006001 0)), (7, .c (.int .i64 (i8 - (1:Int))))]) (st' := [(0, .rc [.imm (.int .u8) r8_.1.1, .int .i64 r8_.1.2]), (10006000, .rc [.nil, .nil]), (10006001, .rc [.own 10006002 false, .own 10006003 false]), (10006002, .sl 3 (.int .i64) i_03 .shallow), (10006003, .sl 124 (.pair (.int .i64) (.pair (.sl (.int .i64)) (.pair (.sl (.int .i64)) (.pair (.int .i64) (.sl (.sl (.int .i64))))))) (i_1 ++ [(r8_.2.1, (r8_.2.2.2.1, (r8_.2.2.2.2.1, (r8_.2.2.1, r8_.2.2.2.2.2))))]) (.deep true .no))]) rfl rfl ⟨⟨.inl rfl, rfl, trivial⟩, ⟨rfl, rfl, trivial⟩, ⟨⟨⟨rfl, rfl⟩, trivial⟩, ⟨⟨rfl, rfl⟩, trivial⟩, trivial⟩, ⟨rfl, rfl⟩, ⟨rfl, rfl⟩, trivial⟩ ⟨⟨⟨rfl, rfl⟩, rfl⟩, ⟨⟨rfl, rfl⟩, rfl⟩, ⟨⟨rfl, rfl⟩, rfl⟩, rfl, trivial⟩)⟩
          · skip
            refine ⟨r8_, hq1, ?_⟩
            refine And.intro ?_ (And.intro ?_ (trivial))
            · skip
              refine And.intro ?_ trivial
              refine And.intro ?_ trivial
              refine And.intro hq2 ?_
              refine And.intro ?_ trivial
              have he := ok_rq he
              refine And.intro he.1 ?_
              have he := he.2
              have he := ok_some he
              exact ⟨((i8 - (1:Int)), r8_.1, (i_1 ++ [(r8_.2.1, (r8_.2.2.2.1, (r8_.2.2.2.2.1, (r8_.2.2.1, r8_.2.2.2.2.2))))])), he, (leads_ren [(10006003, 64)] (l := [(0, .c (.ptr 0 0)), (2, .c (.ptr 10006000 0)), (3, .c (.ptr 10006001 0)), (7, .c (.int .i64 (i8 - (1:Int))))]) (st' := [(0, .rc [.imm (.int .u8) r8_.1.1, .int .i64 r8_.1.2]), (10006000, .rc [.nil, .nil]), (10006001, .rc [.own 10006002 false, .own 10006003 false]), (10006002, .sl 3 (.int .i64) i_03 .shallow), (10006003, .sl 124 (.pair (.int .i64) (.pair (.sl (.int .i64)) (.pair (.sl (.int .i64)) (.pair (.int .i64) (.sl (.sl (.int .i64))))))) (i_1 ++ [(r8_.2.1, (r8_.2.2.2.1, (r8_.2.2.2.2.1, (r8_.2.2.1, r8_.2.2.2.2.2))))]) (.deep true .no))]) rfl rfl ⟨⟨.inl rfl, rfl, trivial⟩, ⟨rfl, rfl, trivial⟩, ⟨⟨⟨rfl, rfl⟩, trivial⟩, ⟨⟨rfl, rfl⟩, trivial⟩, trivial⟩, ⟨rfl, rfl⟩, ⟨rfl, rfl⟩, trivial⟩ ⟨⟨⟨rfl, rfl⟩, rfl⟩, ⟨⟨rfl, rfl⟩, rfl⟩, ⟨⟨rfl, rfl⟩, rfl⟩, rfl, trivial⟩)⟩
            · skip
              refine And.intro ?_ trivial
              refine And.intro ?_ trivial
              refine And.intro hq2 ?_
              refine And.intro ?_ trivial
              have he := ok_rq he
              refine And.intro he.1 ?_
              have he := he.2
              have he := ok_some he
              exact ⟨((i8 - (1:Int)), r8_.1, (i_1 ++ [(r8_.2.1, (r8_.2.2.2.1, (r8_.2.2.2.2.1, (r8_.2.2.1, r8_.2.2.2.2.2))))])), he, (leads_ren [(10006003, 64)] (l := [(0, .c (.ptr 0 0)), (2, .c (.ptr 10006000 0)), (3, .c (.ptr 10006001 0)), (7, .c (.int .i64 (i8 - (1:Int))))]) (st' := [(0, .rc [.imm (.int .u8) r8_.1.1, .int .i64 r8_.1.2]), (10006000, .rc [.nil, .nil]), (10006001, .rc [.own 10006002 false, .own 10006003 false]), (10006002, .sl 3 (.int .i64) i_03 .shallow), (10006003, .sl 124 (.pair (.int .i64) (.pair (.sl (.int .i64)) (.pair (.sl (.int .i64)) (.pair (.int .i64) (.sl (.sl (.int .i64))))))) (i_1 ++ [(r8_.2.1, (r8_.2.2.2.1, (r8_.2.2.2.2.1, (r8_.2.2.1, r8_.2.2.2.2.2))))]) (.deep true .no))]) rfl rfl ⟨⟨.inl rfl, rfl, trivial⟩, ⟨rfl, rfl, trivial⟩, ⟨⟨⟨rfl, rfl⟩, trivial⟩, ⟨⟨rfl, rfl⟩, trivial⟩, trivial⟩, ⟨rfl, rfl⟩, ⟨rfl, rfl⟩, trivial⟩ ⟨⟨⟨rfl, rfl⟩, rfl⟩, ⟨⟨rfl, rfl⟩, rfl⟩, ⟨⟨rfl, rfl⟩, rfl⟩, rfl, trivial⟩)⟩
      · have he := ok_f he hb
        have he := ok_some he
        exact ⟨rfl, _, _, (leads_ren [(900, 10006000), (901, 10006002), (902, 10006003)] (l := [(2, .c (.ptr 900 0))]) (st' := [(0, .rc [.imm (.int .u8) i9.1, .int .i64 i9.2]), (900, .rc [.own 901 false, .own 902 false]), (901, .sl 3 (.int .i64) i_03 .shallow), (902, .sl 124 (.pair (.int .i64) (.pair (.sl (.int .i64)) (.pair (.sl (.int .i64)) (.pair (.int .i64) (.sl (.sl (.int .i64))))))) i_1 (.deep true .no))]) rfl rfl ⟨⟨.inl rfl, rfl, trivial⟩, ⟨⟨⟨rfl, rfl⟩, trivial⟩, ⟨⟨rfl, rfl⟩, trivial⟩, trivial⟩, ⟨rfl, rfl⟩, ⟨rfl, rfl⟩, trivial⟩ ⟨⟨⟨rfl, rfl⟩, rfl⟩, trivial⟩), he⟩
    · skip
      refine loop_model mixed tys_ok t_spec_l6Model (S := Int × (List Int)) (I := (fun (i3, i_02) => (envOf [(0, .c (.ptr 0 0)), (2, .c (.ptr 10002000 0)), (3, .c (.ptr 10002001 0)), (5, .c (.int .i64 i3))], [(0, .rc [.imm (.int .u8) i2.1, .int .i64 i2.2]), (10002000, .rc [.nil, .nil]), (10002001, .rc [.own 10002002 false, .nil]), (10002002, .sl 3 (.int .i64) i_02 .shallow)]))) (f := spec_l6Model_l2 i2) (K := (fun r => k (.agg [.own 901 false, .own 902 false]) [(0, .rc [.imm (.int .u8) r.1.1, .int .i64 r.1.2]), (900, .rc [.own 901 false, .own 902 false]), (901, .sl 3 (.int .i64) r.2.1 .shallow), (902, .sl 124 (.pair (.int .i64) (.pair (.sl (.int .i64)) (.pair (.sl (.int .i64)) (.pair (.int .i64) (.sl (.sl (.int .i64))))))) r.2.2 (.deep true .no))])) he (leads_ren [(10002000, 10001000), (10002001, 10001001), (10002002, 10001002)] (l := [(0, .c (.ptr 0 0)), (2, .c (.ptr 10002000 0)), (3, .c (.ptr 10002001 0)), (5, .c (.int .i64 (0:Int)))]) (st' := [(0, .rc [.imm (.int .u8) i2.1, .int .i64 i2.2]), (10002000, .rc [.nil, .nil]), (10002001, .rc [.own 10002002 false, .nil]), (10002002, .sl 3 (.int .i64) i_01 .shallow)]) rfl rfl ⟨⟨.inl rfl, rfl, trivial⟩, ⟨rfl, rfl, trivial⟩, ⟨⟨⟨rfl, rfl⟩, trivial⟩, rfl, trivial⟩, ⟨rfl, rfl⟩, trivial⟩ ⟨⟨⟨rfl, rfl⟩, rfl⟩, ⟨⟨rfl, rfl⟩, rfl⟩, ⟨⟨rfl, rfl⟩, rfl⟩, rfl, trivial⟩) ?_
      rintro ⟨i3, i_02⟩ J1 he
      refine And.intro (fun hb => ?_) (fun hb => ?_)
      · have he := ok_t he hb
        refine loop_model mixed tys_ok t_spec_l6Model (S := Int × Int) (I := (fun (i6, i7) => (envOf [(0, .c (.ptr 0 0)), (2, .c (.ptr 10004000 0)), (3, .c (.ptr 10004001 0)), (5, .c (.int .i64 i6)), (6, .c (.int .i64 i7))], [(0, .rc [.imm (.int .u8) i2.1, .int .i64 i2.2]), (10004000, .rc [.nil, .nil]), (10004001, .rc [.own 10004002 false, .nil]), (10004002, .sl 3 (.int .i64) i_02 .shallow)]))) (f := spec_l6Model_l3 i_02) (K := (LK J1 (fun r => k (.agg [.own 901 false, .own 902 false]) [(0, .rc [.imm (.int .u8) r.1.1, .int .i64 r.1.2]), (900, .rc [.own 901 false, .own 902 false]), (901, .sl 3 (.int .i64) r.2.1 .shallow), (902, .sl 124 (.pair (.int .i64) (.pair (.sl (.int .i64)) (.pair (.sl (.int .i64)) (.pair (.int .i64) (.sl (.sl (.int .i64))))))) r.2.2 (.deep true .no))]))) he (leads_ren [(10004000, 10002000), (10004001, 10002001), (10004002, 10002002)] (l := [(0, .c (.ptr 0 0)), (2, .c (.ptr 10004000 0)), (3, .c (.ptr 10004001 0)), (5, .c (.int .i64 i3)), (6, .c (.int .i64 (0:Int)))]) (st' := [(0, .rc [.imm (.int .u8) i2.1, .int .i64 i2.2]), (10004000, .rc [.nil, .nil]), (10004001, .rc [.own 10004002 false, .nil]), (10004002, .sl 3 (.int .i64) i_02 .shallow)]) rfl rfl ⟨⟨.inl rfl, rfl, trivial⟩, ⟨rfl, rfl, trivial⟩, ⟨⟨⟨rfl, rfl⟩, trivial⟩, rfl, trivial⟩, ⟨rfl, rfl⟩, trivial⟩ ⟨⟨⟨rfl, rfl⟩, rfl⟩, ⟨⟨rfl, rfl⟩, rfl⟩, ⟨⟨rfl, rfl⟩, rfl⟩, rfl, rfl, trivial⟩) ?_
        rintro ⟨i6, i7⟩ J2 he
        refine And.intro (fun hb => ?_) (fun hb => ?_)
        · have he := ok_t he hb
          have he := ok_rq he
          refine And.intro he.1 ?_
          have he := he.2
          have he := ok_rq he
          refine And.intro he.1 ?_
          have he := he.2
          have he := ok_rq he
          refine And.intro he.1 ?_
          have he := he.2
          have he := ok_rq he
          refine And.intro he.1 ?_
          have he := he.2
          have he := ok_some he
          exact ⟨(((i6 + (i_02.getD i7.toNat 0)) + (1:Int)), (i7 + (1:Int))), he, (leads_ren [] (l := [(0, .c (.ptr 0 0)), (2, .c (.ptr 10004000 0)), (3, .c (.ptr 10004001 0)), (5, .c (.int .i64 ((i6 + (i_02.getD i7.toNat 0)) + (1:Int)))), (6, .c (.int .i64 (i7 + (1:Int))))]) (st' := [(0, .rc [.imm (.int .u8) i2.1, .int .i64 i2.2]), (10004000, .rc [.nil, .nil]), (10004001, .rc [.own 10004002 false, .nil]), (10004002, .sl 3 (.int .i64) i_02 .shallow)]) rfl rfl ⟨⟨.inl rfl, rfl, trivial⟩, ⟨rfl, rfl, trivial⟩, ⟨⟨⟨rfl, rfl⟩, trivial⟩, rfl, trivial⟩, ⟨rfl, rfl⟩, trivial⟩ ⟨⟨⟨rfl, rfl⟩, rfl⟩, ⟨⟨rfl, rfl⟩, rfl⟩, ⟨⟨rfl, rfl⟩, rfl⟩, rfl, rfl, trivial⟩)⟩
        · have he := ok_f he hb
          refine And.intro (fun hb => ?_) (fun hb => ?_)
          · have he := ok_t he hb
            have he := ok_rq he
            refine And.intro he.1 ?_
            have he := he.2
            have he := ok_rq he
            refine And.intro he.1 ?_
            have he := he.2
            have he := ok_some he
            exact ⟨((0:Int), (i_02.take ((i_02.length:Int) - (1:Int)).toNat)), he, (leads_ren [(10002000, 10004000), (10002001, 10004001), (10002002, 49)] (l := [(0, .c (.ptr 0 0)), (2, .c (.ptr 10002000 0)), (3, .c (.ptr 10002001 0)), (5, .c (.int .i64 (0:Int)))]) (st' := [(0, .rc [.imm (.int .u8) i2.1, .int .i64 i2.2]), (10002000, .rc [.nil, .nil]), (10002001, .rc [.own 10002002 false, .nil]), (10002002, .sl 3 (.int .i64) (i_02.take ((i_02.length:Int) - (1:Int)).toNat) .shallow)]) rfl rfl ⟨⟨.inl rfl, rfl, trivial⟩, ⟨rfl, rfl, trivial⟩, ⟨⟨⟨rfl, rfl⟩, trivial⟩, rfl, trivial⟩, ⟨rfl, rfl⟩, trivial⟩ ⟨⟨⟨rfl, rfl⟩, rfl⟩, ⟨⟨rfl, rfl⟩, rfl⟩, ⟨⟨rfl, rfl⟩, rfl⟩, rfl, trivial⟩)⟩
          · have he := ok_f he hb
            have he := ok_some he
            exact ⟨(i6, i_02), he, (leads_ren [(10002000, 10004000), (10002001, 10004001), (10002002, 10004002)] (l := [(0, .c (.ptr 0 0)), (2, .c (.ptr 10002000 0)), (3, .c (.ptr 10002001 0)), (5, .c (.int .i64 i6))]) (st' := [(0, .rc [.imm (.int .u8) i2.1, .int .i64 i2.2]), (10002000, .rc [.nil, .nil]), (10002001, .rc [.own 10002002 false, .nil]), (10002002, .sl 3 (.int .i64) i_02 .shallow)]) rfl rfl ⟨⟨.inl rfl, rfl, trivial⟩, ⟨rfl, rfl, trivial⟩, ⟨⟨⟨rfl, rfl⟩, trivial⟩, rfl, trivial⟩, ⟨rfl, rfl⟩, trivial⟩ ⟨⟨⟨rfl, rfl⟩, rfl⟩, ⟨⟨rfl, rfl⟩, rfl⟩, ⟨⟨rfl, rfl⟩, rfl⟩, rfl, trivial⟩)⟩
      · have he := ok_f he hb
        exact ⟨i_02, ok_up he, (leads_ren [(10005000, 10002000), (10005001, 10002001), (10005002, 10002002)] (l := [(0, .c (.ptr 0 0)), (2, .c (.ptr 10005000 0)), (3, .c (.ptr 10005001 0))]) (st' := [(0, .rc [.imm (.int .u8) i2.1, .int .i64 i2.2]), (10005000, .rc [.nil, .nil]), (10005001, .rc [.own 10005002 false, .nil]), (10005002, .sl 3 (.int .i64) i_02 .shallow)]) rfl rfl ⟨⟨.inl rfl, rfl, trivial⟩, ⟨rfl, rfl, trivial⟩, ⟨⟨⟨rfl, rfl⟩, trivial⟩, rfl, trivial⟩, ⟨rfl, rfl⟩, trivial⟩ ⟨⟨⟨rfl, rfl⟩, rfl⟩, ⟨⟨rfl, rfl⟩, rfl⟩, ⟨⟨rfl, rfl⟩, rfl⟩, trivial⟩)⟩
  · skip
    obtain ⟨r1_, hr, he⟩ := ok_bind he
    refine ⟨r1_, hr, ?_⟩
    refine loop_model mixed tys_ok t_spec_l6Model (S := Int × ((List Int) × Int) × (List Int)) (I := (fun (i, i1, i_0) => (envOf [(0, .c (.ptr 0 0)), (2, .c (.ptr 10000000 0)), (3, .c (.ptr 10000001 0)), (4, .c (.int .i64 i))], [(0, .rc [.imm (.int .u8) i1.1, .int .i64 i1.2]), (10000000, .rc [.nil, .nil]), (10000001, .rc [.own 10000002 false, .nil]), (10000002, .sl 3 (.int .i64) i_0 .shallow)]))) (f := spec_l6Model_l4) (K := (fun r => k (.agg [.own 901 false, .own 902 false]) [(0, .rc [.imm (.int .u8) r.1.1, .int .i64 r.1.2]), (900, .rc [.own 901 false, .own 902 false]), (901, .sl 3 (.int .i64) r.2.1 .shallow), (902, .sl 124 (.pair (.int .i64) (.pair (.sl (.int .i64)) (.pair (.sl (.int .i64)) (.pair (.int .i64) (.sl (.sl (.int .i64))))))) r.2.2 (.deep true .no))])) he (leads_ren [(10000000, 2), (10000001, 3)] (l := [(0, .c (.ptr 0 0)), (2, .c (.ptr 10000000 0)), (3, .c (.ptr 10000001 0)), (4, .c (.int .i64 r1_.1))]) (st' := [(0, .rc [.imm (.int .u8) r1_.2.1, .int .i64 r1_.2.2]), (10000000, .rc [.nil, .nil]), (10000001, .rc [.own 10000002 false, .nil]), (10000002, .sl 3 (.int .i64) ([] : List Int) .shallow)]) rfl rfl ⟨⟨.inl rfl, rfl, trivial⟩, ⟨rfl, rfl, trivial⟩, ⟨⟨rfl, trivial⟩, rfl, trivial⟩, trivial, trivial⟩ ⟨⟨⟨rfl, rfl⟩, rfl⟩, ⟨⟨rfl, rfl⟩, rfl⟩, ⟨⟨rfl, rfl⟩, rfl⟩, rfl, trivial⟩) ?_
    rintro ⟨i, i1, i_0⟩ J1 he
    refine And.intro (fun hb => ?_) (fun hb => ?_)
    · have he := ok_t he hb
      refine And.intro (by kernel_rfl) ?_
      obtain ⟨r4_, hq1, he⟩ := ok_bind he
      have he := ok_rq he
      have hq2 := he.1
      have he := he.2
      refine And.intro ?_ (And.intro ?_ (trivial))
      · skip
        refine And.intro ?_ trivial
        refine And.intro ?_ trivial
        refine ⟨r4_, hq1, ?_⟩
        refine And.intro ?_ trivial
        refine And.intro ?_ trivial
        refine And.intro hq2 ?_
        refine And.intro ?_ trivial
        have he := ok_rq he
        refine And.intro he.1 ?_
        have he := he.2
        have he := ok_some he
        exact ⟨((i - (1:Int)), r4_.2, (i_0 ++ [r4_.1])), he, (leads_ren [(10000002, 22)] (l := [(0, .c (.ptr 0 0)), (2, .c (.ptr 10000000 0)), (3, .c (.ptr 10000001 0)), (4, .c (.int .i64 (i - (1:Int))))]) (st' := [(0, .rc [.imm (.int .u8) r4_.2.1, .int .i64 r4_.2.2]), (10000000, .rc [.nil, .nil]), (10000001, .rc [.own 10000002 false, .nil]), (10000002, .sl 3 (.int .i64) (i_0 ++ [r4_.1]) .shallow)]) rfl rfl ⟨⟨.inl rfl, rfl, trivial⟩, ⟨rfl, rfl, trivial⟩, ⟨⟨⟨rfl, rfl⟩, trivial⟩, rfl, trivial⟩, ⟨rfl, rfl⟩, trivial⟩ ⟨⟨⟨rfl, rfl⟩, rfl⟩, ⟨⟨rfl, rfl⟩, rfl⟩, ⟨⟨rfl, rfl⟩, rfl⟩, rfl, trivial⟩)⟩
      · skip
        refine And.intro ?_ (And.intro ?_ (trivial))
        · skip
          refine And.intro ?_ trivial
          refine ⟨r4_, hq1, ?_⟩
          refine And.intro ?_ trivial
          refine And.intro ?_ trivial
          refine And.intro hq2 ?_
          refine And.intro ?_ trivial
          have he := ok_rq he
          refine And.intro he.1 ?_
          have he := he.2
          have he := ok_some he
          exact ⟨((i - (1:Int)), r4_.2, (i_0 ++ [r4_.1])), he, (leads_ren [(10000002, 22)] (l := [(0, .c (.ptr 0 0)), (2, .c (.ptr 10000000 0)), (3, .c (.ptr 10000001 0)), (4, .c (.int .i64 (i - (1:Int))))]) (st' := [(0, .rc [.imm (.int .u8) r4_.2.1, .int .i64 r4_.2.2]), (10000000, .rc [.nil, .nil]), (10000001, .rc [.own 10000002 false, .nil]), (10000002, .sl 3 (.int .i64) (i_0 ++ [r4_.1]) .shallow)]) rfl rfl ⟨⟨.inl rfl, rfl, trivial⟩, ⟨rfl, rfl, trivial⟩, ⟨⟨⟨rfl, rfl⟩, trivial⟩, rfl, trivial⟩, ⟨rfl, rfl⟩, trivial⟩ ⟨⟨⟨rfl, rfl⟩, rfl⟩, ⟨⟨rfl, rfl⟩, rfl⟩, ⟨⟨rfl, rfl⟩, rfl⟩, rfl, trivial⟩)⟩
        · skip
          refine ⟨r4_, hq1, ?_⟩
          refine And.intro ?_ (And.intro ?_ (trivial))
          · skip
            refine And.intro ?_ trivial
            refine And.intro ?_ trivial
            refine And.intro hq2 ?_
            refine And.intro ?_ trivial
            have he := ok_rq he
            refine And.intro he.1 ?_
            have he := he.2
            have he := ok_some he
            exact ⟨((i - (1:Int)), r4_.2, (i_0 ++ [r4_.1])), he, (leads_ren [(10000002, 22)] (l := [(0, .c (.ptr 0 0)), (2, .c (.ptr 10000000 0)), (3, .c (.ptr 10000001 0)), (4, .c (.int .i64 (i - (1:Int))))]) (st' := [(0, .rc [.imm (.int .u8) r4_.2.1, .int .i64 r4_.2.2]), (10000000, .rc [.nil, .nil]), (10000001, .rc [.own 10000002 false, .nil]), (10000002, .sl 3 (.int .i64) (i_0 ++ [r4_.1]) .shallow)]) rfl rfl ⟨⟨.inl rfl, rfl, trivial⟩, ⟨rfl, rfl, trivial⟩, ⟨⟨⟨rfl, rfl⟩, trivial⟩, rfl, trivial⟩, ⟨rfl, rfl⟩, trivial⟩ ⟨⟨⟨rfl, rfl⟩, rfl⟩, ⟨⟨rfl, rfl⟩, rfl⟩, ⟨⟨rfl, rfl⟩, rfl⟩, rfl, trivial⟩)⟩
          · skip
            refine And.intro ?_ trivial
            refine And.intro ?_ trivial
            refine And.intro hq2 ?_
            refine And.intro ?_ trivial
            have he := ok_rq he
            refine And.intro he.1 ?_
            have he := he.2
            have he := ok_some he
            exact ⟨((i - (1:Int)), r4_.2, (i_0 ++ [r4_.1])), he, (leads_ren [(10000002, 22)] (l := [(0, .c (.ptr 0 0)), (2, .c (.ptr 10000000 0)), (3, .c (.ptr 10000001 0)), (4, .c (.int .i64 (i - (1:Int))))]) (st' := [(0, .rc [.imm (.int .u8) r4_.2.1, .int .i64 r4_.2.2]), (10000000, .rc [.nil, .nil]), (10000001, .rc [.own 10000002 false, .nil]), (10000002, .sl 3 (.int .i64) (i_0 ++ [r4_.1]) .shallow)]) rfl rfl ⟨⟨.inl rfl, rfl, trivial⟩, ⟨rfl, rfl, trivial⟩, ⟨⟨⟨rfl, rfl⟩, trivial⟩, rfl, trivial⟩, ⟨rfl, rfl⟩, trivial⟩ ⟨⟨⟨rfl, rfl⟩, rfl⟩, ⟨⟨rfl, rfl⟩, rfl⟩, ⟨⟨rfl, rfl⟩, rfl⟩, rfl, trivial⟩)⟩
    · have he := ok_f he hb
      exact ⟨(i1, i_0), ok_up he, (leads_ren [(10001000, 10000000), (10001001, 10000001), (10001002, 10000002)] (l := [(0, .c (.ptr 0 0)), (2, .c (.ptr 10001000 0)), (3, .c (.ptr 10001001 0))]) (st' := [(0, .rc [.imm (.int .u8) i1.1, .int .i64 i1.2]), (10001000, .rc [.nil, .nil]), (10001001, .rc [.own 10001002 false, .nil]), (10001002, .sl 3 (.int .i64) i_0 .shallow)]) rfl rfl ⟨⟨.inl rfl, rfl, trivial⟩, ⟨rfl, rfl, trivial⟩, ⟨⟨⟨rfl, rfl⟩, trivial⟩, rfl, trivial⟩, ⟨rfl, rfl⟩, trivial⟩ ⟨⟨⟨rfl, rfl⟩, rfl⟩, ⟨⟨rfl, rfl⟩, rfl⟩, ⟨⟨rfl, rfl⟩, rfl⟩, trivial⟩)⟩

noncomputable def c_spec_l6Copy : Con := fun args st => match args, st with
  | [.agg [.imm (.int .i64) m_0, .imm (.pair (.int .i64) (.pair (.sl (.int .i64)) (.pair (.sl (.int .i64)) (.pair (.int .i64) (.sl (.sl (.int .i64))))))) m_1]], [] => .opt ((List Int) × (List (Int × (List Int) × (List Int) × Int × (List (List Int))))) (spec_l6Copy (m_0, m_1)) (fun r => .ret (.agg [.own 901 false, .own 902 false]) [(900, .rc [.own 901 false, .own 902 false]), (901, .sl 3 (.int .i64) r.1 .shallow), (902, .sl 124 (.pair (.int .i64) (.pair (.sl (.int .i64)) (.pair (.sl (.int .i64)) (.pair (.int .i64) (.sl (.sl (.int .i64))))))) r.2 (.deep true .no))])
  | _, _ => .fail

noncomputable def C_spec_l6Copy : Cfg := { y := tys, n := 64, h := 0, tab := [], cut := [6, 7, 11], hand := [], good := [], deep := [54, 60], sched := [(6, (.first 0 (.first 1 (.first 3 (.first 4 (.first 7 (.first 8 (.first 10 (.first 11 (.alt 2 (.alt 5 (.alt 6 (.alt 9 (.alt 12 (.alt 13 (.alt 14 .done .stop) .stop) (.alt 13 (.alt 12 (.alt 14 .done .stop) .stop) .stop)) (.alt 13 (.alt 9 (.alt 12 (.alt 14 .done .stop) .stop) .stop) .stop)) (.alt 13 (.alt 6 (.alt 9 (.alt 12 (.alt 14 .done .stop) .stop) .stop) .stop) .stop)) (.alt 6 (.alt 5 (.alt 9 (.alt 12 (.alt 13 (.alt 14 .done .stop) .stop) (.alt 13 (.alt 12 (.alt 14 .done .stop) .stop) .stop)) (.alt 13 (.alt 9 (.alt 12 (.alt 14 .done .stop) .stop) .stop) .stop)) (.alt 13 (.alt 5 (.alt 9 (.alt 12 (.alt 14 .done .stop) .stop) .stop) .stop) .stop)) (.alt 13 (.alt 5 (.alt 6 (.alt 9 (.alt 12 (.alt 14 .done .stop) .stop) .stop) .stop) (.alt 6 (.alt 5 (.alt 9 (.alt 12 (.alt 14 .done .stop) .stop) .stop) .stop) .stop)) .stop))) (.alt 6 (.alt 2 (.alt 5 (.alt 9 (.alt 12 (.alt 13 (.alt 14 .done .stop) .stop) (.alt 13 (.alt 12 (.alt 14 .done .stop) .stop) .stop)) (.alt 13 (.alt 9 (.alt 12 (.alt 14 .done .stop) .stop) .stop) .stop)) (.alt 13 (.alt 5 (.alt 9 (.alt 12 (.alt 14 .done .stop) .stop) .stop) .stop) .stop)) (.alt 13 (.alt 2 (.alt 5 (.alt 9 (.alt 12 (.alt 14 .done .stop) .stop) .stop) .stop) .stop) .stop)) (.alt 13 (.alt 2 (.alt 5 (.alt 6 (.alt 9 (.alt 12 (.alt 14 .done .stop) .stop) .stop) .stop) (.alt 6 (.alt 5 (.alt 9 (.alt 12 (.alt 14 .done .stop) .stop) .stop) .stop) .stop)) (.alt 6 (.alt 2 (.alt 5 (.alt 9 (.alt 12 (.alt 14 .done .stop) .stop) .stop) .stop) .stop) .stop)) .stop)))))))))))), (10, (.first 0 (.first 3 (.first 4 (.first 5 (.first 6 (.first 7 (.alt 1 (.alt 2 (.alt 8 (.alt 9 (.alt 10 (.first 11 (.alt 12 .done .stop)) .stop) .stop) .stop) .stop) (.alt 2 (.alt 1 (.alt 8 (.alt 9 (.alt 10 (.first 11 (.alt 12 .done .stop)) .stop) .stop) .stop) (.alt 8 (.alt 1 (.alt 9 (.alt 10 (.first 11 (.alt 12 .done .stop)) .stop) .stop) (.alt 9 (.alt 1 (.alt 10 (.first 11 (.alt 12 .done .stop)) .stop) .stop) .stop)) .stop)) .stop)))))))))] }

theorem t_spec_l6Copy : TabOk Try.prog C_spec_l6Copy := tabOk_of (fun p h => by cases h)

theorem k_spec_l6Copy : Entry Try.prog 203 c_spec_l6Copy := by
  refine entry_by (C := C_spec_l6Copy) mixed tys_ok t_spec_l6Copy (fn := Try.f203) (c := bd Try.f203) (by kernel_rfl) (by kernel_rfl) (by kernel_rfl) (by kernel_rfl) ?_
  intro args st k he
  unfold c_spec_l6Copy at he
  split at he
  rotate_left
  · exact he.elim
  rename_i m_0 m_1
  have he : Ok (spec_l6Copy (m_0, m_1)) (fun r => k (.agg [.own 901 false, .own 902 false]) [(900, .rc [.own 901 false, .own 902 false]), (901, .sl 3 (.int .i64) r.1 .shallow), (902, .sl 124 (.pair (.int .i64) (.pair (.sl (.int .i64)) (.pair (.sl (.int .i64)) (.pair (.int .i64) (.sl (.sl (.int .i64))))))) r.2 (.deep true .no))]) := he
  refine ⟨rfl, rfl, ?_⟩
  have he := ok_rq he
  refine And.intro he.1 ?_
  have he := he.2
  refine loop_model mixed tys_ok t_spec_l6Copy (S := Int × (List (Int × (List Int) × (List Int) × Int × (List (List Int))))) (I := (fun (i, out_1) => (envOf [(1, .c (.ptr 10000000 0)), (2, .c (.ptr 10000001 0)), (3, .c (.ptr 10000002 0)), (4, .c (.int .i64 i))], [(10000000, .rc [.imm (.int .i64) (m_0, m_1).1, .imm (.pair (.int .i64) (.pair (.sl (.int .i64)) (.pair (.sl (.int .i64)) (.pair (.int .i64) (.sl (.sl (.int .i64))))))) (m_0, m_1).2]), (10000001, .rc [.nil, .nil]), (10000002, .rc [.own 10000003 false, .own 10000004 false]), (10000003, .sl 3 (.int .i64) (([] : List Int) ++ (m_0, m_1).1) .shallow), (10000004, .sl 124 (.pair (.int .i64) (.pair (.sl (.int .i64)) (.pair (.sl (.int .i64)) (.pair (.int .i64) (.sl (.sl (.int .i64))))))) out_1 (.deep true .no))]))) (f := spec_l6Copy_l1 (m_0, m_1)) (K := (fun r => k (.agg [.own 901 false, .own 902 false]) [(900, .rc [.own 901 false, .own 902 false]), (901, .sl 3 (.int .i64) r.1 .shallow), (902, .sl 124 (.pair (.int .i64) (.pair (.sl (.int .i64)) (.pair (.sl (.int .i64)) (.pair (.int .i64) (.sl (.sl (.int .i64))))))) r.2 (.deep true .no))])) he (leads_ren [(10000000, 1), (10000001, 2), (10000002, 3), (10000003, 11)] (l := [(1, .c (.ptr 10000000 0)), (2, .c (.ptr 10000001 0)), (3, .c (.ptr 10000002 0)), (4, .c (.int .i64 (0:Int)))]) (st' := [(10000000, .rc [.imm (.int .i64) (m_0, m_1).1, .imm (.pair (.int .i64) (.pair (.sl (.int .i64)) (.pair (.sl (.int .i64)) (.pair (.int .i64) (.sl (.sl (.int .i64))))))) (m_0, m_1).2]), (10000001, .rc [.nil, .nil]), (10000002, .rc [.own 10000003 false, .own 10000004 false]), (10000003, .sl 3 (.int .i64) (([] : List Int) ++ (m_0, m_1).1) .shallow), (10000004, .sl 124 (.pair (.int .i64) (.pair (.sl (.int .i64)) (.pair (.sl (.int .i64)) (.pair (.int .i64) (.sl (.sl (.int .i64))))))) ([] : List (Int × (List Int) × (List Int) × Int × (List (List Int)))) (.deep true .no))]) rfl rfl ⟨⟨.inl rfl, .inl rfl, trivial⟩, ⟨rfl, rfl, trivial⟩, ⟨⟨⟨rfl, rfl⟩, trivial⟩, ⟨rfl, trivial⟩, trivial⟩, ⟨rfl, rfl⟩, trivial, trivial⟩ ⟨⟨⟨rfl, rfl⟩, rfl⟩, ⟨⟨rfl, rfl⟩, rfl⟩, ⟨⟨rfl, rfl⟩, rfl⟩, rfl, trivial⟩) ?_
  rintro ⟨i, out_1⟩ J1 he
  refine And.intro (fun hb => ?_) (fun hb => ?_)
  · have he := ok_t he hb
    refine seq_model mixed tys_ok t_spec_l6Copy (S := Unit) (I := (fun _ => (envOf [(1, .c (.ptr 10005000 0)), (2, .c (.ptr 10005001 0)), (3, .c (.ptr 10005002 0)), (4, .c (.int .i64 i)), (5, .c (.iptr (.pair (.int .i64) (.pair (.sl (.int .i64)) (.pair (.sl (.int .i64)) (.pair (.int .i64) (.sl (.sl (.int .i64))))))) ((m_0, m_1).2.getD i.toNat (0, ([], ([], (0, []))))) 0))], [(10005000, .rc [.imm (.int .i64) (m_0, m_1).1, .imm (.pair (.int .i64) (.pair (.sl (.int .i64)) (.pair (.sl (.int .i64)) (.pair (.int .i64) (.sl (.sl (.int .i64))))))) (m_0, m_1).2]), (10005001, .rc [.nil, .nil]), (10005002, .rc [.own 10005003 false, .own 10005004 false]), (10005003, .sl 3 (.int .i64) (([] : List Int) ++ (m_0, m_1).1) .shallow), (10005004, .sl 124 (.pair (.int .i64) (.pair (.sl (.int .i64)) (.pair (.sl (.int .i64)) (.pair (.int .i64) (.sl (.sl (.int .i64))))))) out_1 (.deep true .no))]))) (B := fun s => Ok (spec_l6Copy_j1 (m_0, m_1) i out_1 s) (LK J1 (fun r => k (.agg [.own 901 false, .own 902 false]) [(900, .rc [.own 901 false, .own 902 false]), (901, .sl 3 (.int .i64) r.1 .shallow), (902, .sl 124 (.pair (.int .i64) (.pair (.sl (.int .i64)) (.pair (.sl (.int .i64)) (.pair (.int .i64) (.sl (.sl (.int .i64))))))) r.2 (.deep true .no))]))) ?_ ?_
    · rintro ⟨⟩ he
      refine seq_model mixed tys_ok t_spec_l6Copy (S := Unit) (I := (fun _ => (envOf [(1, .c (.ptr 10006000 0)), (2, .c (.ptr 10006001 0)), (3, .c (.ptr 10006002 0)), (4, .c (.int .i64 i)), (5, .c (.iptr (.pair (.int .i64) (.pair (.sl (.int .i64)) (.pair (.sl (.int .i64)) (.pair (.int .i64) (.sl (.sl (.int .i64))))))) ((m_0, m_1).2.getD i.toNat (0, ([], ([], (0, []))))) 0)), (6, .c (.ptr 10006003 0))], [(10006000, .rc [.imm (.int .i64) (m_0, m_1).1, .imm (.pair (.int .i64) (.pair (.sl (.int .i64)) (.pair (.sl (.int .i64)) (.pair (.int .i64) (.sl (.sl (.int .i64))))))) (m_0, m_1).2]), (10006001, .rc [.nil, .nil]), (10006002, .rc [.own 10006004 false, .own 10006005 false]), (10006003, .rc [.int .i64 ((m_0, m_1).2.getD i.toNat (0, ([], ([], (0, []))))).1, .own 10006006 false, .own 10006007 false, .int .i64 ((m_0, m_1).2.getD i.toNat (0, ([], ([], (0, []))))).2.2.2.1, .nil]), (10006004, .sl 3 (.int .i64) (([] : List Int) ++ (m_0, m_1).1) .shallow), (10006005, .sl 124 (.pair (.int .i64) (.pair (.sl (.int .i64)) (.pair (.sl (.int .i64)) (.pair (.int .i64) (.sl (.sl (.int .i64))))))) out_1 (.deep true .no)), (10006006, .sl 3 (.int .i64) (([] : List Int) ++ ((m_0, m_1).2.getD i.toNat (0, ([], ([], (0, []))))).2.1) .shallow), (10006007, .sl 3 (.int .i64) (([] : List Int) ++ ((m_0, m_1).2.getD i.toNat (0, ([], ([], (0, []))))).2.2.1) .shallow)]))) (B := fun s => Ok (spec_l6Copy_j2 (m_0, m_1) i out_1 s) (LK J1 (fun r => k (.agg [.own 901 false, .own 902 false]) [(900, .rc [.own 901 false, .own 902 false]), (901, .sl 3 (.int .i64) r.1 .shallow), (902, .sl 124 (.pair (.int .i64) (.pair (.sl (.int .i64)) (.pair (.sl (.int .i64)) (.pair (.int .i64) (.sl (.sl (.int .i64))))))) r.2 (.deep true .no))]))) ?_ ?_
      · rintro ⟨⟩ he
        refine seq_model mixed tys_ok t_spec_l6Copy (S := (List (List Int))) (I := (fun y_43 => (envOf [(1, .c (.ptr 10008000 0)), (2, .c (.ptr 10008001 0)), (3, .c (.ptr 10008002 0)), (4, .c (.int .i64 i)), (6, .c (.ptr 10008003 0))], [(10008000, .rc [.imm (.int .i64) (m_0, m_1).1, .imm (.pair (.int .i64) (.pair (.sl (.int .i64)) (.pair (.sl (.int .i64)) (.pair (.int .i64) (.sl (.sl (.int .i64))))))) (m_0, m_1).2]), (10008001, .rc [.nil, .nil]), (10008002, .rc [.own 10008004 false, .own 10008005 false]), (10008003, .rc [.int .i64 ((m_0, m_1).2.getD i.toNat (0, ([], ([], (0, []))))).1, .own 10008006 false, .own 10008007 false, .int .i64 ((m_0, m_1).2.getD i.toNat (0, ([], ([], (0, []))))).2.2.2.1, .own 10008008 false]), (10008004, .sl 3 (.int .i64) (([] : List Int) ++ (m_0, m_1).1) .shallow), (10008005, .sl 124 (.pair (.int .i64) (.pair (.sl (.int .i64)) (.pair (.sl (.int .i64)) (.pair (.int .i64) (.sl (.sl (.int .i64))))))) out_1 (.deep true .no)), (10008006, .sl 3 (.int .i64) (([] : List Int) ++ ((m_0, m_1).2.getD i.toNat (0, ([], ([], (0, []))))).2.1) .shallow), (10008007, .sl 3 (.int .i64) (([] : List Int) ++ ((m_0, m_1).2.getD i.toNat (0, ([], ([], (0, []))))).2.2.1) .shallow), (10008008, .sl 23 (.sl (.int .i64)) y_43 (.deep true .no))]))) (B := fun s => Ok (spec_l6Copy_j3 (m_0, m_1) i out_1 s) (LK J1 (fun r => k (.agg [.own 901 false, .own 902 false]) [(900, .rc [.own 901 false, .own 902 false]), (901, .sl 3 (.int .i64) r.1 .shallow), (902, .sl 124 (.pair (.int .i64) (.pair (.sl (.int .i64)) (.pair (.sl (.int .i64)) (.pair (.int .i64) (.sl (.sl (.int .i64))))))) r.2 (.deep true .no))]))) ?_ ?_
        · rintro y_43 he
          have he := ok_rq he
          refine And.intro he.1 ?_
          have he := he.2
          have he := ok_rq he
          refine And.intro he.1 ?_
          have he := he.2
          have he := ok_some he
          exact ⟨((i + (1:Int)), (out_1 ++ [(((m_0, m_1).2.getD i.toNat (0, ([], ([], (0, []))))).1, ((([] : List Int) ++ ((m_0, m_1).2.getD i.toNat (0, ([], ([], (0, []))))).2.1), ((([] : List Int) ++ ((m_0, m_1).2.getD i.toNat (0, ([], ([], (0, []))))).2.2.1), (((m_0, m_1).2.getD i.toNat (0, ([], ([], (0, []))))).2.2.2.1, y_43))))])), he, (leads_ren [(10000000, 10008000), (10000001, 10008001), (10000002, 10008002), (10000003, 10008004), (10000004, 61)] (l := [(1, .c (.ptr 10000000 0)), (2, .c (.ptr 10000001 0)), (3, .c (.ptr 10000002 0)), (4, .c (.int .i64 (i + (1:Int))))]) (st' := [(10000000, .rc [.imm (.int .i64) (m_0, m_1).1, .imm (.pair (.int .i64) (.pair (.sl (.int .i64)) (.pair (.sl (.int .i64)) (.pair (.int .i64) (.sl (.sl (.int .i64))))))) (m_0, m_1).2]), (10000001, .rc [.nil, .nil]), (10000002, .rc [.own 10000003 false, .own 10000004 false]), (10000003, .sl 3 (.int .i64) (([] : List Int) ++ (m_0, m_1).1) .shallow), (10000004, .sl 124 (.pair (.int .i64) (.pair (.sl (.int .i64)) (.pair (.sl (.int .i64)) (.pair (.int .i64) (.sl (.sl (.int .i64))))))) (out_1 ++ [(((m_0, m_1).2.getD i.toNat (0, ([], ([], (0, []))))).1, ((([] : List Int) ++ ((m_0, m_1).2.getD i.toNat (0, ([], ([], (0, []))))).2.1), ((([] : List Int) ++ ((m_0, m_1).2.getD i.toNat (0, ([], ([], (0, []))))).2.2.1), (((m_0, m_1).2.getD i.toNat (0, ([], ([], (0, []))))).2.2.2.1, y_43))))]) (.deep true .no))]) rfl rfl ⟨⟨.inl rfl, .inl rfl, trivial⟩, ⟨rfl, rfl, trivial⟩, ⟨⟨⟨rfl, rfl⟩, trivial⟩, ⟨⟨rfl, rfl⟩, trivial⟩, trivial⟩, ⟨rfl, rfl⟩, ⟨rfl, rfl⟩, trivial⟩ ⟨⟨⟨rfl, rfl⟩, rfl⟩, ⟨⟨rfl, rfl⟩, rfl⟩, ⟨⟨rfl, rfl⟩, rfl⟩, rfl, trivial⟩)⟩
        · skip
          refine loop_model mixed tys_ok t_spec_l6Copy (S := Int × (List (List Int))) (I := (fun (k_1, y_42) => (envOf [(1, .c (.ptr 10007000 0)), (2, .c (.ptr 10007001 0)), (3, .c (.ptr 10007002 0)), (4, .c (.int .i64 i)), (5, .c (.iptr (.pair (.int .i64) (.pair (.sl (.int .i64)) (.pair (.sl (.int .i64)) (.pair (.int .i64) (.sl (.sl (.int .i64))))))) ((m_0, m_1).2.getD i.toNat (0, ([], ([], (0, []))))) 0)), (6, .c (.ptr 10007003 0)), (7, .c (.int .i64 k_1))], [(10007000, .rc [.imm (.int .i64) (m_0, m_1).1, .imm (.pair (.int .i64) (.pair (.sl (.int .i64)) (.pair (.sl (.int .i64)) (.pair (.int .i64) (.sl (.sl (.int .i64))))))) (m_0, m_1).2]), (10007001, .rc [.nil, .nil]), (10007002, .rc [.own 10007004 false, .own 10007005 false]), (10007003, .rc [.int .i64 ((m_0, m_1).2.getD i.toNat (0, ([], ([], (0, []))))).1, .own 10007006 false, .own 10007007 false, .int .i64 ((m_0, m_1).2.getD i.toNat (0, ([], ([], (0, []))))).2.2.2.1, .own 10007008 false]), (10007004, .sl 3 (.int .i64) (([] : List Int) ++ (m_0, m_1).1) .shallow), (10007005, .sl 124 (.pair (.int .i64) (.pair (.sl (.int .i64)) (.pair (.sl (.int .i64)) (.pair (.int .i64) (.sl (.sl (.int .i64))))))) out_1 (.deep true .no)), (10007006, .sl 3 (.int .i64) (([] : List Int) ++ ((m_0, m_1).2.getD i.toNat (0, ([], ([], (0, []))))).2.1) .shallow), (10007007, .sl 3 (.int .i64) (([] : List Int) ++ ((m_0, m_1).2.getD i.toNat (0, ([], ([], (0, []))))).2.2.1) .shallow), (10007008, .sl 23 (.sl (.int .i64)) y_42 (.deep true .no))]))) (f := spec_l6Copy_l2 (m_0, m_1) i out_1) (K := (LK J1 (fun r => k (.agg [.own 901 false, .own 902 false]) [(900, .rc [.own 901 false, .own 902 false]), (901, .sl 3 (.int .i64) r.1 .shallow), (902, .sl 124 (.pair (.int .i64) (.pair (.sl (.int .i64)) (.pair (.sl (.int .i64)) (.pair (.int .i64) (.sl (.sl (.int .i64))))))) r.2 (.deep true .no))]))) he (leads_ren [(10007000, 10006000), (10007001, 10006001), (10007002, 10006002), (10007003, 10006003), (10007004, 10006004), (10007005, 10006005), (10007006, 10006006), (10007007, 10006007)] (l := [(1, .c (.ptr 10007000 0)), (2, .c (.ptr 10007001 0)), (3, .c (.ptr 10007002 0)), (4, .c (.int .i64 i)), (5, .c (.iptr (.pair (.int .i64) (.pair (.sl (.int .i64)) (.pair (.sl (.int .i64)) (.pair (.int .i64) (.sl (.sl (.int .i64))))))) ((m_0, m_1).2.getD i.toNat (0, ([], ([], (0, []))))) 0)), (6, .c (.ptr 10007003 0)), (7, .c (.int .i64 (0:Int)))]) (st' := [(10007000, .rc [.imm (.int .i64) (m_0, m_1).1, .imm (.pair (.int .i64) (.pair (.sl (.int .i64)) (.pair (.sl (.int .i64)) (.pair (.int .i64) (.sl (.sl (.int .i64))))))) (m_0, m_1).2]), (10007001, .rc [.nil, .nil]), (10007002, .rc [.own 10007004 false, .own 10007005 false]), (10007003, .rc [.int .i64 ((m_0, m_1).2.getD i.toNat (0, ([], ([], (0, []))))).1, .own 10007006 false, .own 10007007 false, .int .i64 ((m_0, m_1).2.getD i.toNat (0, ([], ([], (0, []))))).2.2.2.1, .own 10007008 false]), (10007004, .sl 3 (.int .i64) (([] : List Int) ++ (m_0, m_1).1) .shallow), (10007005, .sl 124 (.pair (.int .i64) (.pair (.sl (.int .i64)) (.pair (.sl (.int .i64)) (.pair (.int .i64) (.sl (.sl (.int .i64))))))) out_1 (.deep true .no)), (10007006, .sl 3 (.int .i64) (([] : List Int) ++ ((m_0, m_1).2.getD i.toNat (0, ([], ([], (0, []))))).2.1) .shallow), (10007007, .sl 3 (.int .i64) (([] : List Int) ++ ((m_0, m_1).2.getD i.toNat (0, ([], ([], (0, []))))).2.2.1) .shallow), (10007008, .sl 23 (.sl (.int .i64)) ([] : List (List Int)) (.deep true .no))]) rfl rfl ⟨⟨.inl rfl, .inl rfl, trivial⟩, ⟨rfl, rfl, trivial⟩, ⟨⟨⟨rfl, rfl⟩, trivial⟩, ⟨⟨rfl, rfl⟩, trivial⟩, trivial⟩, ⟨rfl, ⟨⟨rfl, rfl⟩, trivial⟩, ⟨⟨rfl, rfl⟩, trivial⟩, rfl, ⟨rfl, trivial⟩, trivial⟩, ⟨rfl, rfl⟩, ⟨rfl, rfl⟩, ⟨rfl, rfl⟩, ⟨rfl, rfl⟩, trivial, trivial⟩ ⟨⟨⟨rfl, rfl⟩, rfl⟩, ⟨⟨rfl, rfl⟩, rfl⟩, ⟨⟨rfl, rfl⟩, rfl⟩, rfl, .inl rfl, ⟨⟨rfl, rfl⟩, rfl⟩, rfl, trivial⟩) ?_
          rintro ⟨k_1, y_42⟩ J2 he
          refine And.intro (fun hb => ?_) (fun hb => ?_)
          · have he := ok_t he hb
            refine And.intro (by kernel_rfl) ?_
            have he := ok_rq he
            refine And.intro he.1 ?_
            have he := he.2
            have he := ok_rq he
            have hq1 := he.1
            have he := he.2
            have he := ok_rq he
            have hq2 := he.1
            have he := he.2
            refine And.intro ?_ (And.intro ?_ (trivial))
            · skip
              refine And.intro ?_ trivial
              refine And.intro ?_ trivial
              refine And.intro hq1 ?_
              refine And.intro ?_ trivial
              refine And.intro ?_ trivial
              refine And.intro hq2 ?_
              refine And.intro ?_ trivial
              have he := ok_rq he
              refine And.intro he.1 ?_
              have he := he.2
              have he := ok_some he
              exact ⟨((k_1 + (1:Int)), (y_42 ++ [(([] : List Int) ++ (((m_0, m_1).2.getD i.toNat (0, ([], ([], (0, []))))).2.2.2.2.getD k_1.toNat []))])), he, (leads_ren [(10007008, 55)] (l := [(1, .c (.ptr 10007000 0)), (2, .c (.ptr 10007001 0)), (3, .c (.ptr 10007002 0)), (4, .c (.int .i64 i)), (5, .c (.iptr (.pair (.int .i64) (.pair (.sl (.int .i64)) (.pair (.sl (.int .i64)) (.pair (.int .i64) (.sl (.sl (.int .i64))))))) ((m_0, m_1).2.getD i.toNat (0, ([], ([], (0, []))))) 0)), (6, .c (.ptr 10007003 0)), (7, .c (.int .i64 (k_1 + (1:Int))))]) (st' := [(10007000, .rc [.imm (.int .i64) (m_0, m_1).1, .imm (.pair (.int .i64) (.pair (.sl (.int .i64)) (.pair (.sl (.int .i64)) (.pair (.int .i64) (.sl (.sl (.int .i64))))))) (m_0, m_1).2]), (10007001, .rc [.nil, .nil]), (10007002, .rc [.own 10007004 false, .own 10007005 false]), (10007003, .rc [.int .i64 ((m_0, m_1).2.getD i.toNat (0, ([], ([], (0, []))))).1, .own 10007006 false, .own 10007007 false, .int .i64 ((m_0, m_1).2.getD i.toNat (0, ([], ([], (0, []))))).2.2.2.1, .own 10007008 false]), (10007004, .sl 3 (.int .i64) (([] : List Int) ++ (m_0, m_1).1) .shallow), (10007005, .sl 124 (.pair (.int .i64) (.pair (.sl (.int .i64)) (.pair (.sl (.int .i64)) (.pair (.int .i64) (.sl (.sl (.int .i64))))))) out_1 (.deep true .no)), (10007006, .sl 3 (.int .i64) (([] : List Int) ++ ((m_0, m_1).2.getD i.toNat (0, ([], ([], (0, []))))).2.1) .shallow), (10007007, .sl 3 (.int .i64) (([] : List Int) ++ ((m_0, m_1).2.getD i.toNat (0, ([], ([], (0, []))))).2.2.1) .shallow), (10007008, .sl 23 (.sl (.int .i64)) (y_42 ++ [(([] : List Int) ++ (((m_0, m_1).2.getD i.toNat (0, ([], ([], (0, []))))).2.2.2.2.getD k_1.toNat []))]) (.deep true .no))]) rfl rfl ⟨⟨.inl rfl, .inl rfl, trivial⟩, ⟨rfl, rfl, trivial⟩, ⟨⟨⟨rfl, rfl⟩, trivial⟩, ⟨⟨rfl, rfl⟩, trivial⟩, trivial⟩, ⟨rfl, ⟨⟨rfl, rfl⟩, trivial⟩, ⟨⟨rfl, rfl⟩, trivial⟩, rfl, ⟨⟨rfl, rfl⟩, trivial⟩, trivial⟩, ⟨rfl, rfl⟩, ⟨rfl, rfl⟩, ⟨rfl, rfl⟩, ⟨rfl, rfl⟩, ⟨rfl, rfl⟩, trivial⟩ ⟨⟨⟨rfl, rfl⟩, rfl⟩, ⟨⟨rfl, rfl⟩, rfl⟩, ⟨⟨rfl, rfl⟩, rfl⟩, rfl, .inl rfl, ⟨⟨rfl, rfl⟩, rfl⟩, rfl, trivial⟩)⟩
            · skip
              refine And.intro ?_ (And.intro ?_ (trivial))
              · skip
                refine And.intro ?_ trivial
                refine And.intro hq1 ?_
                refine And.intro ?_ trivial
                refine And.intro ?_ trivial
                refine And.intro hq2 ?_
                refine And.intro ?_ trivial
                have he := ok_rq he
                refine And.intro he.1 ?_
                have he := he.2
                have he := ok_some he
                exact ⟨((k_1 + (1:Int)), (y_42 ++ [(([] : List Int) ++ (((m_0, m_1).2.getD i.toNat (0, ([], ([], (0, []))))).2.2.2.2.getD k_1.toNat []))])), he, (leads_ren [(10007008, 55)] (l := [(1, .c (.ptr 10007000 0)), (2, .c (.ptr 10007001 0)), (3, .c (.ptr 10007002 0)), (4, .c (.int .i64 i)), (5, .c (.iptr (.pair (.int .i64) (.pair (.sl (.int .i64)) (.pair (.sl (.int .i64)) (.pair (.int .i64) (.sl (.sl (.int .i64))))))) ((m_0, m_1).2.getD i.toNat (0, ([], ([], (0, []))))) 0)), (6, .c (.ptr 10007003 0)), (7, .c (.int .i64 (k_1 + (1:Int))))]) (st' := [(10007000, .rc [.imm (.int .i64) (m_0, m_1).1, .imm (.pair (.int .i64) (.pair (.sl (.int .i64)) (.pair (.sl (.int .i64)) (.pair (.int .i64) (.sl (.sl (.int .i64))))))) (m_0, m_1).2]), (10007001, .rc [.nil, .nil]), (10007002, .rc [.own 10007004 false, .own 10007005 false]), (10007003, .rc [.int .i64 ((m_0, m_1).2.getD i.toNat (0, ([], ([], (0, []))))).1, .own 10007006 false, .own 10007007 false, .int .i64 ((m_0, m_1).2.getD i.toNat (0, ([], ([], (0, []))))).2.2.2.1, .own 10007008 false]), (10007004, .sl 3 (.int .i64) (([] : List Int) ++ (m_0, m_1).1) .shallow), (10007005, .sl 124 (.pair (.int .i64) (.pair (.sl (.int .i64)) (.pair (.sl (.int .i64)) (.pair (.int .i64) (.sl (.sl (.int .i64))))))) out_1 (.deep true .no)), (10007006, .sl 3 (.int .i64) (([] : List Int) ++ ((m_0, m_1).2.getD i.toNat (0, ([], ([], (0, []))))).2.1) .shallow), (10007007, .sl 3 (.int .i64) (([] : List Int) ++ ((m_0, m_1).2.getD i.toNat (0, ([], ([], (0, []))))).2.2.1) .shallow), (10007008, .sl 23 (.sl (.int .i64)) (y_42 ++ [(([] : List Int) ++ (((m_0, m_1).2.getD i.toNat (0, ([], ([], (0, []))))).2.2.2.2.getD k_1.toNat []))]) (.deep true .no))]) rfl rfl ⟨⟨.inl rfl, .inl rfl, trivial⟩, ⟨rfl, rfl, trivial⟩, ⟨⟨⟨rfl, rfl⟩, trivial⟩, ⟨⟨rfl, rfl⟩, trivial⟩, trivial⟩, ⟨rfl, ⟨⟨rfl, rfl⟩, trivial⟩, ⟨⟨rfl, rfl⟩, trivial⟩, rfl, ⟨⟨rfl, rfl⟩, trivial⟩, trivial⟩, ⟨rfl, rfl⟩, ⟨rfl, rfl⟩, ⟨rfl, rfl⟩, ⟨rfl, rfl⟩, ⟨rfl, rfl⟩, trivial⟩ ⟨⟨⟨rfl, rfl⟩, rfl⟩, ⟨⟨rfl, rfl⟩, rfl⟩, ⟨⟨rfl, rfl⟩, rfl⟩, rfl, .inl rfl, ⟨⟨rfl, rfl⟩, rfl⟩, rfl, trivial⟩)⟩
              · skip
                refine And.intro hq1 ?_
                refine And.intro ?_ (And.intro ?_ (trivial))
                · skip
                  refine And.intro ?_ trivial
                  refine And.intro ?_ trivial
                  refine And.intro hq2 ?_
                  refine And.intro ?_ trivial
                  have he := ok_rq he
                  refine And.intro he.1 ?_
                  have he := he.2
                  have he := ok_some he
                  exact ⟨((k_1 + (1:Int)), (y_42 ++ [(([] : List Int) ++ (((m_0, m_1).2.getD i.toNat (0, ([], ([], (0, []))))).2.2.2.2.getD k_1.toNat []))])), he, (leads_ren [(10007008, 55)] (l := [(1, .c (.ptr 10007000 0)), (2, .c (.ptr 10007001 0)), (3, .c (.ptr 10007002 0)), (4, .c (.int .i64 i)), (5, .c (.iptr (.pair (.int .i64) (.pair (.sl (.int .i64)) (.pair (.sl (.int .i64)) (.pair (.int .i64) (.sl (.sl (.int .i64))))))) ((m_0, m_1).2.getD i.toNat (0, ([], ([], (0, []))))) 0)), (6, .c (.ptr 10007003 0)), (7, .c (.int .i64 (k_1 + (1:Int))))]) (st' := [(10007000, .rc [.imm (.int .i64) (m_0, m_1).1, .imm (.pair (.int .i64) (.pair (.sl (.int .i64)) (.pair (.sl (.int .i64)) (.pair (.int .i64) (.sl (.sl (.int .i64))))))) (m_0, m_1).2]), (10007001, .rc [.nil, .nil]), (10007002, .rc [.own 10007004 false, .own 10007005 false]), (10007003, .rc [.int .i64 ((m_0, m_1).2.getD i.toNat (0, ([], ([], (0, []))))).1, .own 10007006 false, .own 10007007 false, .int .i64 ((m_0, m_1).2.getD i.toNat (0, ([], ([], (0, []))))).2.2.2.1, .own 10007008 false]), (10007004, .sl 3 (.int .i64) (([] : List Int) ++ (m_0, m_1).1) .shallow), (10007005, .sl 124 (.pair (.int .i64) (.pair (.sl (.int .i64)) (.pair (.sl (.int .i64)) (.pair (.int .i64) (.sl (.sl (.int .i64))))))) out_1 (.deep true .no)), (10007006, .sl 3 (.int .i64) (([] : List Int) ++ ((m_0, m_1).2.getD i.toNat (0, ([], ([], (0, []))))).2.1) .shallow), (10007007, .sl 3 (.int .i64) (([] : List Int) ++ ((m_0, m_1).2.getD i.toNat (0, ([], ([], (0, []))))).2.2.1) .shallow), (10007008, .sl 23 (.sl (.int .i64)) (y_42 ++ [(([] : List Int) ++ (((m_0, m_1).2.getD i.toNat (0, ([], ([], (0, []))))).2.2.2.2.getD k_1.toNat []))]) (.deep true .no))]) rfl rfl ⟨⟨.inl rfl, .inl rfl, trivial⟩, ⟨rfl, rfl, trivial⟩, ⟨⟨⟨rfl, rfl⟩, trivial⟩, ⟨⟨rfl, rfl⟩, trivial⟩, trivial⟩, ⟨rfl, ⟨⟨rfl, rfl⟩, trivial⟩, ⟨⟨rfl, rfl⟩, trivial⟩, rfl, ⟨⟨rfl, rfl⟩, trivial⟩, trivial⟩, ⟨rfl, rfl⟩, ⟨rfl, rfl⟩, ⟨rfl, rfl⟩, ⟨rfl, rfl⟩, ⟨rfl, rfl⟩, trivial⟩ ⟨⟨⟨rfl, rfl⟩, rfl⟩, ⟨⟨rfl, rfl⟩, rfl⟩, ⟨⟨rfl, rfl⟩, rfl⟩, rfl, .inl rfl, ⟨⟨rfl, rfl⟩, rfl⟩, rfl, trivial⟩)⟩
                · skip
                  refine And.intro ?_ trivial
                  refine And.intro ?_ trivial
                  refine And.intro hq2 ?_
                  refine And.intro ?_ trivial
                  have he := ok_rq he
                  refine And.intro he.1 ?_
                  have he := he.2
                  have he := ok_some he
                  exact ⟨((k_1 + (1:Int)), (y_42 ++ [(([] : List Int) ++ (((m_0, m_1).2.getD i.toNat (0, ([], ([], (0, []))))).2.2.2.2.getD k_1.toNat []))])), he, (leads_ren [(10007008, 55)] (l := [(1, .c (.ptr 10007000 0)), (2, .c (.ptr 10007001 0)), (3, .c (.ptr 10007002 0)), (4, .c (.int .i64 i)), (5, .c (.iptr (.pair (.int .i64) (.pair (.sl (.int .i64)) (.pair (.sl (.int .i64)) (.pair (.int .i64) (.sl (.sl (.int .i64))))))) ((m_0, m_1).2.getD i.toNat (0, ([], ([], (0, []))))) 0)), (6, .c (.ptr 10007003 0)), (7, .c (.int .i64 (k_1 + (1:Int))))]) (st' := [(10007000, .rc [.imm (.int .i64) (m_0, m_1).1, .imm (.pair (.int .i64) (.pair (.sl (.int .i64)) (.pair (.sl (.int .i64)) (.pair (.int .i64) (.sl (.sl (.int .i64))))))) (m_0, m_1).2]), (10007001, .rc [.nil, .nil]), (10007002, .rc [.own 10007004 false, .own 10007005 false]), (10007003, .rc [.int .i64 ((m_0, m_1).2.getD i.toNat (0, ([], ([], (0, []))))).1, .own 10007006 false, .own 10007007 false, .int .i64 ((m_0, m_1).2.getD i.toNat (0, ([], ([], (0, []))))).2.2.2.1, .own 10007008 false]), (10007004, .sl 3 (.int .i64) (([] : List Int) ++ (m_0, m_1).1) .shallow), (10007005, .sl 124 (.pair (.int .i64) (.pair (.sl (.int .i64)) (.pair (.sl (.int .i64)) (.pair (.int .i64) (.sl (.sl (.int .i64))))))) out_1 (.deep true .no)), (10007006, .sl 3 (.int .i64) (([] : List Int) ++ ((m_0, m_1).2.getD i.toNat (0, ([], ([], (0, []))))).2.1) .shallow), (10007007, .sl 3 (.int .i64) (([] : List Int) ++ ((m_0, m_1).2.getD i.toNat (0, ([], ([], (0, []))))).2.2.1) .shallow), (10007008, .sl 23 (.sl (.int .i64)) (y_42 ++ [(([] : List Int) ++ (((m_0, m_1).2.getD i.toNat (0, ([], ([], (0, []))))).2.2.2.2.getD k_1.toNat []))]) (.deep true .no))]) rfl rfl ⟨⟨.inl rfl, .inl rfl, trivial⟩, ⟨rfl, rfl, trivial⟩, ⟨⟨⟨rfl, rfl⟩, trivial⟩, ⟨⟨rfl, rfl⟩, trivial⟩, trivial⟩, ⟨rfl, ⟨⟨rfl, rfl⟩, trivial⟩, ⟨⟨rfl, rfl⟩, trivial⟩, rfl, ⟨⟨rfl, rfl⟩, trivial⟩, trivial⟩, ⟨rfl, rfl⟩, ⟨rfl, rfl⟩, ⟨rfl, rfl⟩, ⟨rfl, rfl⟩, ⟨rfl, rfl⟩, trivial⟩ ⟨⟨⟨rfl, rfl⟩, rfl⟩, ⟨⟨rfl, rfl⟩, rfl⟩, ⟨⟨rfl, rfl⟩, rfl⟩, rfl, .inl rfl, ⟨⟨rfl, rfl⟩, rfl⟩, rfl, trivial⟩)⟩
          · have he := ok_f he hb
            exact ⟨y_42, ok_up he, (leads_ren [(10008000, 10007000), (10008001, 10007001), (10008002, 10007002), (10008003, 10007003), (10008004, 10007004), (10008005, 10007005), (10008006, 10007006), (10008007, 10007007), (10008008, 10007008)] (l := [(1, .c (.ptr 10008000 0)), (2, .c (.ptr 10008001 0)), (3, .c (.ptr 10008002 0)), (4, .c (.int .i64 i)), (6, .c (.ptr 10008003 0))]) (st' := [(10008000, .rc [.imm (.int .i64) (m_0, m_1).1, .imm (.pair (.int .i64) (.pair (.sl (.int .i64)) (.pair (.sl (.int .i64)) (.pair (.int .i64) (.sl (.sl (.int .i64))))))) (m_0, m_1).2]), (10008001, .rc [.nil, .nil]), (10008002, .rc [.own 10008004 false, .own 10008005 false]), (10008003, .rc [.int .i64 ((m_0, m_1).2.getD i.toNat (0, ([], ([], (0, []))))).1, .own 10008006 false, .own 10008007 false, .int .i64 ((m_0, m_1).2.getD i.toNat (0, ([], ([], (0, []))))).2.2.2.1, .own 10008008 false]), (10008004, .sl 3 (.int .i64) (([] : List Int) ++ (m_0, m_1).1) .shallow), (10008005, .sl 124 (.pair (.int .i64) (.pair (.sl (.int .i64)) (.pair (.sl (.int .i64)) (.pair (.int .i64) (.sl (.sl (.int .i64))))))) out_1 (.deep true .no)), (10008006, .sl 3 (.int .i64) (([] : List Int) ++ ((m_0, m_1).2.getD i.toNat (0, ([], ([], (0, []))))).2.1) .shallow), (10008007, .sl 3 (.int .i64) (([] : List Int) ++ ((m_0, m_1).2.getD i.toNat (0, ([], ([], (0, []))))).2.2.1) .shallow), (10008008, .sl 23 (.sl (.int .i64)) y_42 (.deep true .no))]) rfl rfl ⟨⟨.inl rfl, .inl rfl, trivial⟩, ⟨rfl, rfl, trivial⟩, ⟨⟨⟨rfl, rfl⟩, trivial⟩, ⟨⟨rfl, rfl⟩, trivial⟩, trivial⟩, ⟨rfl, ⟨⟨rfl, rfl⟩, trivial⟩, ⟨⟨rfl, rfl⟩, trivial⟩, rfl, ⟨⟨rfl, rfl⟩, trivial⟩, trivial⟩, ⟨rfl, rfl⟩, ⟨rfl, rfl⟩, ⟨rfl, rfl⟩, ⟨rfl, rfl⟩, ⟨rfl, rfl⟩, trivial⟩ ⟨⟨⟨rfl, rfl⟩, rfl⟩, ⟨⟨rfl, rfl⟩, rfl⟩, ⟨⟨rfl, rfl⟩, rfl⟩, rfl, ⟨⟨rfl, rfl⟩, rfl⟩, trivial⟩)⟩
      · skip
        refine And.intro (by kernel_rfl) ?_
        have he := ok_rq he
        have hq1 := he.1
        have he := he.2
        have he := ok_rq he
        have hq2 := he.1
        have he := he.2
        refine And.intro ?_ (And.intro ?_ (And.intro ?_ (trivial)))
        · skip
          refine And.intro ?_ (And.intro ?_ (And.intro ?_ (trivial)))
          · skip
            refine And.intro hq1 ?_
            refine And.intro ?_ (And.intro ?_ (trivial))
            · skip
              refine And.intro ?_ (And.intro ?_ (trivial))
              · skip
                refine And.intro hq2 ?_
                refine And.intro ?_ (And.intro ?_ (trivial))
                · skip
                  refine And.intro ?_ trivial
                  refine And.intro ?_ trivial
                  exact ⟨(), he, (leads_ren [(10006000, 10005000), (10006001, 10005001), (10006002, 10005002), (10006003, 6), (10006004, 10005003), (10006005, 10005004), (10006006, 30), (10006007, 34)] (l := [(1, .c (.ptr 10006000 0)), (2, .c (.ptr 10006001 0)), (3, .c (.ptr 10006002 0)), (4, .c (.int .i64 i)), (5, .c (.iptr (.pair (.int .i64) (.pair (.sl (.int .i64)) (.pair (.sl (.int .i64)) (.pair (.int .i64) (.sl (.sl (.int .i64))))))) ((m_0, m_1).2.getD i.toNat (0, ([], ([], (0, []))))) 0)), (6, .c (.ptr 10006003 0))]) (st' := [(10006000, .rc [.imm (.int .i64) (m_0, m_1).1, .imm (.pair (.int .i64) (.pair (.sl (.int .i64)) (.pair (.sl (.int .i64)) (.pair (.int .i64) (.sl (.sl (.int .i64))))))) (m_0, m_1).2]), (10006001, .rc [.nil, .nil]), (10006002, .rc [.own 10006004 false, .own 10006005 false]), (10006003, .rc [.int .i64 ((m_0, m_1).2.getD i.toNat (0, ([], ([], (0, []))))).1, .own 10006006 false, .own 10006007 false, .int .i64 ((m_0, m_1).2.getD i.toNat (0, ([], ([], (0, []))))).2.2.2.1, .nil]), (10006004, .sl 3 (.int .i64) (([] : List Int) ++ (m_0, m_1).1) .shallow), (10006005, .sl 124 (.pair (.int .i64) (.pair (.sl (.int .i64)) (.pair (.sl (.int .i64)) (.pair (.int .i64) (.sl (.sl (.int .i64))))))) out_1 (.deep true .no)), (10006006, .sl 3 (.int .i64) (([] : List Int) ++ ((m_0, m_1).2.getD i.toNat (0, ([], ([], (0, []))))).2.1) .shallow), (10006007, .sl 3 (.int .i64) (([] : List Int) ++ ((m_0, m_1).2.getD i.toNat (0, ([], ([], (0, []))))).2.2.1) .shallow)]) rfl rfl ⟨⟨.inl rfl, .inl rfl, trivial⟩, ⟨rfl, rfl, trivial⟩, ⟨⟨⟨rfl, rfl⟩, trivial⟩, ⟨⟨rfl, rfl⟩, trivial⟩, trivial⟩, ⟨rfl, ⟨⟨rfl, rfl⟩, trivial⟩, ⟨⟨rfl, rfl⟩, trivial⟩, rfl, rfl, trivial⟩, ⟨rfl, rfl⟩, ⟨rfl, rfl⟩, ⟨rfl, rfl⟩, ⟨rfl, rfl⟩, trivial⟩ ⟨⟨⟨rfl, rfl⟩, rfl⟩, ⟨⟨rfl, rfl⟩, rfl⟩, ⟨⟨rfl, rfl⟩, rfl⟩, rfl, .inl rfl, ⟨⟨rfl, rfl⟩, rfl⟩, trivial⟩)⟩
                · skip
                  refine And.intro ?_ trivial
                  refine And.intro ?_ trivial
                  exact ⟨(), he, (leads_ren [(10006000, 10005000), (10006001, 10005001), (10006002, 10005002), (10006003, 6), (10006004, 10005003), (10006005, 10005004), (10006006, 30), (10006007, 34)] (l := [(1, .c (.ptr 10006000 0)), (2, .c (.ptr 10006001 0)), (3, .c (.ptr 10006002 0)), (4, .c (.int .i64 i)), (5, .c (.iptr (.pair (.int .i64) (.pair (.sl (.int .i64)) (.pair (.sl (.int .i64)) (.pair (.int .i64) (.sl (.sl (.int .i64))))))) ((m_0, m_1).2.getD i.toNat (0, ([], ([], (0, []))))) 0)), (6, .c (.ptr 10006003 0))]) (st' := [(10006000, .rc [.imm (.int .i64) (m_0, m_1).1, .imm (.pair (.int .i64) (.pair (.sl (.int .i64)) (.pair (.sl (.int .i64)) (.pair (.int .i64) (.sl (.sl (.int .i64))))))) (m_0, m_1).2]), (10006001, .rc [.nil, .nil]), (10006002, .rc [.own 10006004 false, .own 10006005 false]), (10006003, .rc [.int .i64 ((m_0, m_1).2.getD i.toNat (0, ([], ([], (0, []))))).1, .own 10006006 false, .own 10006007 false, .int .i64 ((m_0, m_1).2.getD i.toNat (0, ([], ([], (0, []))))).2.2.2.1, .nil]), (10006004, .sl 3 (.int .i64) (([] : List Int) ++ (m_0, m_1).1) .shallow), (10006005, .sl 124 (.pair (.int .i64) (.pair (.sl (.int .i64)) (.pair (.sl (.int .i64)) (.pair (.int .i64) (.sl (.sl (.int .i64))))))) out_1 (.deep true .no)), (10006006, .sl 3 (.int .i64) (([] : List Int) ++ ((m_0, m_1).2.getD i.toNat (0, ([], ([], (0, []))))).2.1) .shallow), (10006007, .sl 3 (.int .i64) (([] : List Int) ++ ((m_0, m_1).2.getD i.toNat (0, ([], ([], (0, []))))).2.2.1) .shallow)]) rfl rfl ⟨⟨.inl rfl, .inl rfl, trivial⟩, ⟨rfl, rfl, trivial⟩, ⟨⟨⟨rfl, rfl⟩, trivial⟩, ⟨⟨rfl, rfl⟩, trivial⟩, trivial⟩, ⟨rfl, ⟨⟨rfl, rfl⟩, trivial⟩, ⟨⟨rfl, rfl⟩, trivial⟩, rfl, rfl, trivial⟩, ⟨rfl, rfl⟩, ⟨rfl, rfl⟩, ⟨rfl, rfl⟩, ⟨rfl, rfl⟩, trivial⟩ ⟨⟨⟨rfl, rfl⟩, rfl⟩, ⟨⟨rfl, rfl⟩, rfl⟩, ⟨⟨rfl, rfl⟩, rfl⟩, rfl, .inl rfl, ⟨⟨rfl, rfl⟩, rfl⟩, trivial⟩)⟩
              · skip
                refine And.intro ?_ trivial
                refine And.intro hq2 ?_
                refine And.intro ?_ trivial
                refine And.intro ?_ trivial
                exact ⟨(), he, (leads_ren [(10006000, 10005000), (10006001, 10005001), (10006002, 10005002), (10006003, 6), (10006004, 10005003), (10006005, 10005004), (10006006, 30), (10006007, 34)] (l := [(1, .c (.ptr 10006000 0)), (2, .c (.ptr 10006001 0)), (3, .c (.ptr 10006002 0)), (4, .c (.int .i64 i)), (5, .c (.iptr (.pair (.int .i64) (.pair (.sl (.int .i64)) (.pair (.sl (.int .i64)) (.pair (.int .i64) (.sl (.sl (.int .i64))))))) ((m_0, m_1).2.getD i.toNat (0, ([], ([], (0, []))))) 0)), (6, .c (.ptr 10006003 0))]) (st' := [(10006000, .rc [.imm (.int .i64) (m_0, m_1).1, .imm (.pair (.int .i64) (.pair (.sl (.int .i64)) (.pair (.sl (.int .i64)) (.pair (.int .i64) (.sl (.sl (.int .i64))))))) (m_0, m_1).2]), (10006001, .rc [.nil, .nil]), (10006002, .rc [.own 10006004 false, .own 10006005 false]), (10006003, .rc [.int .i64 ((m_0, m_1).2.getD i.toNat (0, ([], ([], (0, []))))).1, .own 10006006 false, .own 10006007 false, .int .i64 ((m_0, m_1).2.getD i.toNat (0, ([], ([], (0, []))))).2.2.2.1, .nil]), (10006004, .sl 3 (.int .i64) (([] : List Int) ++ (m_0, m_1).1) .shallow), (10006005, .sl 124 (.pair (.int .i64) (.pair (.sl (.int .i64)) (.pair (.sl (.int .i64)) (.pair (.int .i64) (.sl (.sl (.int .i64))))))) out_1 (.deep true .no)), (10006006, .sl 3 (.int .i64) (([] : List Int) ++ ((m_0, m_1).2.getD i.toNat (0, ([], ([], (0, []))))).2.1) .shallow), (10006007, .sl 3 (.int .i64) (([] : List Int) ++ ((m_0, m_1).2.getD i.toNat (0, ([], ([], (0, []))))).2.2.1) .shallow)]) rfl rfl ⟨⟨.inl rfl, .inl rfl, trivial⟩, ⟨rfl, rfl, trivial⟩, ⟨⟨⟨rfl, rfl⟩, trivial⟩, ⟨⟨rfl, rfl⟩, trivial⟩, trivial⟩, ⟨rfl, ⟨⟨rfl, rfl⟩, trivial⟩, ⟨⟨rfl, rfl⟩, trivial⟩, rfl, rfl, trivial⟩, ⟨rfl, rfl⟩, ⟨rfl, rfl⟩, ⟨rfl, rfl⟩, ⟨rfl, rfl⟩, trivial⟩ ⟨⟨⟨rfl, rfl⟩, rfl⟩, ⟨⟨rfl, rfl⟩, rfl⟩, ⟨⟨rfl, rfl⟩, rfl⟩, rfl, .inl rfl, ⟨⟨rfl, rfl⟩, rfl⟩, trivial⟩)⟩
            · skip
              refine And.intro ?_ trivial
              refine And.intro ?_ trivial
              refine And.intro hq2 ?_
              refine And.intro ?_ trivial
              refine And.intro ?_ trivial
              exact ⟨(), he, (leads_ren [(10006000, 10005000), (10006001, 10005001), (10006002, 10005002), (10006003, 6), (10006004, 10005003), (10006005, 10005004), (10006006, 30), (10006007, 34)] (l := [(1, .c (.ptr 10006000 0)), (2, .c (.ptr 10006001 0)), (3, .c (.ptr 10006002 0)), (4, .c (.int .i64 i)), (5, .c (.iptr (.pair (.int .i64) (.pair (.sl (.int .i64)) (.pair (.sl (.int .i64)) (.pair (.int .i64) (.sl (.sl (.int .i64))))))) ((m_0, m_1).2.getD i.toNat (0, ([], ([], (0, []))))) 0)), (6, .c (.ptr 10006003 0))]) (st' := [(10006000, .rc [.imm (.int .i64) (m_0, m_1).1, .imm (.pair (.int .i64) (.pair (.sl (.int .i64)) (.pair (.sl (.int .i64)) (.pair (.int .i64) (.sl (.sl (.int .i64))))))) (m_0, m_1).2]), (10006001, .rc [.nil, .nil]), (10006002, .rc [.own 10006004 false, .own 10006005 false]), (10006003, .rc [.int .i64 ((m_0, m_1).2.getD i.toNat (0, ([], ([], (0, []))))).1, .own 10006006 false, .own 10006007 false, .int .i64 ((m_0, m_1).2.getD i.toNat (0, ([], ([], (0, []))))).2.2.2.1, .nil]), (10006004, .sl 3 (.int .i64) (([] : List Int) ++ (m_0, m_1).1) .shallow), (10006005, .sl 124 (.pair (.int .i64) (.pair (.sl (.int .i64)) (.pair (.sl (.int .i64)) (.pair (.int .i64) (.sl (.sl (.int .i64))))))) out_1 (.deep true .no)), (10006006, .sl 3 (.int .i64) (([] : List Int) ++ ((m_0, m_1).2.getD i.toNat (0, ([], ([], (0, []))))).2.1) .shallow), (10006007, .sl 3 (.int .i64) (([] : List Int) ++ ((m_0, m_1).2.getD i.toNat (0, ([], ([], (0, []))))).2.2.1) .shallow)]) rfl rfl ⟨⟨.inl rfl, .inl rfl, trivial⟩, ⟨rfl, rfl, trivial⟩, ⟨⟨⟨rfl, rfl⟩, trivial⟩, ⟨⟨rfl, rfl⟩, trivial⟩, trivial⟩, ⟨rfl, ⟨⟨rfl, rfl⟩, trivial⟩, ⟨⟨rfl, rfl⟩, trivial⟩, rfl, rfl, trivial⟩, ⟨rfl, rfl⟩, ⟨rfl, rfl⟩, ⟨rfl, rfl⟩, ⟨rfl, rfl⟩, trivial⟩ ⟨⟨⟨rfl, rfl⟩, rfl⟩, ⟨⟨rfl, rfl⟩, rfl⟩, ⟨⟨rfl, rfl⟩, rfl⟩, rfl, .inl rfl, ⟨⟨rfl, rfl⟩, rfl⟩, trivial⟩)⟩
          · skip
            refine And.intro ?_ (And.intro ?_ (trivial))
            · skip
              refine And.intro hq1 ?_
              refine And.intro ?_ (And.intro ?_ (trivial))
              · skip
                refine And.intro hq2 ?_
                refine And.intro ?_ (And.intro ?_ (trivial))
                · skip
                  refine And.intro ?_ trivial
                  refine And.intro ?_ trivial
                  exact ⟨(), he, (leads_ren [(10006000, 10005000), (10006001, 10005001), (10006002, 10005002), (10006003, 6), (10006004, 10005003), (10006005, 10005004), (10006006, 30), (10006007, 34)] (l := [(1, .c (.ptr 10006000 0)), (2, .c (.ptr 10006001 0)), (3, .c (.ptr 10006002 0)), (4, .c (.int .i64 i)), (5, .c (.iptr (.pair (.int .i64) (.pair (.sl (.int .i64)) (.pair (.sl (.int .i64)) (.pair (.int .i64) (.sl (.sl (.int .i64))))))) ((m_0, m_1).2.getD i.toNat (0, ([], ([], (0, []))))) 0)), (6, .c (.ptr 10006003 0))]) (st' := [(10006000, .rc [.imm (.int .i64) (m_0, m_1).1, .imm (.pair (.int .i64) (.pair (.sl (.int .i64)) (.pair (.sl (.int .i64)) (.pair (.int .i64) (.sl (.sl (.int .i64))))))) (m_0, m_1).2]), (10006001, .rc [.nil, .nil]), (10006002, .rc [.own 10006004 false, .own 10006005 false]), (10006003, .rc [.int .i64 ((m_0, m_1).2.getD i.toNat (0, ([], ([], (0, []))))).1, .own 10006006 false, .own 10006007 false, .int .i64 ((m_0, m_1).2.getD i.toNat (0, ([], ([], (0, []))))).2.2.2.1, .nil]), (10006004, .sl 3 (.int .i64) (([] : List Int) ++ (m_0, m_1).1) .shallow), (10006005, .sl 124 (.pair (.int .i64) (.pair (.sl (.int .i64)) (.pair (.sl (.int .i64)) (.pair (.int .i64) (.sl (.sl (.int .i64))))))) out_1 (.deep true .no)), (10006006, .sl 3 (.int .i64) (([] : List Int) ++ ((m_0, m_1).2.getD i.toNat (0, ([], ([], (0, []))))).2.1) .shallow), (10006007, .sl 3 (.int .i64) (([] : List Int) ++ ((m_0, m_1).2.getD i.toNat (0, ([], ([], (0, []))))).2.2.1) .shallow)]) rfl rfl ⟨⟨.inl rfl, .inl rfl, trivial⟩, ⟨rfl, rfl, trivial⟩, ⟨⟨⟨rfl, rfl⟩, trivial⟩, ⟨⟨rfl, rfl⟩, trivial⟩, trivial⟩, ⟨rfl, ⟨⟨rfl, rfl⟩, trivial⟩, ⟨⟨rfl, rfl⟩, trivial⟩, rfl, rfl, trivial⟩, ⟨rfl, rfl⟩, ⟨rfl, rfl⟩, ⟨rfl, rfl⟩, ⟨rfl, rfl⟩, trivial⟩ ⟨⟨⟨rfl, rfl⟩, rfl⟩, ⟨⟨rfl, rfl⟩, rfl⟩, ⟨⟨rfl, rfl⟩, rfl⟩, rfl, .inl rfl, ⟨⟨rfl, rfl⟩, rfl⟩, trivial⟩)⟩
                · skip
                  refine And.intro ?_ trivial
                  refine And.intro ?_ trivial
                  exact ⟨(), he, (leads_ren [(10006000, 10005000), (10006001, 10005001), (10006002, 10005002), (10006003, 6), (10006004, 10005003), (10006005, 10005004), (10006006, 30), (10006007, 34)] (l := [(1, .c (.ptr 10006000 0)), (2, .c (.ptr 10006001 0)), (3, .c (.ptr 10006002 0)), (4, .c (.int .i64 i)), (5, .c (.iptr (.pair (.int .i64) (.pair (.sl (.int .i64)) (.pair (.sl (.int .i64)) (.pair (.int .i64) (.sl (.sl (.int .i64))))))) ((m_0, m_1).2.getD i.toNat (0, ([], ([], (0, []))))) 0)), (6, .c (.ptr 10006003 0))]) (st' := [(10006000, .rc [.imm (.int .i64) (m_0, m_1).1, .imm (.pair (.int .i64) (.pair (.sl (.int .i64)) (.pair (.sl (.int .i64)) (.pair (.int .i64) (.sl (.sl (.int .i64))))))) (m_0, m_1).2]), (10006001, .rc [.nil, .nil]), (10006002, .rc [.own 10006004 false, .own 10006005 false]), (10006003, .rc [.int .i64 ((m_0, m_1).2.getD i.toNat (0, ([], ([], (0, []))))).1, .own 10006006 false, .own 10006007 false, .int .i64 ((m_0, m_1).2.getD i.toNat (0, ([], ([], (0, []))))).2.2.2.1, .nil]), (10006004, .sl 3 (.int .i64) (([] : List Int) ++ (m_0, m_1).1) .shallow), (10006005, .sl 124 (.pair (.int .i64) (.pair (.sl (.int .i64)) (.pair (.sl (.int .i64)) (.pair (.int .i64) (.sl (.sl (.int .i64))))))) out_1 (.deep true .no)), (10006006, .sl 3 (.int .i64) (([] : List Int) ++ ((m_0, m_1).2.getD i.toNat (0, ([], ([], (0, []))))).2.1) .shallow), (10006007, .sl 3 (.int .i64) (([] : List Int) ++ ((m_0, m_1).2.getD i.toNat (0, ([], ([], (0, []))))).2.2.1) .shallow)]) rfl rfl ⟨⟨.inl rfl, .inl rfl, trivial⟩, ⟨rfl, rfl, trivial⟩, ⟨⟨⟨rfl, rfl⟩, trivial⟩, ⟨⟨rfl, rfl⟩, trivial⟩, trivial⟩, ⟨rfl, ⟨⟨rfl, rfl⟩, trivial⟩, ⟨⟨rfl, rfl⟩, trivial⟩, rfl, rfl, trivial⟩, ⟨rfl, rfl⟩, ⟨rfl, rfl⟩, ⟨rfl, rfl⟩, ⟨rfl, rfl⟩, trivial⟩ ⟨⟨⟨rfl, rfl⟩, rfl⟩, ⟨⟨rfl, rfl⟩, rfl⟩, ⟨⟨rfl, rfl⟩, rfl⟩, rfl, .inl rfl, ⟨⟨rfl, rfl⟩, rfl⟩, trivial⟩)⟩
              · skip
                refine And.intro ?_ trivial
                refine And.intro hq2 ?_
                refine And.intro ?_ trivial
                refine And.intro ?_ trivial
                exact ⟨(), he, (leads_ren [(10006000, 10005000), (10006001, 10005001), (10006002, 10005002), (10006003, 6), (10006004, 10005003), (10006005, 10005004), (10006006, 30), (10006007, 34)] (l := [(1, .c (.ptr 10006000 0)), (2, .c (.ptr 10006001 0)), (3, .c (.ptr 10006002 0)), (4, .c (.int .i64 i)), (5, .c (.iptr (.pair (.int .i64) (.pair (.sl (.int .i64)) (.pair (.sl (.int .i64)) (.pair (.int .i64) (.sl (.sl (.int .i64))))))) ((m_0, m_1).2.getD i.toNat (0, ([], ([], (0, []))))) 0)), (6, .c (.ptr 10006003 0))]) (st' := [(10006000, .rc [.imm (.int .i64) (m_0, m_1).1, .imm (.pair (.int .i64) (.pair (.sl (.int .i64)) (.pair (.sl (.int .i64)) (.pair (.int .i64) (.sl (.sl (.int .i64))))))) (m_0, m_1).2]), (10006001, .rc [.nil, .nil]), (10006002, .rc [.own 10006004 false, .own 10006005 false]), (10006003, .rc [.int .i64 ((m_0, m_1).2.getD i.toNat (0, ([], ([], (0, []))))).1, .own 10006006 false, .own 10006007 false, .int .i64 ((m_0, m_1).2.getD i.toNat (0, ([], ([], (0, []))))).2.2.2.1, .nil]), (10006004, .sl 3 (.int .i64) (([] : List Int) ++ (m_0, m_1).1) .shallow), (10006005, .sl 124 (.pair (.int .i64) (.pair (.sl (.int .i64)) (.pair (.sl (.int .i64)) (.pair (.int .i64) (.sl (.sl (.int .i64))))))) out_1 (.deep true .no)), (10006006, .sl 3 (.int .i64) (([] : List Int) ++ ((m_0, m_1).2.getD i.toNat (0, ([], ([], (0, []))))).2.1) .shallow), (10006007, .sl 3 (.int .i64) (([] : List Int) ++ ((m_0, m_1).2.getD i.toNat (0, ([], ([], (0, []))))).2.2.1) .shallow)]) rfl rfl ⟨⟨.inl rfl, .inl rfl, trivial⟩, ⟨rfl, rfl, trivial⟩, ⟨⟨⟨rfl, rfl⟩, trivial⟩, ⟨⟨rfl, rfl⟩, trivial⟩, trivial⟩, ⟨rfl, ⟨⟨rfl, rfl⟩, trivial⟩, ⟨⟨rfl, rfl⟩, trivial⟩, rfl, rfl, trivial⟩, ⟨rfl, rfl⟩, ⟨rfl, rfl⟩, ⟨rfl, rfl⟩, ⟨rfl, rfl⟩, trivial⟩ ⟨⟨⟨rfl, rfl⟩, rfl⟩, ⟨⟨rfl, rfl⟩, rfl⟩, ⟨⟨rfl, rfl⟩, rfl⟩, rfl, .inl rfl, ⟨⟨rfl, rfl⟩, rfl⟩, trivial⟩)⟩
            · skip
              refine And.intro ?_ trivial
              refine And.intro hq1 ?_
              refine And.intro ?_ trivial
              refine And.intro hq2 ?_
              refine And.intro ?_ trivial
              refine And.intro ?_ trivial
              exact ⟨(), he, (leads_ren [(10006000, 10005000), (10006001, 10005001), (10006002, 10005002), (10006003, 6), (10006004, 10005003), (10006005, 10005004), (10006006, 30), (10006007, 34)] (l := [(1, .c (.ptr 10006000 0)), (2, .c (.ptr 10006001 0)), (3, .c (.ptr 10006002 0)), (4, .c (.int .i64 i)), (5, .c (.iptr (.pair (.int .i64) (.pair (.sl (.int .i64)) (.pair (.sl (.int .i64)) (.pair (.int .i64) (.sl (.sl (.int .i64))))))) ((m_0, m_1).2.getD i.toNat (0, ([], ([], (0, []))))) 0)), (6, .c (.ptr 10006003 0))]) (st' := [(10006000, .rc [.imm (.int .i64) (m_0, m_1).1, .imm (.pair (.int .i64) (.pair (.sl (.int .i64)) (.pair (.sl (.int .i64)) (.pair (.int .i64) (.sl (.sl (.int .i64))))))) (m_0, m_1).2]), (10006001, .rc [.nil, .nil]), (10006002, .rc [.own 10006004 false, .own 10006005 false]), (10006003, .rc [.int .i64 ((m_0, m_1).2.getD i.toNat (0, ([], ([], (0, []))))).1, .own 10006006 false, .own 10006007 false, .int .i64 ((m_0, m_1).2.getD i.toNat (0, ([], ([], (0, []))))).2.2.2.1, .nil]), (10006004, .sl 3 (.int .i64) (([] : List Int) ++ (m_0, m_1).1) .shallow), (10006005, .sl 124 (.pair (.int .i64) (.pair (.sl (.int .i64)) (.pair (.sl (.int .i64)) (.pair (.int .i64) (.sl (.sl (.int .i64))))))) out_1 (.deep true .no)), (10006006, .sl 3 (.int .i64) (([] : List Int) ++ ((m_0, m_1).2.getD i.toNat (0, ([], ([], (0, []))))).2.1) .shallow), (10006007, .sl 3 (.int .i64) (([] : List Int) ++ ((m_0, m_1).2.getD i.toNat (0, ([], ([], (0, []))))).2.2.1) .shallow)]) rfl rfl ⟨⟨.inl rfl, .inl rfl, trivial⟩, ⟨rfl, rfl, trivial⟩, ⟨⟨⟨rfl, rfl⟩, trivial⟩, ⟨⟨rfl, rfl⟩, trivial⟩, trivial⟩, ⟨rfl, ⟨⟨rfl, rfl⟩, trivial⟩, ⟨⟨rfl, rfl⟩, trivial⟩, rfl, rfl, trivial⟩, ⟨rfl, rfl⟩, ⟨rfl, rfl⟩, ⟨rfl, rfl⟩, ⟨rfl, rfl⟩, trivial⟩ ⟨⟨⟨rfl, rfl⟩, rfl⟩, ⟨⟨rfl, rfl⟩, rfl⟩, ⟨⟨rfl, rfl⟩, rfl⟩, rfl, .inl rfl, ⟨⟨rfl, rfl⟩, rfl⟩, trivial⟩)⟩
          · skip
            refine And.intro ?_ (And.intro ?_ (trivial))
            · skip
              refine And.intro hq1 ?_
              refine And.intro ?_ trivial
              refine And.intro ?_ trivial
              refine And.intro hq2 ?_
              refine And.intro ?_ trivial
              refine And.intro ?_ trivial
              exact ⟨(), he, (leads_ren [(10006000, 10005000), (10006001, 10005001), (10006002, 10005002), (10006003, 6), (10006004, 10005003), (10006005, 10005004), (10006006, 30), (10006007, 34)] (l := [(1, .c (.ptr 10006000 0)), (2, .c (.ptr 10006001 0)), (3, .c (.ptr 10006002 0)), (4, .c (.int .i64 i)), (5, .c (.iptr (.pair (.int .i64) (.pair (.sl (.int .i64)) (.pair (.sl (.int .i64)) (.pair (.int .i64) (.sl (.sl (.int .i64))))))) ((m_0, m_1).2.getD i.toNat (0, ([], ([], (0, []))))) 0)), (6, .c (.ptr 10006003 0))]) (st' := [(10006000, .rc [.imm (.int .i64) (m_0, m_1).1, .imm (.pair (.int .i64) (.pair (.sl (.int .i64)) (.pair (.sl (.int .i64)) (.pair (.int .i64) (.sl (.sl (.int .i64))))))) (m_0, m_1).2]), (10006001, .rc [.nil, .nil]), (10006002, .rc [.own 10006004 false, .own 10006005 false]), (10006003, .rc [.int .i64 ((m_0, m_1).2.getD i.toNat (0, ([], ([], (0, []))))).1, .own 10006006 false, .own 10006007 false, .int .i64 ((m_0, m_1).2.getD i.toNat (0, ([], ([], (0, []))))).2.2.2.1, .nil]), (10006004, .sl 3 (.int .i64) (([] : List Int) ++ (m_0, m_1).1) .shallow), (10006005, .sl 124 (.pair (.int .i64) (.pair (.sl (.int .i64)) (.pair (.sl (.int .i64)) (.pair (.int .i64) (.sl (.sl (.int .i64))))))) out_1 (.deep true .no)), (10006006, .sl 3 (.int .i64) (([] : List Int) ++ ((m_0, m_1).2.getD i.toNat (0, ([], ([], (0, []))))).2.1) .shallow), (10006007, .sl 3 (.int .i64) (([] : List Int) ++ ((m_0, m_1).2.getD i.toNat (0, ([], ([], (0, []))))).2.2.1) .shallow)]) rfl rfl ⟨⟨.inl rfl, .inl rfl, trivial⟩, ⟨rfl, rfl, trivial⟩, ⟨⟨⟨rfl, rfl⟩, trivial⟩, ⟨⟨rfl, rfl⟩, trivial⟩, trivial⟩, ⟨rfl, ⟨⟨rfl, rfl⟩, trivial⟩, ⟨⟨rfl, rfl⟩, trivial⟩, rfl, rfl, trivial⟩, ⟨rfl, rfl⟩, ⟨rfl, rfl⟩, ⟨rfl, rfl⟩, ⟨rfl, rfl⟩, trivial⟩ ⟨⟨⟨rfl, rfl⟩, rfl⟩, ⟨⟨rfl, rfl⟩, rfl⟩, ⟨⟨rfl, rfl⟩, rfl⟩, rfl, .inl rfl, ⟨⟨rfl, rfl⟩, rfl⟩, trivial⟩)⟩
            · skip
              refine And.intro ?_ trivial
              refine And.intro hq1 ?_
              refine And.intro ?_ trivial
              refine And.intro hq2 ?_
              refine And.intro ?_ trivial
              refine And.intro ?_ trivial
              exact ⟨(), he, (leads_ren [(10006000, 10005000), (10006001, 10005001), (10006002, 10005002), (10006003, 6), (10006004, 10005003), (10006005, 10005004), (10006006, 30), (10006007, 34)] (l := [(1, .c (.ptr 10006000 0)), (2, .c (.ptr 10006001 0)), (3, .c (.ptr 10006002 0)), (4, .c (.int .i64 i)), (5, .c (.iptr (.pair (.int .i64) (.pair (.sl (.int .i64)) (.pair (.sl (.int .i64)) (.pair (.int .i64) (.sl (.sl (.int .i64))))))) ((m_0, m_1).2.getD i.toNat (0, ([], ([], (0, []))))) 0)), (6, .c (.ptr 10006003 0))]) (st' := [(10006000, .rc [.imm (.int .i64) (m_0, m_1).1, .imm (.pair (.int .i64) (.pair (.sl (.int .i64)) (.pair (.sl (.int .i64)) (.pair (.int .i64) (.sl (.sl (.int .i64))))))) (m_0, m_1).2]), (10006001, .rc [.nil, .nil]), (10006002, .rc [.own 10006004 false, .own 10006005 false]), (10006003, .rc [.int .i64 ((m_0, m_1).2.getD i.toNat (0, ([], ([], (0, []))))).1, .own 10006006 false, .own 10006007 false, .int .i64 ((m_0, m_1).2.getD i.toNat (0, ([], ([], (0, []))))).2.2.2.1, .nil]), (10006004, .sl 3 (.int .i64) (([] : List Int) ++ (m_0, m_1).1) .shallow), (10006005, .sl 124 (.pair (.int .i64) (.pair (.sl (.int .i64)) (.pair (.sl (.int .i64)) (.pair (.int .i64) (.sl (.sl (.int .i64))))))) out_1 (.deep true .no)), (10006006, .sl 3 (.int .i64) (([] : List Int) ++ ((m_0, m_1).2.getD i.toNat (0, ([], ([], (0, []))))).2.1) .shallow), (10006007, .sl 3 (.int .i64) (([] : List Int) ++ ((m_0, m_1).2.getD i.toNat (0, ([], ([], (0, []))))).2.2.1) .shallow)]) rfl rfl ⟨⟨.inl rfl, .inl rfl, trivial⟩, ⟨rfl, rfl, trivial⟩, ⟨⟨⟨rfl, rfl⟩, trivial⟩, ⟨⟨rfl, rfl⟩, trivial⟩, trivial⟩, ⟨rfl, ⟨⟨rfl, rfl⟩, trivial⟩, ⟨⟨rfl, rfl⟩, trivial⟩, rfl, rfl, trivial⟩, ⟨rfl, rfl⟩, ⟨rfl, rfl⟩, ⟨rfl, rfl⟩, ⟨rfl, rfl⟩, trivial⟩ ⟨⟨⟨rfl, rfl⟩, rfl⟩, ⟨⟨rfl, rfl⟩, rfl⟩, ⟨⟨rfl, rfl⟩, rfl⟩, rfl, .inl rfl, ⟨⟨rfl, rfl⟩, rfl⟩, trivial⟩)⟩
        · skip
          refine And.intro ?_ (And.intro ?_ (trivial))
          · skip
            refine And.intro ?_ (And.intro ?_ (trivial))
            · skip
              refine And.intro hq1 ?_
              refine And.intro ?_ (And.intro ?_ (trivial))
              · skip
                refine And.intro hq2 ?_
                refine And.intro ?_ (And.intro ?_ (trivial))
                · skip
                  refine And.intro ?_ trivial
                  refine And.intro ?_ trivial
                  exact ⟨(), he, (leads_ren [(10006000, 10005000), (10006001, 10005001), (10006002, 10005002), (10006003, 6), (10006004, 10005003), (10006005, 10005004), (10006006, 30), (10006007, 34)] (l := [(1, .c (.ptr 10006000 0)), (2, .c (.ptr 10006001 0)), (3, .c (.ptr 10006002 0)), (4, .c (.int .i64 i)), (5, .c (.iptr (.pair (.int .i64) (.pair (.sl (.int .i64)) (.pair (.sl (.int .i64)) (.pair (.int .i64) (.sl (.sl (.int .i64))))))) ((m_0, m_1).2.getD i.toNat (0, ([], ([], (0, []))))) 0)), (6, .c (.ptr 10006003 0))]) (st' := [(10006000, .rc [.imm (.int .i64) (m_0, m_1).1, .imm (.pair (.int .i64) (.pair (.sl (.int .i64)) (.pair (.sl (.int .i64)) (.pair (.int .i64) (.sl (.sl (.int .i64))))))) (m_0, m_1).2]), (10006001, .rc [.nil, .nil]), (10006002, .rc [.own 10006004 false, .own 10006005 false]), (10006003, .rc [.int .i64 ((m_0, m_1).2.getD i.toNat (0, ([], ([], (0, []))))).1, .own 10006006 false, .own 10006007 false, .int .i64 ((m_0, m_1).2.getD i.toNat (0, ([], ([], (0, []))))).2.2.2.1, .nil]), (10006004, .sl 3 (.int .i64) (([] : List Int) ++ (m_0, m_1).1) .shallow), (10006005, .sl 124 (.pair (.int .i64) (.pair (.sl (.int .i64)) (.pair (.sl (.int .i64)) (.pair (.int .i64) (.sl (.sl (.int .i64))))))) out_1 (.deep true .no)), (10006006, .sl 3 (.int .i64) (([] : List Int) ++ ((m_0, m_1).2.getD i.toNat (0, ([], ([], (0, []))))).2.1) .shallow), (10006007, .sl 3 (.int .i64) (([] : List Int) ++ ((m_0, m_1).2.getD i.toNat (0, ([], ([], (0, []))))).2.2.1) .shallow)]) rfl rfl ⟨⟨.inl rfl, .inl rfl, trivial⟩, ⟨rfl, rfl, trivial⟩, ⟨⟨⟨rfl, rfl⟩, trivial⟩, ⟨⟨rfl, rfl⟩, trivial⟩, trivial⟩, ⟨rfl, ⟨⟨rfl, rfl⟩, trivial⟩, ⟨⟨rfl, rfl⟩, trivial⟩, rfl, rfl, trivial⟩, ⟨rfl, rfl⟩, ⟨rfl, rfl⟩, ⟨rfl, rfl⟩, ⟨rfl, rfl⟩, trivial⟩ ⟨⟨⟨rfl, rfl⟩, rfl⟩, ⟨⟨rfl, rfl⟩, rfl⟩, ⟨⟨rfl, rfl⟩, rfl⟩, rfl, .inl rfl, ⟨⟨rfl, rfl⟩, rfl⟩, trivial⟩)⟩
                · skip
                  refine And.intro ?_ trivial
                  refine And.intro ?_ trivial
                  exact ⟨(), he, (leads_ren [(10006000, 10005000), (10006001, 10005001), (10006002, 10005002), (10006003, 6), (10006004, 10005003), (10006005, 10005004), (10006006, 30), (10006007, 34)] (l := [(1, .c (.ptr 10006000 0)), (2, .c (.ptr 10006001 0)), (3, .c (.ptr 10006002 0)), (4, .c (.int .i64 i)), (5, .c (.iptr (.pair (.int .i64) (.pair (.sl (.int .i64)) (.pair (.sl (.int .i64)) (.pair (.int .i64) (.sl (.sl (.int .i64))))))) ((m_0, m_1).2.getD i.toNat (0, ([], ([], (0, []))))) 0)), (6, .c (.ptr 10006003 0))]) (st' := [(10006000, .rc [.imm (.int .i64) (m_0, m_1).1, .imm (.pair (.int .i64) (.pair (.sl (.int .i64)) (.pair (.sl (.int .i64)) (.pair (.int .i64) (.sl (.sl (.int .i64))))))) (m_0, m_1).2]), (10006001, .rc [.nil, .nil]), (10006002, .rc [.own 10006004 false, .own 10006005 false]), (10006003, .rc [.int .i64 ((m_0, m_1).2.getD i.toNat (0, ([], ([], (0, []))))).1, .own 10006006 false, .own 10006007 false, .int .i64 ((m_0, m_1).2.getD i.toNat (0, ([], ([], (0, []))))).2.2.2.1, .nil]), (10006004, .sl 3 (.int .i64) (([] : List Int) ++ (m_0, m_1).1) .shallow), (10006005, .sl 124 (.pair (.int .i64) (.pair (.sl (.int .i64)) (.pair (.sl (.int .i64)) (.pair (.int .i64) (.sl (.sl (.int .i64))))))) out_1 (.deep true .no)), (10006006, .sl 3 (.int .i64) (([] : List Int) ++ ((m_0, m_1).2.getD i.toNat (0, ([], ([], (0, []))))).2.1) .shallow), (10006007, .sl 3 (.int .i64) (([] : List Int) ++ ((m_0, m_1).2.getD i.toNat (0, ([], ([], (0, []))))).2.2.1) .shallow)]) rfl rfl ⟨⟨.inl rfl, .inl rfl, trivial⟩, ⟨rfl, rfl, trivial⟩, ⟨⟨⟨rfl, rfl⟩, trivial⟩, ⟨⟨rfl, rfl⟩, trivial⟩, trivial⟩, ⟨rfl, ⟨⟨rfl, rfl⟩, trivial⟩, ⟨⟨rfl, rfl⟩, trivial⟩, rfl, rfl, trivial⟩, ⟨rfl, rfl⟩, ⟨rfl, rfl⟩, ⟨rfl, rfl⟩, ⟨rfl, rfl⟩, trivial⟩ ⟨⟨⟨rfl, rfl⟩, rfl⟩, ⟨⟨rfl, rfl⟩, rfl⟩, ⟨⟨rfl, rfl⟩, rfl⟩, rfl, .inl rfl, ⟨⟨rfl, rfl⟩, rfl⟩, trivial⟩)⟩
              · skip
                refine And.intro ?_ trivial
                refine And.intro hq2 ?_
                refine And.intro ?_ trivial
                refine And.intro ?_ trivial
                exact ⟨(), he, (leads_ren [(10006000, 10005000), (10006001, 10005001), (10006002, 10005002), (10006003, 6), (10006004, 10005003), (10006005, 10005004), (10006006, 30), (10006007, 34)] (l := [(1, .c (.ptr 10006000 0)), (2, .c (.ptr 10006001 0)), (3, .c (.ptr 10006002 0)), (4, .c (.int .i64 i)), (5, .c (.iptr (.pair (.int .i64) (.pair (.sl (.int .i64)) (.pair (.sl (.int .i64)) (.pair (.int .i64) (.sl (.sl (.int .i64))))))) ((m_0, m_1).2.getD i.toNat (0, ([], ([], (0, []))))) 0)), (6, .c (.ptr 10006003 0))]) (st' := [(10006000, .rc [.imm (.int .i64) (m_0, m_1).1, .imm (.pair (.int .i64) (.pair (.sl (.int .i64)) (.pair (.sl (.int .i64)) (.pair (.int .i64) (.sl (.sl (.int .i64))))))) (m_0, m_1).2]), (10006001, .rc [.nil, .nil]), (10006002, .rc [.own 10006004 false, .own 10006005 false]), (10006003, .rc [.int .i64 ((m_0, m_1).2.getD i.toNat (0, ([], ([], (0, []))))).1, .own 10006006 false, .own 10006007 false, .int .i64 ((m_0, m_1).2.getD i.toNat (0, ([], ([], (0, []))))).2.2.2.1, .nil]), (10006004, .sl 3 (.int .i64) (([] : List Int) ++ (m_0, m_1).1) .shallow), (10006005, .sl 124 (.pair (.int .i64) (.pair (.sl (.int .i64)) (.pair (.sl (.int .i64)) (.pair (.int .i64) (.sl (.sl (.int .i64))))))) out_1 (.deep true .no)), (10006006, .sl 3 (.int .i64) (([] : List Int) ++ ((m_0, m_1).2.getD i.toNat (0, ([], ([], (0, []))))).2.1) .shallow), (10006007, .sl 3 (.int .i64) (([] : List Int) ++ ((m_0, m_1).2.getD i.toNat (0, ([], ([], (0, []))))).2.2.1) .shallow)]) rfl rfl ⟨⟨.inl rfl, .inl rfl, trivial⟩, ⟨rfl, rfl, trivial⟩, ⟨⟨⟨rfl, rfl⟩, trivial⟩, ⟨⟨rfl, rfl⟩, trivial⟩, trivial⟩, ⟨rfl, ⟨⟨rfl, rfl⟩, trivial⟩, ⟨⟨rfl, rfl⟩, trivial⟩, rfl, rfl, trivial⟩, ⟨rfl, rfl⟩, ⟨rfl, rfl⟩, ⟨rfl, rfl⟩, ⟨rfl, rfl⟩, trivial⟩ ⟨⟨⟨rfl, rfl⟩, rfl⟩, ⟨⟨rfl, rfl⟩, rfl⟩, ⟨⟨rfl, rfl⟩, rfl⟩, rfl, .inl rfl, ⟨⟨rfl, rfl⟩, rfl⟩, trivial⟩)⟩
            · skip
              refine And.intro ?_ trivial
              refine And.intro hq1 ?_
              refine And.intro ?_ trivial
              refine And.intro hq2 ?_
              refine And.intro ?_ trivial
              refine And.intro ?_ trivial
              exact ⟨(), he, (leads_ren [(10006000, 10005000), (10006001, 10005001), (10006002, 10005002), (10006003, 6), (10006004, 10005003), (10006005, 10005004), (10006006, 30), (10006007, 34)] (l := [(1, .c (.ptr 10006000 0)), (2, .c (.ptr 10006001 0)), (3, .c (.ptr 10006002 0)), (4, .c (.int .i64 i)), (5, .c (.iptr (.pair (.int .i64) (.pair (.sl (.int .i64)) (.pair (.sl (.int .i64)) (.pair (.int .i64) (.sl (.sl (.int .i64))))))) ((m_0, m_1).2.getD i.toNat (0, ([], ([], (0, []))))) 0)), (6, .c (.ptr 10006003 0))]) (st' := [(10006000, .rc [.imm (.int .i64) (m_0, m_1).1, .imm (.pair (.int .i64) (.pair (.sl (.int .i64)) (.pair (.sl (.int .i64)) (.pair (.int .i64) (.sl (.sl (.int .i64))))))) (m_0, m_1).2]), (10006001, .rc [.nil, .nil]), (10006002, .rc [.own 10006004 false, .own 10006005 false]), (10006003, .rc [.int .i64 ((m_0, m_1).2.getD i.toNat (0, ([], ([], (0, []))))).1, .own 10006006 false, .own 10006007 false, .int .i64 ((m_0, m_1).2.getD i.toNat (0, ([], ([], (0, []))))).2.2.2.1, .nil]), (10006004, .sl 3 (.int .i64) (([] : List Int) ++ (m_0, m_1).1) .shallow), (10006005, .sl 124 (.pair (.int .i64) (.pair (.sl (.int .i64)) (.pair (.sl (.int .i64)) (.pair (.int .i64) (.sl (.sl (.int .i64))))))) out_1 (.deep true .no)), (10006006, .sl 3 (.int .i64) (([] : List Int) ++ ((m_0, m_1).2.getD i.toNat (0, ([], ([], (0, []))))).2.1) .shallow), (10006007, .sl 3 (.int .i64) (([] : List Int) ++ ((m_0, m_1).2.getD i.toNat (0, ([], ([], (0, []))))).2.2.1) .shallow)]) rfl rfl ⟨⟨.inl rfl, .inl rfl, trivial⟩, ⟨rfl, rfl, trivial⟩, ⟨⟨⟨rfl, rfl⟩, trivial⟩, ⟨⟨rfl, rfl⟩, trivial⟩, trivial⟩, ⟨rfl, ⟨⟨rfl, rfl⟩, trivial⟩, ⟨⟨rfl, rfl⟩, trivial⟩, rfl, rfl, trivial⟩, ⟨rfl, rfl⟩, ⟨rfl, rfl⟩, ⟨rfl, rfl⟩, ⟨rfl, rfl⟩, trivial⟩ ⟨⟨⟨rfl, rfl⟩, rfl⟩, ⟨⟨rfl, rfl⟩, rfl⟩, ⟨⟨rfl, rfl⟩, rfl⟩, rfl, .inl rfl, ⟨⟨rfl, rfl⟩, rfl⟩, trivial⟩)⟩
          · skip
            refine And.intro ?_ trivial
            refine And.intro ?_ trivial
            refine And.intro hq1 ?_
            refine And.intro ?_ trivial
            refine And.intro hq2 ?_
            refine And.intro ?_ trivial
            refine And.intro ?_ trivial
            exact ⟨(), he, (leads_ren [(10006000, 10005000), (10006001, 10005001), (10006002, 10005002), (10006003, 6), (10006004, 10005003), (10006005, 10005004), (10006006, 30), (10006007, 34)] (l := [(1, .c (.ptr 10006000 0)), (2, .c (.ptr 10006001 0)), (3, .c (.ptr 10006002 0)), (4, .c (.int .i64 i)), (5, .c (.iptr (.pair (.int .i64) (.pair (.sl (.int .i64)) (.pair (.sl (.int .i64)) (.pair (.int .i64) (.sl (.sl (.int .i64))))))) ((m_0, m_1).2.getD i.toNat (0, ([], ([], (0, []))))) 0)), (6, .c (.ptr 10006003 0))]) (st' := [(10006000, .rc [.imm (.int .i64) (m_0, m_1).1, .imm (.pair (.int .i64) (.pair (.sl (.int .i64)) (.pair (.sl (.int .i64)) (.pair (.int .i64) (.sl (.sl (.int .i64))))))) (m_0, m_1).2]), (10006001, .rc [.nil, .nil]), (10006002, .rc [.own 10006004 false, .own 10006005 false]), (10006003, .rc [.int .i64 ((m_0, m_1).2.getD i.toNat (0, ([], ([], (0, []))))).1, .own 10006006 false, .own 10006007 false, .int .i64 ((m_0, m_1).2.getD i.toNat (0, ([], ([], (0, []))))).2.2.2.1, .nil]), (10006004, .sl 3 (.int .i64) (([] : List Int) ++ (m_0, m_1).1) .shallow), (10006005, .sl 124 (.pair (.int .i64) (.pair (.sl (.int .i64)) (.pair (.sl (.int .i64)) (.pair (.int .i64) (.sl (.sl (.int .i64))))))) out_1 (.deep true .no)), (10006006, .sl 3 (.int .i64) (([] : List Int) ++ ((m_0, m_1).2.getD i.toNat (0, ([], ([], (0, []))))).2.1) .shallow), (10006007, .sl 3 (.int .i64) (([] : List Int) ++ ((m_0, m_1).2.getD i.toNat (0, ([], ([], (0, []))))).2.2.1) .shallow)]) rfl rfl ⟨⟨.inl rfl, .inl rfl, trivial⟩, ⟨rfl, rfl, trivial⟩, ⟨⟨⟨rfl, rfl⟩, trivial⟩, ⟨⟨rfl, rfl⟩, trivial⟩, trivial⟩, ⟨rfl, ⟨⟨rfl, rfl⟩, trivial⟩, ⟨⟨rfl, rfl⟩, trivial⟩, rfl, rfl, trivial⟩, ⟨rfl, rfl⟩, ⟨rfl, rfl⟩, ⟨rfl, rfl⟩, ⟨rfl, rfl⟩, trivial⟩ ⟨⟨⟨rfl, rfl⟩, rfl⟩, ⟨⟨rfl, rfl⟩, rfl⟩, ⟨⟨rfl, rfl⟩, rfl⟩, rfl, .inl rfl, ⟨⟨rfl, rfl⟩, rfl⟩, trivial⟩)⟩
        · skip
          refine And.intro ?_ (And.intro ?_ (trivial))
          · skip
            refine And.intro ?_ (And.intro ?_ (trivial))
            · skip
              refine And.intro hq1 ?_
              refine And.intro ?_ trivial
              refine And.intro ?_ trivial
              refine And.intro hq2 ?_
              refine And.intro ?_ trivial
              refine And.intro ?_ trivial
              exact ⟨(), he, (leads_ren [(10006000, 10005000), (10006001, 10005001), (10006002, 10005002), (10006003, 6), (10006004, 10005003), (10006005, 10005004), (10006006, 30), (10006007, 34)] (l := [(1, .c (.ptr 10006000 0)), (2, .c (.ptr 10006001 0)), (3, .c (.ptr 10006002 0)), (4, .c (.int .i64 i)), (5, .c (.iptr (.pair (.int .i64) (.pair (.sl (.int .i64)) (.pair (.sl (.int .i64)) (.pair (.int .i64) (.sl (.sl (.int .i64))))))) ((m_0, m_1).2.getD i.toNat (0, ([], ([], (0, []))))) 0)), (6, .c (.ptr 10006003 0))]) (st' := [(10006000, .rc [.imm (.int .i64) (m_0, m_1).1, .imm (.pair (.int .i64) (.pair (.sl (.int .i64)) (.pair (.sl (.int .i64)) (.pair (.int .i64) (.sl (.sl (.int .i64))))))) (m_0, m_1).2]), (10006001, .rc [.nil, .nil]), (10006002, .rc [.own 10006004 false, .own 10006005 false]), (10006003, .rc [.int .i64 ((m_0, m_1).2.getD i.toNat (0, ([], ([], (0, []))))).1, .own 10006006 false, .own 10006007 false, .int .i64 ((m_0, m_1).2.getD i.toNat (0, ([], ([], (0, []))))).2.2.2.1, .nil]), (10006004, .sl 3 (.int .i64) (([] : List Int) ++ (m_0, m_1).1) .shallow), (10006005, .sl 124 (.pair (.int .i64) (.pair (.sl (.int .i64)) (.pair (.sl (.int .i64)) (.pair (.int .i64) (.sl (.sl (.int .i64))))))) out_1 (.deep true .no)), (10006006, .sl 3 (.int .i64) (([] : List Int) ++ ((m_0, m_1).2.getD i.toNat (0, ([], ([], (0, []))))).2.1) .shallow), (10006007, .sl 3 (.int .i64) (([] : List Int) ++ ((m_0, m_1).2.getD i.toNat (0, ([], ([], (0, []))))).2.2.1) .shallow)]) rfl rfl ⟨⟨.inl rfl, .inl rfl, trivial⟩, ⟨rfl, rfl, trivial⟩, ⟨⟨⟨rfl, rfl⟩, trivial⟩, ⟨⟨rfl, rfl⟩, trivial⟩, trivial⟩, ⟨rfl, ⟨⟨rfl, rfl⟩, trivial⟩, ⟨⟨rfl, rfl⟩, trivial⟩, rfl, rfl, trivial⟩, ⟨rfl, rfl⟩, ⟨rfl, rfl⟩, ⟨rfl, rfl⟩, ⟨rfl, rfl⟩, trivial⟩ ⟨⟨⟨rfl, rfl⟩, rfl⟩, ⟨⟨rfl, rfl⟩, rfl⟩, ⟨⟨rfl, rfl⟩, rfl⟩, rfl, .inl rfl, ⟨⟨rfl, rfl⟩, rfl⟩, trivial⟩)⟩
            · skip
              refine And.intro ?_ trivial
              refine And.intro hq1 ?_
              refine And.intro ?_ trivial
              refine And.intro hq2 ?_
              refine And.intro ?_ trivial
              refine And.intro ?_ trivial
              exact ⟨(), he, (leads_ren [(10006000, 10005000), (10006001, 10005001), (10006002, 10005002), (10006003, 6), (10006004, 10005003), (10006005, 10005004), (10006006, 30), (10006007, 34)] (l := [(1, .c (.ptr 10006000 0)), (2, .c (.ptr 10006001 0)), (3, .c (.ptr 10006002 0)), (4, .c (.int .i64 i)), (5, .c (.iptr (.pair (.int .i64) (.pair (.sl (.int .i64)) (.pair (.sl (.int .i64)) (.pair (.int .i64) (.sl (.sl (.int .i64))))))) ((m_0, m_1).2.getD i.toNat (0, ([], ([], (0, []))))) 0)), (6, .c (.ptr 10006003 0))]) (st' := [(10006000, .rc [.imm (.int .i64) (m_0, m_1).1, .imm (.pair (.int .i64) (.pair (.sl (.int .i64)) (.pair (.sl (.int .i64)) (.pair (.int .i64) (.sl (.sl (.int .i64))))))) (m_0, m_1).2]), (10006001, .rc [.nil, .nil]), (10006002, .rc [.own 10006004 false, .own 10006005 false]), (10006003, .rc [.int .i64 ((m_0, m_1).2.getD i.toNat (0, ([], ([], (0, []))))).1, .own 10006006 false, .own 10006007 false, .int .i64 ((m_0, m_1).2.getD i.toNat (0, ([], ([], (0, []))))).2.2.2.1, .nil]), (10006004, .sl 3 (.int .i64) (([] : List Int) ++ (m_0, m_1).1) .shallow), (10006005, .sl 124 (.pair (.int .i64) (.pair (.sl (.int .i64)) (.pair (.sl (.int .i64)) (.pair (.int .i64) (.sl (.sl (.int .i64))))))) out_1 (.deep true .no)), (10006006, .sl 3 (.int .i64) (([] : List Int) ++ ((m_0, m_1).2.getD i.toNat (0, ([], ([], (0, []))))).2.1) .shallow), (10006007, .sl 3 (.int .i64) (([] : List Int) ++ ((m_0, m_1).2.getD i.toNat (0, ([], ([], (0, []))))).2.2.1) .shallow)]) rfl rfl ⟨⟨.inl rfl, .inl rfl, trivial⟩, ⟨rfl, rfl, trivial⟩, ⟨⟨⟨rfl, rfl⟩, trivial⟩, ⟨⟨rfl, rfl⟩, trivial⟩, trivial⟩, ⟨rfl, ⟨⟨rfl, rfl⟩, trivial⟩, ⟨⟨rfl, rfl⟩, trivial⟩, rfl, rfl, trivial⟩, ⟨rfl, rfl⟩, ⟨rfl, rfl⟩, ⟨rfl, rfl⟩, ⟨rfl, rfl⟩, trivial⟩ ⟨⟨⟨rfl, rfl⟩, rfl⟩, ⟨⟨rfl, rfl⟩, rfl⟩, ⟨⟨rfl, rfl⟩, rfl⟩, rfl, .inl rfl, ⟨⟨rfl, rfl⟩, rfl⟩, trivial⟩)⟩
          · skip
            refine And.intro ?_ trivial
            refine And.intro ?_ trivial
            refine And.intro hq1 ?_
            refine And.intro ?_ trivial
            refine And.intro hq2 ?_
            refine And.intro ?_ trivial
            refine And.intro ?_ trivial
            exact ⟨(), he, (leads_ren [(10006000, 10005000), (10006001, 10005001), (10006002, 10005002), (10006003, 6), (10006004, 10005003), (10006005, 10005004), (10006006, 30), (10006007, 34)] (l := [(1, .c (.ptr 10006000 0)), (2, .c (.ptr 10006001 0)), (3, .c (.ptr 10006002 0)), (4, .c (.int .i64 i)), (5, .c (.iptr (.pair (.int .i64) (.pair (.sl (.int .i64)) (.pair (.sl (.int .i64)) (.pair (.int .i64) (.sl (.sl (.int .i64))))))) ((m_0, m_1).2.getD i.toNat (0, ([], ([], (0, []))))) 0)), (6, .c (.ptr 10006003 0))]) (st' := [(10006000, .rc [.imm (.int .i64) (m_0, m_1).1, .imm (.pair (.int .i64) (.pair (.sl (.int .i64)) (.pair (.sl (.int .i64)) (.pair (.int .i64) (.sl (.sl (.int .i64))))))) (m_0, m_1).2]), (10006001, .rc [.nil, .nil]), (10006002, .rc [.own 10006004 false, .own 10006005 false]), (10006003, .rc [.int .i64 ((m_0, m_1).2.getD i.toNat (0, ([], ([], (0, []))))).1, .own 10006006 false, .own 10006007 false, .int .i64 ((m_0, m_1).2.getD i.toNat (0, ([], ([], (0, []))))).2.2.2.1, .nil]), (10006004, .sl 3 (.int .i64) (([] : List Int) ++ (m_0, m_1).1) .shallow), (10006005, .sl 124 (.pair (.int .i64) (.pair (.sl (.int .i64)) (.pair (.sl (.int .i64)) (.pair (.int .i64) (.sl (.sl (.int .i64))))))) out_1 (.deep true .no)), (10006006, .sl 3 (.int .i64) (([] : List Int) ++ ((m_0, m_1).2.getD i.toNat (0, ([], ([], (0, []))))).2.1) .shallow), (10006007, .sl 3 (.int .i64) (([] : List Int) ++ ((m_0, m_1).2.getD i.toNat (0, ([], ([], (0, []))))).2.2.1) .shallow)]) rfl rfl ⟨⟨.inl rfl, .inl rfl, trivial⟩, ⟨rfl, rfl, trivial⟩, ⟨⟨⟨rfl, rfl⟩, trivial⟩, ⟨⟨rfl, rfl⟩, trivial⟩, trivial⟩, ⟨rfl, ⟨⟨rfl, rfl⟩, trivial⟩, ⟨⟨rfl, rfl⟩, trivial⟩, rfl, rfl, trivial⟩, ⟨rfl, rfl⟩, ⟨rfl, rfl⟩, ⟨rfl, rfl⟩, ⟨rfl, rfl⟩, trivial⟩ ⟨⟨⟨rfl, rfl⟩, rfl⟩, ⟨⟨rfl, rfl⟩, rfl⟩, ⟨⟨rfl, rfl⟩, rfl⟩, rfl, .inl rfl, ⟨⟨rfl, rfl⟩, rfl⟩, trivial⟩)⟩
    · skip
      have he := ok_rq he
      refine And.intro he.1 ?_
      have he := he.2
      exact ⟨(), he, (leads_ren [(10005000, 10000000), (10005001, 10000001), (10005002, 10000002), (10005003, 10000003), (10005004, 10000004)] (l := [(1, .c (.ptr 10005000 0)), (2, .c (.ptr 10005001 0)), (3, .c (.ptr 10005002 0)), (4, .c (.int .i64 i)), (5, .c (.iptr (.pair (.int .i64) (.pair (.sl (.int .i64)) (.pair (.sl (.int .i64)) (.pair (.int .i64) (.sl (.sl (.int .i64))))))) ((m_0, m_1).2.getD i.toNat (0, ([], ([], (0, []))))) 0))]) (st' := [(10005000, .rc [.imm (.int .i64) (m_0, m_1).1, .imm (.pair (.int .i64) (.pair (.sl (.int .i64)) (.pair (.sl (.int .i64)) (.pair (.int .i64) (.sl (.sl (.int .i64))))))) (m_0, m_1).2]), (10005001, .rc [.nil, .nil]), (10005002, .rc [.own 10005003 false, .own 10005004 false]), (10005003, .sl 3 (.int .i64) (([] : List Int) ++ (m_0, m_1).1) .shallow), (10005004, .sl 124 (.pair (.int .i64) (.pair (.sl (.int .i64)) (.pair (.sl (.int .i64)) (.pair (.int .i64) (.sl (.sl (.int .i64))))))) out_1 (.deep true .no))]) rfl rfl ⟨⟨.inl rfl, .inl rfl, trivial⟩, ⟨rfl, rfl, trivial⟩, ⟨⟨⟨rfl, rfl⟩, trivial⟩, ⟨⟨rfl, rfl⟩, trivial⟩, trivial⟩, ⟨rfl, rfl⟩, ⟨rfl, rfl⟩, trivial⟩ ⟨⟨⟨rfl, rfl⟩, rfl⟩, ⟨⟨rfl, rfl⟩, rfl⟩, ⟨⟨rfl, rfl⟩, rfl⟩, rfl, .inr ⟨5, rfl, ⟨rfl, rfl⟩, rfl⟩, trivial⟩)⟩
  · have he := ok_f he hb
    have he := ok_some he
    exact ⟨rfl, _, _, (leads_ren [(900, 10000001), (901, 10000003), (902, 10000004)] (l := [(2, .c (.ptr 900 0))]) (st' := [(900, .rc [.own 901 false, .own 902 false]), (901, .sl 3 (.int .i64) (([] : List Int) ++ (m_0, m_1).1) .shallow), (902, .sl 124 (.pair (.int .i64) (.pair (.sl (.int .i64)) (.pair (.sl (.int .i64)) (.pair (.int .i64) (.sl (.sl (.int .i64))))))) out_1 (.deep true .no))]) rfl rfl ⟨⟨⟨⟨rfl, rfl⟩, trivial⟩, ⟨⟨rfl, rfl⟩, trivial⟩, trivial⟩, ⟨rfl, rfl⟩, ⟨rfl, rfl⟩, trivial⟩ ⟨⟨⟨rfl, rfl⟩, rfl⟩, trivial⟩), he⟩

noncomputable def c_spec_l6Mutate : Con := fun args st => match args, st with
  | [.c (.ptr 0 0), .agg [.imm (.int .i64) a1_0, .imm (.pair (.int .i64) (.pair (.sl (.int .i64)) (.pair (.sl (.int .i64)) (.pair (.int .i64) (.sl (.sl (.int .i64))))))) a1_1]], [(0, .rc [.imm (.int .u8) o0_0, .int .i64 o0_1])] => .opt (((List Int) × Int) × (List Int) × (List (Int × (List Int) × (List Int) × Int × (List (List Int))))) (spec_l6Mutate (a1_0, a1_1) (o0_0, o0_1)) (fun r => .ret (.agg [.own 901 false, .own 902 false]) [(0, .rc [.imm (.int .u8) r.1.1, .int .i64 r.1.2]), (900, .rc [.own 901 false, .own 902 false]), (901, .sl 3 (.int .i64) r.2.1 .shallow), (902, .sl 124 (.pair (.int .i64) (.pair (.sl (.int .i64)) (.pair (.sl (.int .i64)) (.pair (.int .i64) (.sl (.sl (.int .i64))))))) r.2.2 (.deep true .no))])
  | _, _ => .fail

noncomputable def C_spec_l6Mutate : Cfg := { y := tys, n := 89, h := 1, tab := [(99, c_spec_l17Rd_num), (166, c_spec_l17Rd_pick), (203, c_spec_l6Copy)], cut := [], hand := [], good := [], deep := [], sched := [(6, (.first 0 (.first 2 (.alt 1 (.alt 3 (.alt 4 (.first 5 (.alt 6 .done .stop)) .stop) .stop) (.alt 3 (.alt 1 (.alt 4 (.first 5 (.alt 6 .done .stop)) .stop) (.alt 4 (.alt 1 (.first 5 (.alt 6 .done .stop)) .stop) .stop)) .stop))))), (12, (.first 0 (.first 2 (.alt 1 (.alt 3 (.alt 4 (.first 5 (.first 6 (.alt 7 .done .stop))) .stop) .stop) (.alt 3 (.alt 1 (.alt 4 (.first 5 (.first 6 (.alt 7 .done .stop))) .stop) (.alt 4 (.alt 1 (.first 5 (.first 6 (.alt 7 .done .stop))) .stop) .stop)) .stop))))), (15, (.first 0 (.first 2 (.first 3 (.first 7 (.alt 1 (.first 4 (.first 5 (.alt 6 (.alt 8 (.alt 9 (.first 10 (.alt 11 .done .stop)) .stop) .stop) (.alt 8 (.alt 6 (.alt 9 (.first 10 (.alt 11 .done .stop)) .stop) (.alt 9 (.alt 6 (.first 10 (.alt 11 .done .stop)) .stop) .stop)) .stop)))) (.alt 8 (.alt 1 (.first 4 (.first 5 (.alt 6 (.alt 9 (.first 10 (.alt 11 .done .stop)) .stop) (.alt 9 (.alt 6 (.first 10 (.alt 11 .done .stop)) .stop) .stop)))) (.alt 9 (.alt 1 (.first 4 (.first 5 (.alt 6 (.first 10 (.alt 11 .done .stop)) .stop))) .stop) .stop)) .stop))))))), (18, (.first 0 (.first 2 (.alt 1 (.alt 3 (.alt 4 (.first 5 (.first 6 (.alt 7 .done .stop))) .stop) .stop) (.alt 3 (.alt 1 (.alt 4 (.first 5 (.first 6 (.alt 7 .done .stop))) .stop) (.alt 4 (.alt 1 (.first 5 (.first 6 (.alt 7 .done .stop))) .stop) .stop)) .stop)))))] }

theorem t_spec_l6Mutate : TabOk Try.prog C_spec_l6Mutate := by
  refine tabOk_of ?_
  simp only [C_spec_l6Mutate, List.forall_mem_cons]
  exact ⟨k_spec_l17Rd_num, k_spec_l17Rd_pick, k_spec_l6Copy, fun p h => by cases h⟩

theorem k_spec_l6Mutate : Entry Try.prog 95 c_spec_l6Mutate := by
  refine entry_by (C := C_spec_l6Mutate) mixed tys_ok t_spec_l6Mutate (fn := Try.f95) (c := bd Try.f95) (by kernel_rfl) (by kernel_rfl) (by kernel_rfl) (by kernel_rfl) ?_
  intro args st k he
  unfold c_spec_l6Mutate at he
  split at he
  rotate_left
  · exact he.elim
  rename_i a1_0 a1_1 o0_0 o0_1
  have he : Ok (spec_l6Mutate (a1_0, a1_1) (o0_0, o0_1)) (fun r => k (.agg [.own 901 false, .own 902 false]) [(0, .rc [.imm (.int .u8) r.1.1, .int .i64 r.1.2]), (900, .rc [.own 901 false, .own 902 false]), (901, .sl 3 (.int .i64) r.2.1 .shallow), (902, .sl 124 (.pair (.int .i64) (.pair (.sl (.int .i64)) (.pair (.sl (.int .i64)) (.pair (.int .i64) (.sl (.sl (.int .i64))))))) r.2.2 (.deep true .no))]) := he
  refine ⟨rfl, rfl, ?_⟩
  obtain ⟨r1_, hr, he⟩ := ok_bind he
  refine ⟨r1_, hr, ?_⟩
  obtain ⟨r2_, hr, he⟩ := ok_bind he
  refine ⟨r2_, hr, ?_⟩
  refine And.intro (fun hb => ?_) (fun hb => ?_)
  · have he := ok_t he hb
    refine And.intro (fun hb => ?_) (fun hb => ?_)
    · have he := ok_t he hb
      refine And.intro (by kernel_rfl) ?_
      obtain ⟨r4_, hq1, he⟩ := ok_bind he
      have he := ok_rq he
      have hq2 := he.1
      have he := he.2
      refine And.intro ?_ (And.intro ?_ (trivial))
      · skip
        refine And.intro ?_ trivial
        refine And.intro ?_ trivial
        refine ⟨r4_, hq1, ?_⟩
        refine And.intro hq2 ?_
        refine And.intro ?_ trivial
        have he := ok_some he
        exact ⟨rfl, _, _, (leads_ren [(900, 4), (901, 9901), (902, 9902)] (l := [(4, .c (.ptr 900 0))]) (st' := [(0, .rc [.imm (.int .u8) r4_.2.1, .int .i64 r4_.2.2]), (900, .rc [.own 901 false, .own 902 false]), (901, .sl 3 (.int .i64) (r1_.1.set (0:Int).toNat r4_.1) .shallow), (902, .sl 124 (.pair (.int .i64) (.pair (.sl (.int .i64)) (.pair (.sl (.int .i64)) (.pair (.int .i64) (.sl (.sl (.int .i64))))))) r1_.2 (.deep true .no))]) rfl rfl ⟨⟨.inl rfl, rfl, trivial⟩, ⟨⟨⟨rfl, rfl⟩, trivial⟩, ⟨⟨rfl, rfl⟩, trivial⟩, trivial⟩, ⟨rfl, rfl⟩, ⟨rfl, rfl⟩, trivial⟩ ⟨⟨⟨rfl, rfl⟩, rfl⟩, trivial⟩), he⟩
      · skip
        refine And.intro ?_ (And.intro ?_ (trivial))
        · skip
          refine And.intro ?_ trivial
          refine ⟨r4_, hq1, ?_⟩
          refine And.intro hq2 ?_
          refine And.intro ?_ trivial
          have he := ok_some he
          exact ⟨rfl, _, _, (leads_ren [(900, 4), (901, 9901), (902, 9902)] (l := [(4, .c (.ptr 900 0))]) (st' := [(0, .rc [.imm (.int .u8) r4_.2.1, .int .i64 r4_.2.2]), (900, .rc [.own 901 false, .own 902 false]), (901, .sl 3 (.int .i64) (r1_.1.set (0:Int).toNat r4_.1) .shallow), (902, .sl 124 (.pair (.int .i64) (.pair (.sl (.int .i64)) (.pair (.sl (.int .i64)) (.pair (.int .i64) (.sl (.sl (.int .i64))))))) r1_.2 (.deep true .no))]) rfl rfl ⟨⟨.inl rfl, rfl, trivial⟩, ⟨⟨⟨rfl, rfl⟩, trivial⟩, ⟨⟨rfl, rfl⟩, trivial⟩, trivial⟩, ⟨rfl, rfl⟩, ⟨rfl, rfl⟩, trivial⟩ ⟨⟨⟨rfl, rfl⟩, rfl⟩, trivial⟩), he⟩
        · skip
          refine ⟨r4_, hq1, ?_⟩
          refine And.intro ?_ trivial
          refine And.intro hq2 ?_
          refine And.intro ?_ trivial
          have he := ok_some he
          exact ⟨rfl, _, _, (leads_ren [(900, 4), (901, 9901), (902, 9902)] (l := [(4, .c (.ptr 900 0))]) (st' := [(0, .rc [.imm (.int .u8) r4_.2.1, .int .i64 r4_.2.2]), (900, .rc [.own 901 false, .own 902 false]), (901, .sl 3 (.int .i64) (r1_.1.set (0:Int).toNat r4_.1) .shallow), (902, .sl 124 (.pair (.int .i64) (.pair (.sl (.int .i64)) (.pair (.sl (.int .i64)) (.pair (.int .i64) (.sl (.sl (.int .i64))))))) r1_.2 (.deep true .no))]) rfl rfl ⟨⟨.inl rfl, rfl, trivial⟩, ⟨⟨⟨rfl, rfl⟩, trivial⟩, ⟨⟨rfl, rfl⟩, trivial⟩, trivial⟩, ⟨rfl, rfl⟩, ⟨rfl, rfl⟩, trivial⟩ ⟨⟨⟨rfl, rfl⟩, rfl⟩, trivial⟩), he⟩
    · have he := ok_f he hb
      have he := ok_some he
      exact ⟨rfl, _, _, (leads_ren [(900, 4), (901, 9901), (902, 9902)] (l := [(4, .c (.ptr 900 0))]) (st' := [(0, .rc [.imm (.int .u8) r2_.2.1, .int .i64 r2_.2.2]), (900, .rc [.own 901 false, .own 902 false]), (901, .sl 3 (.int .i64) r1_.1 .shallow), (902, .sl 124 (.pair (.int .i64) (.pair (.sl (.int .i64)) (.pair (.sl (.int .i64)) (.pair (.int .i64) (.sl (.sl (.int .i64))))))) r1_.2 (.deep true .no))]) rfl rfl ⟨⟨.inl rfl, rfl, trivial⟩, ⟨⟨⟨rfl, rfl⟩, trivial⟩, ⟨⟨rfl, rfl⟩, trivial⟩, trivial⟩, ⟨rfl, rfl⟩, ⟨rfl, rfl⟩, trivial⟩ ⟨⟨⟨rfl, rfl⟩, rfl⟩, trivial⟩), he⟩
  · have he := ok_f he hb
    refine And.intro (fun hb => ?_) (fun hb => ?_)
    · have he := ok_t he hb
      refine loop_model mixed tys_ok t_spec_l6Mutate (S := (List Int)) (I := (fun i_0 => (envOf [(4, .c (.ptr 10000000 0)), (5, .c (.ptr 10000001 0))], [(0, .rc [.imm (.int .u8) r2_.2.1, .int .i64 r2_.2.2]), (10000000, .rc [.nil, .nil]), (10000001, .rc [.own 10000002 false, .own 10000003 false]), (10000002, .sl 3 (.int .i64) i_0 .shallow), (10000003, .sl 124 (.pair (.int .i64) (.pair (.sl (.int .i64)) (.pair (.sl (.int .i64)) (.pair (.int .i64) (.sl (.sl (.int .i64))))))) r1_.2 (.deep true .no))]))) (f := spec_l6Mutate_l1 r1_ r2_) (K := (fun r => k (.agg [.own 901 false, .own 902 false]) [(0, .rc [.imm (.int .u8) r.1.1, .int .i64 r.1.2]), (900, .rc [.own 901 false, .own 902 false]), (901, .sl 3 (.int .i64) r.2.1 .shallow), (902, .sl 124 (.pair (.int .i64) (.pair (.sl (.int .i64)) (.pair (.sl (.int .i64)) (.pair (.int .i64) (.sl (.sl (.int .i64))))))) r.2.2 (.deep true .no))])) he (leads_ren [(10000000, 4), (10000001, 5), (10000002, 9901), (10000003, 9902)] (l := [(4, .c (.ptr 10000000 0)), (5, .c (.ptr 10000001 0))]) (st' := [(0, .rc [.imm (.int .u8) r2_.2.1, .int .i64 r2_.2.2]), (10000000, .rc [.nil, .nil]), (10000001, .rc [.own 10000002 false, .own 10000003 false]), (10000002, .sl 3 (.int .i64) r1_.1 .shallow), (10000003, .sl 124 (.pair (.int .i64) (.pair (.sl (.int .i64)) (.pair (.sl (.int .i64)) (.pair (.int .i64) (.sl (.sl (.int .i64))))))) r1_.2 (.deep true .no))]) rfl rfl ⟨⟨.inl rfl, rfl, trivial⟩, ⟨rfl, rfl, trivial⟩, ⟨⟨⟨rfl, rfl⟩, trivial⟩, ⟨⟨rfl, rfl⟩, trivial⟩, trivial⟩, ⟨rfl, rfl⟩, ⟨rfl, rfl⟩, trivial⟩ ⟨⟨⟨rfl, rfl⟩, rfl⟩, ⟨⟨rfl, rfl⟩, rfl⟩, trivial⟩) ?_
      rintro i_0 J1 he
      refine And.intro (fun hb => ?_) (fun hb => ?_)
      · have he := ok_t he hb
        have he := ok_rq he
        refine And.intro he.1 ?_
        have he := he.2
        have he := ok_some he
        exact ⟨(i_0 ++ [(0:Int)]), he, (leads_ren [(10000002, 35)] (l := [(4, .c (.ptr 10000000 0)), (5, .c (.ptr 10000001 0))]) (st' := [(0, .rc [.imm (.int .u8) r2_.2.1, .int .i64 r2_.2.2]), (10000000, .rc [.nil, .nil]), (10000001, .rc [.own 10000002 false, .own 10000003 false]), (10000002, .sl 3 (.int .i64) (i_0 ++ [(0:Int)]) .shallow), (10000003, .sl 124 (.pair (.int .i64) (.pair (.sl (.int .i64)) (.pair (.sl (.int .i64)) (.pair (.int .i64) (.sl (.sl (.int .i64))))))) r1_.2 (.deep true .no))]) rfl rfl ⟨⟨.inl rfl, rfl, trivial⟩, ⟨rfl, rfl, trivial⟩, ⟨⟨⟨rfl, rfl⟩, trivial⟩, ⟨⟨rfl, rfl⟩, trivial⟩, trivial⟩, ⟨rfl, rfl⟩, ⟨rfl, rfl⟩, trivial⟩ ⟨⟨⟨rfl, rfl⟩, rfl⟩, ⟨⟨rfl, rfl⟩, rfl⟩, trivial⟩)⟩
      · have he := ok_f he hb
        have he := ok_some he
        exact ⟨rfl, _, _, (leads_ren [(900, 10000000), (901, 10000002), (902, 10000003)] (l := [(4, .c (.ptr 900 0))]) (st' := [(0, .rc [.imm (.int .u8) r2_.2.1, .int .i64 r2_.2.2]), (900, .rc [.own 901 false, .own 902 false]), (901, .sl 3 (.int .i64) i_0 .shallow), (902, .sl 124 (.pair (.int .i64) (.pair (.sl (.int .i64)) (.pair (.sl (.int .i64)) (.pair (.int .i64) (.sl (.sl (.int .i64))))))) r1_.2 (.deep true .no))]) rfl rfl ⟨⟨.inl rfl, rfl, trivial⟩, ⟨⟨⟨rfl, rfl⟩, trivial⟩, ⟨⟨rfl, rfl⟩, trivial⟩, trivial⟩, ⟨rfl, rfl⟩, ⟨rfl, rfl⟩, trivial⟩ ⟨⟨⟨rfl, rfl⟩, rfl⟩, trivial⟩), he⟩
    · have he := ok_f he hb
      refine And.intro (fun hb => ?_) (fun hb => ?_)
      · have he := ok_t he hb
        refine And.intro (fun hb => ?_) (fun hb => ?_)
        · have he := ok_t he hb
          refine And.intro (by kernel_rfl) ?_
          obtain ⟨r6_, hq1, he⟩ := ok_bind he
          have he := ok_rq he
          have hq2 := he.1
          have he := he.2
          refine And.intro ?_ (And.intro ?_ (trivial))
          · skip
            refine And.intro ?_ trivial
            refine And.intro ?_ trivial
            refine ⟨r6_, hq1, ?_⟩
            refine And.intro hq2 ?_
            refine And.intro ?_ trivial
            have he := ok_some he
            exact ⟨rfl, _, _, (leads_ren [(900, 4), (901, 9901), (902, 9902)] (l := [(4, .c (.ptr 900 0))]) (st' := [(0, .rc [.imm (.int .u8) r6_.2.1, .int .i64 r6_.2.2]), (900, .rc [.own 901 false, .own 902 false]), (901, .sl 3 (.int .i64) r1_.1 .shallow), (902, .sl 124 (.pair (.int .i64) (.pair (.sl (.int .i64)) (.pair (.sl (.int .i64)) (.pair (.int .i64) (.sl (.sl (.int .i64))))))) (r1_.2.set (0:Int).toNat (r6_.1, (r1_.2.getD (0:Int).toNat (0, ([], ([], (0, []))))).2)) (.deep true .no))]) rfl rfl ⟨⟨.inl rfl, rfl, trivial⟩, ⟨⟨⟨rfl, rfl⟩, trivial⟩, ⟨⟨rfl, rfl⟩, trivial⟩, trivial⟩, ⟨rfl, rfl⟩, ⟨rfl, rfl⟩, trivial⟩ ⟨⟨⟨rfl, rfl⟩, rfl⟩, trivial⟩), he⟩
          · skip
            refine And.intro ?_ (And.intro ?_ (trivial))
            · skip
              refine And.intro ?_ trivial
              refine ⟨r6_, hq1, ?_⟩
              refine And.intro hq2 ?_
              refine And.intro ?_ trivial
              have he := ok_some he
              exact ⟨rfl, _, _, (leads_ren [(900, 4), (901, 9901), (902, 9902)] (l := [(4, .c (.ptr 900 0))]) (st' := [(0, .rc [.imm (.int .u8) r6_.2.1, .int .i64 r6_.2.2]), (900, .rc [.own 901 false, .own 902 false]), (901, .sl 3 (.int .i64) r1_.1 .shallow), (902, .sl 124 (.pair (.int .i64) (.pair (.sl (.int .i64)) (.pair (.sl (.int .i64)) (.pair (.int .i64) (.sl (.sl (.int .i64))))))) (r1_.2.set (0:Int).toNat (r6_.1, (r1_.2.getD (0:Int).toNat (0, ([], ([], (0, []))))).2)) (.deep true .no))]) rfl rfl ⟨⟨.inl rfl, rfl, trivial⟩, ⟨⟨⟨rfl, rfl⟩, trivial⟩, ⟨⟨rfl, rfl⟩, trivial⟩, trivial⟩, ⟨rfl, rfl⟩, ⟨rfl, rfl⟩, trivial⟩ ⟨⟨⟨rfl, rfl⟩, rfl⟩, trivial⟩), he⟩
            · skip
              refine ⟨r6_, hq1, ?_⟩
              refine And.intro ?_ trivial
              refine And.intro hq2 ?_
              refine And.intro ?_ trivial
              have he := ok_some he
              exact ⟨rfl, _, _, (leads_ren [(900, 4), (901, 9901), (902, 9902)] (l := [(4, .c (.ptr 900 0))]) (st' := [(0, .rc [.imm (.int .u8) r6_.2.1, .int .i64 r6_.2.2]), (900, .rc [.own 901 false, .own 902 false]), (901, .sl 3 (.int .i64) r1_.1 .shallow), (902, .sl 124 (.pair (.int .i64) (.pair (.sl (.int .i64)) (.pair (.sl (.int .i64)) (.pair (.int .i64) (.sl (.sl (.int .i64))))))) (r1_.2.set (0:Int).toNat (r6_.1, (r1_.2.getD (0:Int).toNat (0, ([], ([], (0, []))))).2)) (.deep true .no))]) rfl rfl ⟨⟨.inl rfl, rfl, trivial⟩, ⟨⟨⟨rfl, rfl⟩, trivial⟩, ⟨⟨rfl, rfl⟩, trivial⟩, trivial⟩, ⟨rfl, rfl⟩, ⟨rfl, rfl⟩, trivial⟩ ⟨⟨⟨rfl, rfl⟩, rfl⟩, trivial⟩), he⟩
        · have he := ok_f he hb
          have he := ok_some he
          exact ⟨rfl, _, _, (leads_ren [(900, 4), (901, 9901), (902, 9902)] (l := [(4, .c (.ptr 900 0))]) (st' := [(0, .rc [.imm (.int .u8) r2_.2.1, .int .i64 r2_.2.2]), (900, .rc [.own 901 false, .own 902 false]), (901, .sl 3 (.int .i64) r1_.1 .shallow), (902, .sl 124 (.pair (.int .i64) (.pair (.sl (.int .i64)) (.pair (.sl (.int .i64)) (.pair (.int .i64) (.sl (.sl (.int .i64))))))) r1_.2 (.deep true .no))]) rfl rfl ⟨⟨.inl rfl, rfl, trivial⟩, ⟨⟨⟨rfl, rfl⟩, trivial⟩, ⟨⟨rfl, rfl⟩, trivial⟩, trivial⟩, ⟨rfl, rfl⟩, ⟨rfl, rfl⟩, trivial⟩ ⟨⟨⟨rfl, rfl⟩, rfl⟩, trivial⟩), he⟩
      · have he := ok_f he hb
        refine And.intro (fun hb => ?_) (fun hb => ?_)
        · have he := ok_t he hb
          refine And.intro (fun hb => ?_) (fun hb => ?_)
          · have he := ok_t he hb
            have he := ok_rq he
            refine And.intro he.1 ?_
            have he := he.2
            have he := ok_rq he
            refine And.intro he.1 ?_
            have he := he.2
            refine And.intro (fun hb => ?_) (fun hb => ?_)
            · have he := ok_t he hb
              refine And.intro (by kernel_rfl) ?_
              have he := ok_rq he
              refine And.intro he.1 ?_
              have he := he.2
              have he := ok_rq he
              have hq1 := he.1
              have he := he.2
              obtain ⟨r8_, hq2, he⟩ := ok_bind he
              have he := ok_rq he
              have hq3 := he.1
              have he := he.2
              refine And.intro ?_ (And.intro ?_ (trivial))
              · skip
                refine And.intro hq1 ?_
                refine And.intro ?_ (And.intro ?_ (trivial))
                · skip
                  refine And.intro ?_ trivial
                  refine And.intro ?_ trivial
                  refine ⟨r8_, hq2, ?_⟩
                  refine And.intro hq3 ?_
                  refine And.intro ?_ trivial
                  have he := ok_some he
                  exact ⟨rfl, _, _, ((leads_close [9902] rfl).trans (leads_ren [(900, 4), (901, 9901), (902, 9902)] (l := [(4, .c (.ptr 900 0))]) (st' := [(0, .rc [.imm (.int .u8) r8_.2.1, .int .i64 r8_.2.2]), (900, .rc [.own 901 false, .own 902 false]), (901, .sl 3 (.int .i64) r1_.1 .shallow), (902, .sl 124 (.pair (.int .i64) (.pair (.sl (.int .i64)) (.pair (.sl (.int .i64)) (.pair (.int .i64) (.sl (.sl (.int .i64))))))) ((r1_.2.set ((r1_.2.length:Int) - (1:Int)).toNat (r1_.2.getD ((r1_.2.length:Int) - (1:Int)).toNat (0, ([], ([], (0, [])))))).set ((r1_.2.length:Int) - (1:Int)).toNat (((r1_.2.set ((r1_.2.length:Int) - (1:Int)).toNat (r1_.2.getD ((r1_.2.length:Int) - (1:Int)).toNat (0, ([], ([], (0, [])))))).getD ((r1_.2.length:Int) - (1:Int)).toNat (0, ([], ([], (0, []))))).1, ((((r1_.2.set ((r1_.2.length:Int) - (1:Int)).toNat (r1_.2.getD ((r1_.2.length:Int) - (1:Int)).toNat (0, ([], ([], (0, [])))))).getD ((r1_.2.length:Int) - (1:Int)).toNat (0, ([], ([], (0, []))))).2.1.set (0:Int).toNat r8_.1), ((r1_.2.set ((r1_.2.length:Int) - (1:Int)).toNat (r1_.2.getD ((r1_.2.length:Int) - (1:Int)).toNat (0, ([], ([], (0, [])))))).getD ((r1_.2.length:Int) - (1:Int)).toNat (0, ([], ([], (0, []))))).2.2))) (.deep true .no))]) rfl rfl (by exact ⟨⟨.inl rfl, rfl, trivial⟩, ⟨⟨⟨rfl, rfl⟩, trivial⟩, ⟨⟨rfl, rfl⟩, trivial⟩, trivial⟩, ⟨rfl, rfl⟩, ⟨rfl, rfl⟩, trivial⟩) (by exact ⟨⟨⟨rfl, rfl⟩, rfl⟩, trivial⟩))), he⟩
                · skip
                  refine And.intro ?_ (And.intro ?_ (trivial))
                  · skip
                    refine And.intro ?_ trivial
                    refine ⟨r8_, hq2, ?_⟩
                    refine And.intro hq3 ?_
                    refine And.intro ?_ trivial
                    have he := ok_some he
                    exact ⟨rfl, _, _, ((leads_close [9902] rfl).trans (leads_ren [(900, 4), (901, 9901), (902, 9902)] (l := [(4, .c (.ptr 900 0))]) (st' := [(0, .rc [.imm (.int .u8) r8_.2.1, .int .i64 r8_.2.2]), (900, .rc [.own 901 false, .own 902 false]), (901, .sl 3 (.int .i64) r1_.1 .shallow), (902, .sl 124 (.pair (.int .i64) (.pair (.sl (.int .i64)) (.pair (.sl (.int .i64)) (.pair (.int .i64) (.sl (.sl (.int .i64))))))) ((r1_.2.set ((r1_.2.length:Int) - (1:Int)).toNat (r1_.2.getD ((r1_.2.length:Int) - (1:Int)).toNat (0, ([], ([], (0, [])))))).set ((r1_.2.length:Int) - (1:Int)).toNat (((r1_.2.set ((r1_.2.length:Int) - (1:Int)).toNat (r1_.2.getD ((r1_.2.length:Int) - (1:Int)).toNat (0, ([], ([], (0, [])))))).getD ((r1_.2.length:Int) - (1:Int)).toNat (0, ([], ([], (0, []))))).1, ((((r1_.2.set ((r1_.2.length:Int) - (1:Int)).toNat (r1_.2.getD ((r1_.2.length:Int) - (1:Int)).toNat (0, ([], ([], (0, [])))))).getD ((r1_.2.length:Int) - (1:Int)).toNat (0, ([], ([], (0, []))))).2.1.set (0:Int).toNat r8_.1), ((r1_.2.set ((r1_.2.length:Int) - (1:Int)).toNat (r1_.2.getD ((r1_.2.length:Int) - (1:Int)).toNat (0, ([], ([], (0, [])))))).getD ((r1_.2.length:Int) - (1:Int)).toNat (0, ([], ([], (0, []))))).2.2))) (.deep true .no))]) rfl rfl (by exact ⟨⟨.inl rfl, rfl, trivial⟩, ⟨⟨⟨rfl, rfl⟩, trivial⟩, ⟨⟨rfl, rfl⟩, trivial⟩, trivial⟩, ⟨rfl, rfl⟩, ⟨rfl, rfl⟩, trivial⟩) (by exact ⟨⟨⟨rfl, rfl⟩, rfl⟩, trivial⟩))), he⟩
                  · skip
                    refine ⟨r8_, hq2, ?_⟩
                    refine And.intro ?_ trivial
                    refine And.intro hq3 ?_
                    refine And.intro ?_ trivial
                    have he := ok_some he
                    exact ⟨rfl, _, _, ((leads_close [9902] rfl).trans (leads_ren [(900, 4), (901, 9901), (902, 9902)] (l := [(4, .c (.ptr 900 0))]) (st' := [(0, .rc [.imm (.int .u8) r8_.2.1, .int .i64 r8_.2.2]), (900, .rc [.own 901 false, .own 902 false]), (901, .sl 3 (.int .i64) r1_.1 .shallow), (902, .sl 124 (.pair (.int .i64) (.pair (.sl (.int .i64)) (.pair (.sl (.int .i64)) (.pair (.int .i64) (.sl (.sl (.int .i64))))))) ((r1_.2.set ((r1_.2.length:Int) - (1:Int)).toNat (r1_.2.getD ((r1_.2.length:Int) - (1:Int)).toNat (0, ([], ([], (0, [])))))).set ((r1_.2.length:Int) - (1:Int)).toNat (((r1_.2.set ((r1_.2.length:Int) - (1:Int)).toNat (r1_.2.getD ((r1_.2.length:Int) - (1:Int)).toNat (0, ([], ([], (0, [])))))).getD ((r1_.2.length:Int) - (1:Int)).toNat (0, ([], ([], (0, []))))).1, ((((r1_.2.set ((r1_.2.length:Int) - (1:Int)).toNat (r1_.2.getD ((r1_.2.length:Int) - (1:Int)).toNat (0, ([], ([], (0, [])))))).getD ((r1_.2.length:Int) - (1:Int)).toNat (0, ([], ([], (0, []))))).2.1.set (0:Int).toNat r8_.1), ((r1_.2.set ((r1_.2.length:Int) - (1:Int)).toNat (r1_.2.getD ((r1_.2.length:Int) - (1:Int)).toNat (0, ([], ([], (0, [])))))).getD ((r1_.2.length:Int) - (1:Int)).toNat (0, ([], ([], (0, []))))).2.2))) (.deep true .no))]) rfl rfl (by exact ⟨⟨.inl rfl, rfl, trivial⟩, ⟨⟨⟨rfl, rfl⟩, trivial⟩, ⟨⟨rfl, rfl⟩, trivial⟩, trivial⟩, ⟨rfl, rfl⟩, ⟨rfl, rfl⟩, trivial⟩) (by exact ⟨⟨⟨rfl, rfl⟩, rfl⟩, trivial⟩))), he⟩
              · skip
                refine And.intro ?_ (And.intro ?_ (trivial))
                · skip
                  refine And.intro hq1 ?_
                  refine And.intro ?_ (And.intro ?_ (trivial))
                  · skip
                    refine And.intro ?_ trivial
                    refine ⟨r8_, hq2, ?_⟩
                    refine And.intro hq3 ?_
                    refine And.intro ?_ trivial
                    have he := ok_some he
                    exact ⟨rfl, _, _, ((leads_close [9902] rfl).trans (leads_ren [(900, 4), (901, 9901), (902, 9902)] (l := [(4, .c (.ptr 900 0))]) (st' := [(0, .rc [.imm (.int .u8) r8_.2.1, .int .i64 r8_.2.2]), (900, .rc [.own 901 false, .own 902 false]), (901, .sl 3 (.int .i64) r1_.1 .shallow), (902, .sl 124 (.pair (.int .i64) (.pair (.sl (.int .i64)) (.pair (.sl (.int .i64)) (.pair (.int .i64) (.sl (.sl (.int .i64))))))) ((r1_.2.set ((r1_.2.length:Int) - (1:Int)).toNat (r1_.2.getD ((r1_.2.length:Int) - (1:Int)).toNat (0, ([], ([], (0, [])))))).set ((r1_.2.length:Int) - (1:Int)).toNat (((r1_.2.set ((r1_.2.length:Int) - (1:Int)).toNat (r1_.2.getD ((r1_.2.length:Int) - (1:Int)).toNat (0, ([], ([], (0, [])))))).getD ((r1_.2.length:Int) - (1:Int)).toNat (0, ([], ([], (0, []))))).1, ((((r1_.2.set ((r1_.2.length:Int) - (1:Int)).toNat (r1_.2.getD ((r1_.2.length:Int) - (1:Int)).toNat (0, ([], ([], (0, [])))))).getD ((r1_.2.length:Int) - (1:Int)).toNat (0, ([], ([], (0, []))))).2.1.set (0:Int).toNat r8_.1), ((r1_.2.set ((r1_.2.length:Int) - (1:Int)).toNat (r1_.2.getD ((r1_.2.length:Int) - (1:Int)).toNat (0, ([], ([], (0, [])))))).getD ((r1_.2.length:Int) - (1:Int)).toNat (0, ([], ([], (0, []))))).2.2))) (.deep true .no))]) rfl rfl (by exact ⟨⟨.inl rfl, rfl, trivial⟩, ⟨⟨⟨rfl, rfl⟩, trivial⟩, ⟨⟨rfl, rfl⟩, trivial⟩, trivial⟩, ⟨rfl, rfl⟩, ⟨rfl, rfl⟩, trivial⟩) (by exact ⟨⟨⟨rfl, rfl⟩, rfl⟩, trivial⟩))), he⟩
                  · skip
                    refine ⟨r8_, hq2, ?_⟩
                    refine And.intro ?_ trivial
                    refine And.intro hq3 ?_
                    refine And.intro ?_ trivial
                    have he := ok_some he
                    exact ⟨rfl, _, _, ((leads_close [9902] rfl).trans (leads_ren [(900, 4), (901, 9901), (902, 9902)] (l := [(4, .c (.ptr 900 0))]) (st' := [(0, .rc [.imm (.int .u8) r8_.2.1, .int .i64 r8_.2.2]), (900, .rc [.own 901 false, .own 902 false]), (901, .sl 3 (.int .i64) r1_.1 .shallow), (902, .sl 124 (.pair (.int .i64) (.pair (.sl (.int .i64)) (.pair (.sl (.int .i64)) (.pair (.int .i64) (.sl (.sl (.int .i64))))))) ((r1_.2.set ((r1_.2.length:Int) - (1:Int)).toNat (r1_.2.getD ((r1_.2.length:Int) - (1:Int)).toNat (0, ([], ([], (0, [])))))).set ((r1_.2.length:Int) - (1:Int)).toNat (((r1_.2.set ((r1_.2.length:Int) - (1:Int)).toNat (r1_.2.getD ((r1_.2.length:Int) - (1:Int)).toNat (0, ([], ([], (0, [])))))).getD ((r1_.2.length:Int) - (1:Int)).toNat (0, ([], ([], (0, []))))).1, ((((r1_.2.set ((r1_.2.length:Int) - (1:Int)).toNat (r1_.2.getD ((r1_.2.length:Int) - (1:Int)).toNat (0, ([], ([], (0, [])))))).getD ((r1_.2.length:Int) - (1:Int)).toNat (0, ([], ([], (0, []))))).2.1.set (0:Int).toNat r8_.1), ((r1_.2.set ((r1_.2.length:Int) - (1:Int)).toNat (r1_.2.getD ((r1_.2.length:Int) - (1:Int)).toNat (0, ([], ([], (0, [])))))).getD ((r1_.2.length:Int) - (1:Int)).toNat (0, ([], ([], (0, []))))).2.2))) (.deep true .no))]) rfl rfl (by exact ⟨⟨.inl rfl, rfl, trivial⟩, ⟨⟨⟨rfl, rfl⟩, trivial⟩, ⟨⟨rfl, rfl⟩, trivial⟩, trivial⟩, ⟨rfl, rfl⟩, ⟨rfl, rfl⟩, trivial⟩) (by exact ⟨⟨⟨rfl, rfl⟩, rfl⟩, trivial⟩))), he⟩
                · skip
                  refine ⟨r8_, hq2, ?_⟩
                  refine And.intro ?_ trivial
                  refine And.intro hq1 ?_
                  refine And.intro ?_ trivial
                  refine And.intro hq3 ?_
                  refine And.intro ?_ trivial
                  have he := ok_some he
                  exact ⟨rfl, _, _, ((leads_close [9902] rfl).trans (leads_ren [(900, 4), (901, 9901), (902, 9902)] (l := [(4, .c (.ptr 900 0))]) (st' := [(0, .rc [.imm (.int .u8) r8_.2.1, .int .i64 r8_.2.2]), (900, .rc [.own 901 false, .own 902 false]), (901, .sl 3 (.int .i64) r1_.1 .shallow), (902, .sl 124 (.pair (.int .i64) (.pair (.sl (.int .i64)) (.pair (.sl (.int .i64)) (.pair (.int .i64) (.sl (.sl (.int .i64))))))) ((r1_.2.set ((r1_.2.length:Int) - (1:Int)).toNat (r1_.2.getD ((r1_.2.length:Int) - (1:Int)).toNat (0, ([], ([], (0, [])))))).set ((r1_.2.length:Int) - (1:Int)).toNat (((r1_.2.set ((r1_.2.length:Int) - (1:Int)).toNat (r1_.2.getD ((r1_.2.length:Int) - (1:Int)).toNat (0, ([], ([], (0, [])))))).getD ((r1_.2.length:Int) - (1:Int)).toNat (0, ([], ([], (0, []))))).1, ((((r1_.2.set ((r1_.2.length:Int) - (1:Int)).toNat (r1_.2.getD ((r1_.2.length:Int) - (1:Int)).toNat (0, ([], ([], (0, [])))))).getD ((r1_.2.length:Int) - (1:Int)).toNat (0, ([], ([], (0, []))))).2.1.set (0:Int).toNat r8_.1), ((r1_.2.set ((r1_.2.length:Int) - (1:Int)).toNat (r1_.2.getD ((r1_.2.length:Int) - (1:Int)).toNat (0, ([], ([], (0, [])))))).getD ((r1_.2.length:Int) - (1:Int)).toNat (0, ([], ([], (0, []))))).2.2))) (.deep true .no))]) rfl rfl (by exact ⟨⟨.inl rfl, rfl, trivial⟩, ⟨⟨⟨rfl, rfl⟩, trivial⟩, ⟨⟨rfl, rfl⟩, trivial⟩, trivial⟩, ⟨rfl, rfl⟩, ⟨rfl, rfl⟩, trivial⟩) (by exact ⟨⟨⟨rfl, rfl⟩, rfl⟩, trivial⟩))), he⟩
            · have he := ok_f he hb
              have he := ok_some he
              exact ⟨rfl, _, _, ((leads_close [9902] rfl).trans (leads_ren [(900, 4), (901, 9901), (902, 9902)] (l := [(4, .c (.ptr 900 0))]) (st' := [(0, .rc [.imm (.int .u8) r2_.2.1, .int .i64 r2_.2.2]), (900, .rc [.own 901 false, .own 902 false]), (901, .sl 3 (.int .i64) r1_.1 .shallow), (902, .sl 124 (.pair (.int .i64) (.pair (.sl (.int .i64)) (.pair (.sl (.int .i64)) (.pair (.int .i64) (.sl (.sl (.int .i64))))))) (r1_.2.set ((r1_.2.length:Int) - (1:Int)).toNat (r1_.2.getD ((r1_.2.length:Int) - (1:Int)).toNat (0, ([], ([], (0, [])))))) (.deep true .no))]) rfl rfl (by exact ⟨⟨.inl rfl, rfl, trivial⟩, ⟨⟨⟨rfl, rfl⟩, trivial⟩, ⟨⟨rfl, rfl⟩, trivial⟩, trivial⟩, ⟨rfl, rfl⟩, ⟨rfl, rfl⟩, trivial⟩) (by exact ⟨⟨⟨rfl, rfl⟩, rfl⟩, trivial⟩))), he⟩
          · have he := ok_f he hb
            have he := ok_some he
            exact ⟨rfl, _, _, (leads_ren [(900, 4), (901, 9901), (902, 9902)] (l := [(4, .c (.ptr 900 0))]) (st' := [(0, .rc [.imm (.int .u8) r2_.2.1, .int .i64 r2_.2.2]), (900, .rc [.own 901 false, .own 902 false]), (901, .sl 3 (.int .i64) r1_.1 .shallow), (902, .sl 124 (.pair (.int .i64) (.pair (.sl (.int .i64)) (.pair (.sl (.int .i64)) (.pair (.int .i64) (.sl (.sl (.int .i64))))))) r1_.2 (.deep true .no))]) rfl rfl ⟨⟨.inl rfl, rfl, trivial⟩, ⟨⟨⟨rfl, rfl⟩, trivial⟩, ⟨⟨rfl, rfl⟩, trivial⟩, trivial⟩, ⟨rfl, rfl⟩, ⟨rfl, rfl⟩, trivial⟩ ⟨⟨⟨rfl, rfl⟩, rfl⟩, trivial⟩), he⟩
        · have he := ok_f he hb
          refine And.intro (fun hb => ?_) (fun hb => ?_)
          · have he := ok_t he hb
            refine And.intro (fun hb => ?_) (fun hb => ?_)
            · have he := ok_t he hb
              refine And.intro (by kernel_rfl) ?_
              obtain ⟨r10_, hq1, he⟩ := ok_bind he
              have he := ok_rq he
              have hq2 := he.1
              have he := he.2
              refine And.intro ?_ (And.intro ?_ (trivial))
              · skip
                refine And.intro ?_ trivial
                refine And.intro ?_ trivial
                refine ⟨r10_, hq1, ?_⟩
                refine And.intro hq2 ?_
                refine And.intro ?_ trivial
                have he := ok_some he
                exact ⟨rfl, _, _, (leads_ren [(900, 4), (901, 9901), (902, 9902)] (l := [(4, .c (.ptr 900 0))]) (st' := [(0, .rc [.imm (.int .u8) r10_.2.1, .int .i64 r10_.2.2]), (900, .rc [.own 901 false, .own 902 false]), (901, .sl 3 (.int .i64) r1_.1 .shallow), (902, .sl 124 (.pair (.int .i64) (.pair (.sl (.int .i64)) (.pair (.sl (.int .i64)) (.pair (.int .i64) (.sl (.sl (.int .i64))))))) (r1_.2.set (0:Int).toNat ((r1_.2.getD (0:Int).toNat (0, ([], ([], (0, []))))).1, ((r1_.2.getD (0:Int).toNat (0, ([], ([], (0, []))))).2.1, ((r1_.2.getD (0:Int).toNat (0, ([], ([], (0, []))))).2.2.1, (r10_.1, (r1_.2.getD (0:Int).toNat (0, ([], ([], (0, []))))).2.2.2.2))))) (.deep true .no))]) rfl rfl ⟨⟨.inl rfl, rfl, trivial⟩, ⟨⟨⟨rfl, rfl⟩, trivial⟩, ⟨⟨rfl, rfl⟩, trivial⟩, trivial⟩, ⟨rfl, rfl⟩, ⟨rfl, rfl⟩, trivial⟩ ⟨⟨⟨rfl, rfl⟩, rfl⟩, trivial⟩), he⟩
              · skip
                refine And.intro ?_ (And.intro ?_ (trivial))
                · skip
                  refine And.intro ?_ trivial
                  refine ⟨r10_, hq1, ?_⟩
                  refine And.intro hq2 ?_
                  refine And.intro ?_ trivial
                  have he := ok_some he
                  exact ⟨rfl, _, _, (leads_ren [(900, 4), (901, 9901), (902, 9902)] (l := [(4, .c (.ptr 900 0))]) (st' := [(0, .rc [.imm (.int .u8) r10_.2.1, .int .i64 r10_.2.2]), (900, .rc [.own 901 false, .own 902 false]), (901, .sl 3 (.int .i64) r1_.1 .shallow), (902, .sl 124 (.pair (.int .i64) (.pair (.sl (.int .i64)) (.pair (.sl (.int .i64)) (.pair (.int .i64) (.sl (.sl (.int .i64))))))) (r1_.2.set (0:Int).toNat ((r1_.2.getD (0:Int).toNat (0, ([], ([], (0, []))))).1, ((r1_.2.getD (0:Int).toNat (0, ([], ([], (0, []))))).2.1, ((r1_.2.getD (0:Int).toNat (0, ([], ([], (0, []))))).2.2.1, (r10_.1, (r1_.2.getD (0:Int).toNat (0, ([], ([], (0, []))))).2.2.2.2))))) (.deep true .no))]) rfl rfl ⟨⟨.inl rfl, rfl, trivial⟩, ⟨⟨⟨rfl, rfl⟩, trivial⟩, ⟨⟨rfl, rfl⟩, trivial⟩, trivial⟩, ⟨rfl, rfl⟩, ⟨rfl, rfl⟩, trivial⟩ ⟨⟨⟨rfl, rfl⟩, rfl⟩, trivial⟩), he⟩
                · skip
                  refine ⟨r10_, hq1, ?_⟩
                  refine And.intro ?_ trivial
                  refine And.intro hq2 ?_
                  refine And.intro ?_ trivial
                  have he := ok_some he
                  exact ⟨rfl, _, _, (leads_ren [(900, 4), (901, 9901), (902, 9902)] (l := [(4, .c (.ptr 900 0))]) (st' := [(0, .rc [.imm (.int .u8) r10_.2.1, .int .i64 r10_.2.2]), (900, .rc [.own 901 false, .own 902 false]), (901, .sl 3 (.int .i64) r1_.1 .shallow), (902, .sl 124 (.pair (.int .i64) (.pair (.sl (.int .i64)) (.pair (.sl (.int .i64)) (.pair (.int .i64) (.sl (.sl (.int .i64))))))) (r1_.2.set (0:Int).toNat ((r1_.2.getD (0:Int).toNat (0, ([], ([], (0, []))))).1, ((r1_.2.getD (0:Int).toNat (0, ([], ([], (0, []))))).2.1, ((r1_.2.getD (0:Int).toNat (0, ([], ([], (0, []))))).2.2.1, (r10_.1, (r1_.2.getD (0:Int).toNat (0, ([], ([], (0, []))))).2.2.2.2))))) (.deep true .no))]) rfl rfl ⟨⟨.inl rfl, rfl, trivial⟩, ⟨⟨⟨rfl, rfl⟩, trivial⟩, ⟨⟨rfl, rfl⟩, trivial⟩, trivial⟩, ⟨rfl, rfl⟩, ⟨rfl, rfl⟩, trivial⟩ ⟨⟨⟨rfl, rfl⟩, rfl⟩, trivial⟩), he⟩
            · have he := ok_f he hb
              have he := ok_some he
              exact ⟨rfl, _, _, (leads_ren [(900, 4), (901, 9901), (902, 9902)] (l := [(4, .c (.ptr 900 0))]) (st' := [(0, .rc [.imm (.int .u8) r2_.2.1, .int .i64 r2_.2.2]), (900, .rc [.own 901 false, .own 902 false]), (901, .sl 3 (.int .i64) r1_.1 .shallow), (902, .sl 124 (.pair (.int .i64) (.pair (.sl (.int .i64)) (.pair (.sl (.int .i64)) (.pair (.int .i64) (.sl (.sl (.int .i64))))))) r1_.2 (.deep true .no))]) rfl rfl ⟨⟨.inl rfl, rfl, trivial⟩, ⟨⟨⟨rfl, rfl⟩, trivial⟩, ⟨⟨rfl, rfl⟩, trivial⟩, trivial⟩, ⟨rfl, rfl⟩, ⟨rfl, rfl⟩, trivial⟩ ⟨⟨⟨rfl, rfl⟩, rfl⟩, trivial⟩), he⟩
          · have he := ok_f he hb
            refine And.intro (fun hb => ?_) (fun hb => ?_)
            · have he := ok_t he hb
              have he := ok_some he
              exact ⟨rfl, _, _, (leads_ren [(900, 4)] (l := [(4, .c (.ptr 900 0))]) (st' := [(0, .rc [.imm (.int .u8) r2_.2.1, .int .i64 r2_.2.2]), (900, .rc [.own 901 false, .own 902 false]), (901, .sl 3 (.int .i64) ([] : List Int) .shallow), (902, .sl 124 (.pair (.int .i64) (.pair (.sl (.int .i64)) (.pair (.sl (.int .i64)) (.pair (.int .i64) (.sl (.sl (.int .i64))))))) ([] : List (Int × (List Int) × (List Int) × Int × (List (List Int)))) (.deep true .no))]) rfl rfl ⟨⟨.inl rfl, rfl, trivial⟩, ⟨⟨rfl, trivial⟩, ⟨rfl, trivial⟩, trivial⟩, trivial, trivial, trivial⟩ ⟨⟨⟨rfl, rfl⟩, rfl⟩, trivial⟩), he⟩
            · have he := ok_f he hb
              have he := ok_some he
              exact ⟨rfl, _, _, (leads_ren [(900, 4), (901, 9901), (902, 9902)] (l := [(4, .c (.ptr 900 0))]) (st' := [(0, .rc [.imm (.int .u8) r2_.2.1, .int .i64 r2_.2.2]), (900, .rc [.own 901 false, .own 902 false]), (901, .sl 3 (.int .i64) r1_.1 .shallow), (902, .sl 124 (.pair (.int .i64) (.pair (.sl (.int .i64)) (.pair (.sl (.int .i64)) (.pair (.int .i64) (.sl (.sl (.int .i64))))))) r1_.2 (.deep true .no))]) rfl rfl ⟨⟨.inl rfl, rfl, trivial⟩, ⟨⟨⟨rfl, rfl⟩, trivial⟩, ⟨⟨rfl, rfl⟩, trivial⟩, trivial⟩, ⟨rfl, rfl⟩, ⟨rfl, rfl⟩, trivial⟩ ⟨⟨⟨rfl, rfl⟩, rfl⟩, trivial⟩), he⟩

noncomputable def c_spec_l6Vars : Con := fun args st => match args, st with
  | [.agg [.imm (.int .i64) m_0, .imm (.pair (.int .i64) (.pair (.sl (.int .i64)) (.pair (.sl (.int .i64)) (.pair (.int .i64) (.sl (.sl (.int .i64))))))) m_1], .c (.imm (.int .i64) list_)], [] => .opt (Bool) (spec_l6Vars (m_0, m_1) list_) (fun r => .ret (.c (.bool r)) [])
  | _, _ => .fail

noncomputable def C_spec_l6Vars : Cfg := { y := tys, n := 45, h := 0, tab := [], cut := [], hand := [], good := [], deep := [], sched := [] }

theorem t_spec_l6Vars : TabOk Try.prog C_spec_l6Vars := tabOk_of (fun p h => by cases h)

theorem k_spec_l6Vars : Entry Try.prog 213 c_spec_l6Vars := by
  refine entry_by (C := C_spec_l6Vars) mixed tys_ok t_spec_l6Vars (fn := Try.f213) (c := bd Try.f213) (by kernel_rfl) (by kernel_rfl) (by kernel_rfl) (by kernel_rfl) ?_
  intro args st k he
  unfold c_spec_l6Vars at he
  split at he
  rotate_left
  · exact he.elim
  rename_i m_0 m_1 list_
  have he : Ok (spec_l6Vars (m_0, m_1) list_) (fun r => k (.c (.bool r)) []) := he
  refine ⟨rfl, rfl, ?_⟩
  refine loop_model mixed tys_ok t_spec_l6Vars (S := Int) (I := (fun i => (envOf [(1, .c (.imm (.int .i64) list_)), (2, .c (.ptr 10000000 0)), (5, .c (.int .i64 i))], [(10000000, .rc [.imm (.int .i64) (m_0, m_1).1, .imm (.pair (.int .i64) (.pair (.sl (.int .i64)) (.pair (.sl (.int .i64)) (.pair (.int .i64) (.sl (.sl (.int .i64))))))) (m_0, m_1).2])]))) (f := spec_l6Vars_l1 (m_0, m_1) list_) (K := (fun r => k (.c (.bool r)) [])) he (leads_ren [(10000000, 2)] (l := [(1, .c (.imm (.int .i64) list_)), (2, .c (.ptr 10000000 0)), (5, .c (.int .i64 (0:Int)))]) (st' := [(10000000, .rc [.imm (.int .i64) (m_0, m_1).1, .imm (.pair (.int .i64) (.pair (.sl (.int .i64)) (.pair (.sl (.int .i64)) (.pair (.int .i64) (.sl (.sl (.int .i64))))))) (m_0, m_1).2])]) rfl rfl ⟨⟨.inl rfl, .inl rfl, trivial⟩, trivial⟩ ⟨.inl rfl, ⟨⟨rfl, rfl⟩, rfl⟩, rfl, trivial⟩) ?_
  rintro i J1 he
  refine And.intro (fun hb => ?_) (fun hb => ?_)
  · have he := ok_t he hb
    refine And.intro (by kernel_rfl) ?_
    have he := ok_rq he
    refine And.intro he.1 ?_
    have he := he.2
    refine And.intro (fun hb => ?_) (fun hb => ?_)
    · have he := ok_f he hb
      have he := ok_rq he
      refine And.intro he.1 ?_
      have he := he.2
      refine And.intro (fun hb => ?_) (fun hb => ?_)
      · have he := ok_t he hb
        have he := ok_some he
        exact ⟨rfl, _, _, (leads_ren [] (l := [(4, .c (.bool false))]) (st' := []) rfl rfl trivial ⟨.inr rfl, trivial⟩), he⟩
      · have he := ok_f he hb
        refine loop_model mixed tys_ok t_spec_l6Vars (S := Int) (I := (fun k_ => (envOf [(1, .c (.imm (.int .i64) list_)), (2, .c (.ptr 10001000 0)), (5, .c (.int .i64 i)), (6, .c (.int .i64 k_))], [(10001000, .rc [.imm (.int .i64) (m_0, m_1).1, .imm (.pair (.int .i64) (.pair (.sl (.int .i64)) (.pair (.sl (.int .i64)) (.pair (.int .i64) (.sl (.sl (.int .i64))))))) (m_0, m_1).2])]))) (f := spec_l6Vars_l2 list_ i) (K := (LK J1 (fun r => k (.c (.bool r)) []))) he (leads_ren [(10001000, 10000000)] (l := [(1, .c (.imm (.int .i64) list_)), (2, .c (.ptr 10001000 0)), (5, .c (.int .i64 i)), (6, .c (.int .i64 (0:Int)))]) (st' := [(10001000, .rc [.imm (.int .i64) (m_0, m_1).1, .imm (.pair (.int .i64) (.pair (.sl (.int .i64)) (.pair (.sl (.int .i64)) (.pair (.int .i64) (.sl (.sl (.int .i64))))))) (m_0, m_1).2])]) rfl rfl ⟨⟨.inl rfl, .inl rfl, trivial⟩, trivial⟩ ⟨.inl rfl, ⟨⟨rfl, rfl⟩, rfl⟩, rfl, rfl, trivial⟩) ?_
        rintro k_ J2 he
        refine And.intro (fun hb => ?_) (fun hb => ?_)
        · have he := ok_t he hb
          refine And.intro (by kernel_rfl) ?_
          have he := ok_rq he
          refine And.intro he.1 ?_
          have he := he.2
          have he := ok_rq he
          refine And.intro he.1 ?_
          have he := he.2
          refine And.intro (fun hb => ?_) (fun hb => ?_)
          · have he := ok_t he hb
            have he := ok_some he
            exact ⟨rfl, _, _, (leads_ren [] (l := [(4, .c (.bool false))]) (st' := []) rfl rfl trivial ⟨.inr rfl, trivial⟩), he⟩
          · have he := ok_f he hb
            have he := ok_rq he
            refine And.intro he.1 ?_
            have he := he.2
            have he := ok_some he
            exact ⟨(k_ + (1:Int)), he, (leads_ren [] (l := [(1, .c (.imm (.int .i64) list_)), (2, .c (.ptr 10001000 0)), (5, .c (.int .i64 i)), (6, .c (.int .i64 (k_ + (1:Int))))]) (st' := [(10001000, .rc [.imm (.int .i64) (m_0, m_1).1, .imm (.pair (.int .i64) (.pair (.sl (.int .i64)) (.pair (.sl (.int .i64)) (.pair (.int .i64) (.sl (.sl (.int .i64))))))) (m_0, m_1).2])]) rfl rfl ⟨⟨.inl rfl, .inl rfl, trivial⟩, trivial⟩ ⟨.inl rfl, ⟨⟨rfl, rfl⟩, rfl⟩, rfl, rfl, trivial⟩)⟩
        · have he := ok_f he hb
          have he := ok_rq he
          refine And.intro he.1 ?_
          have he := he.2
          have he := ok_some he
          exact ⟨(i + (1:Int)), he, (leads_ren [(10000000, 10001000)] (l := [(1, .c (.imm (.int .i64) list_)), (2, .c (.ptr 10000000 0)), (5, .c (.int .i64 (i + (1:Int))))]) (st' := [(10000000, .rc [.imm (.int .i64) (m_0, m_1).1, .imm (.pair (.int .i64) (.pair (.sl (.int .i64)) (.pair (.sl (.int .i64)) (.pair (.int .i64) (.sl (.sl (.int .i64))))))) (m_0, m_1).2])]) rfl rfl ⟨⟨.inl rfl, .inl rfl, trivial⟩, trivial⟩ ⟨.inl rfl, ⟨⟨rfl, rfl⟩, rfl⟩, rfl, trivial⟩)⟩
    · have he := ok_t he hb
      have he := ok_some he
      exact ⟨rfl, _, _, (leads_ren [] (l := [(4, .c (.bool false))]) (st' := []) rfl rfl trivial ⟨.inr rfl, trivial⟩), he⟩
  · have he := ok_f he hb
    have he := ok_some he
    exact ⟨rfl, _, _, (leads_ren [] (l := [(4, .c (.bool (decide ((1:Int) ≤ (list_.length:Int)))))]) (st' := []) rfl rfl trivial ⟨.inl rfl, trivial⟩), he⟩

noncomputable def c_spec_l6Linear : Con := fun args st => match args, st with
  | [.agg [.int .i64 r__0, .imm (.int .i64) r__1, .imm (.int .i64) r__2, .int .i64 r__3, .imm (.sl (.int .i64)) r__4]], [] => .opt (Bool) (spec_l6Linear (r__0, (r__1, (r__2, (r__3, r__4))))) (fun r => .ret (.c (.bool r)) [])
  | _, _ => .fail

noncomputable def C_spec_l6Linear : Cfg := { y := tys, n := 50, h := 0, tab := [], cut := [], hand := [], good := [], deep := [], sched := [] }

theorem t_spec_l6Linear : TabOk Try.prog C_spec_l6Linear := tabOk_of (fun p h => by cases h)

theorem k_spec_l6Linear : Entry Try.prog 279 c_spec_l6Linear := by
  refine entry_by (C := C_spec_l6Linear) mixed tys_ok t_spec_l6Linear (fn := Try.f279) (c := bd Try.f279) (by kernel_rfl) (by kernel_rfl) (by kernel_rfl) (by kernel_rfl) ?_
  intro args st k he
  unfold c_spec_l6Linear at he
  split at he
  rotate_left
  · exact he.elim
  rename_i r__0 r__1 r__2 r__3 r__4
  have he : Ok (spec_l6Linear (r__0, (r__1, (r__2, (r__3, r__4))))) (fun r => k (.c (.bool r)) []) := he
  refine ⟨rfl, rfl, ?_⟩
  refine loop_model mixed tys_ok t_spec_l6Linear (S := Int) (I := (fun i => (envOf [(1, .c (.ptr 10000000 0)), (3, .c (.int .i64 i))], [(10000000, .rc [.int .i64 (r__0, (r__1, (r__2, (r__3, r__4)))).1, .imm (.int .i64) (r__0, (r__1, (r__2, (r__3, r__4)))).2.1, .imm (.int .i64) (r__0, (r__1, (r__2, (r__3, r__4)))).2.2.1, .int .i64 (r__0, (r__1, (r__2, (r__3, r__4)))).2.2.2.1, .imm (.sl (.int .i64)) (r__0, (r__1, (r__2, (r__3, r__4)))).2.2.2.2])]))) (f := spec_l6Linear_l1 (r__0, (r__1, (r__2, (r__3, r__4))))) (K := (fun r => k (.c (.bool r)) [])) he (leads_ren [(10000000, 1)] (l := [(1, .c (.ptr 10000000 0)), (3, .c (.int .i64 (0:Int)))]) (st' := [(10000000, .rc [.int .i64 (r__0, (r__1, (r__2, (r__3, r__4)))).1, .imm (.int .i64) (r__0, (r__1, (r__2, (r__3, r__4)))).2.1, .imm (.int .i64) (r__0, (r__1, (r__2, (r__3, r__4)))).2.2.1, .int .i64 (r__0, (r__1, (r__2, (r__3, r__4)))).2.2.2.1, .imm (.sl (.int .i64)) (r__0, (r__1, (r__2, (r__3, r__4)))).2.2.2.2])]) rfl rfl ⟨⟨rfl, .inl rfl, .inl rfl, rfl, .inl rfl, trivial⟩, trivial⟩ ⟨⟨⟨rfl, rfl⟩, rfl⟩, rfl, trivial⟩) ?_
  rintro i J1 he
  refine And.intro (fun hb => ?_) (fun hb => ?_)
  · have he := ok_t he hb
    have he := ok_rq he
    refine And.intro he.1 ?_
    have he := he.2
    refine And.intro (fun hb => ?_) (fun hb => ?_)
    · have he := ok_f he hb
      have he := ok_rq he
      refine And.intro he.1 ?_
      have he := he.2
      refine And.intro (fun hb => ?_) (fun hb => ?_)
      · have he := ok_f he hb
        have he := ok_rq he
        refine And.intro he.1 ?_
        have he := he.2
        refine And.intro (fun hb => ?_) (fun hb => ?_)
        · have he := ok_t he hb
          have he := ok_some he
          exact ⟨rfl, _, _, (leads_ren [] (l := [(2, .c (.bool false))]) (st' := []) rfl rfl trivial ⟨.inr rfl, trivial⟩), he⟩
        · have he := ok_f he hb
          have he := ok_rq he
          refine And.intro he.1 ?_
          have he := he.2
          have he := ok_some he
          exact ⟨(i + (1:Int)), he, (leads_ren [] (l := [(1, .c (.ptr 10000000 0)), (3, .c (.int .i64 (i + (1:Int))))]) (st' := [(10000000, .rc [.int .i64 (r__0, (r__1, (r__2, (r__3, r__4)))).1, .imm (.int .i64) (r__0, (r__1, (r__2, (r__3, r__4)))).2.1, .imm (.int .i64) (r__0, (r__1, (r__2, (r__3, r__4)))).2.2.1, .int .i64 (r__0, (r__1, (r__2, (r__3, r__4)))).2.2.2.1, .imm (.sl (.int .i64)) (r__0, (r__1, (r__2, (r__3, r__4)))).2.2.2.2])]) rfl rfl ⟨⟨rfl, .inl rfl, .inl rfl, rfl, .inl rfl, trivial⟩, trivial⟩ ⟨⟨⟨rfl, rfl⟩, rfl⟩, rfl, trivial⟩)⟩
      · have he := ok_t he hb
        have he := ok_some he
        exact ⟨rfl, _, _, (leads_ren [] (l := [(2, .c (.bool false))]) (st' := []) rfl rfl trivial ⟨.inr rfl, trivial⟩), he⟩
    · have he := ok_t he hb
      have he := ok_some he
      exact ⟨rfl, _, _, (leads_ren [] (l := [(2, .c (.bool false))]) (st' := []) rfl rfl trivial ⟨.inr rfl, trivial⟩), he⟩
  · have he := ok_f he hb
    refine And.intro (fun hb => ?_) (fun hb => ?_)
    · have he := ok_t he hb
      refine And.intro (fun hb => ?_) (fun hb => ?_)
      · have he := ok_t he hb
        have he := ok_some he
        exact ⟨rfl, _, _, (leads_ren [] (l := [(2, .c (.bool (decide ((r__0, (r__1, (r__2, (r__3, r__4)))).2.2.2.1 ≤ (1000:Int)))))]) (st' := []) rfl rfl trivial ⟨.inl rfl, trivial⟩), he⟩
      · have he := ok_f he hb
        have he := ok_some he
        exact ⟨rfl, _, _, (leads_ren [] (l := [(2, .c (.bool false))]) (st' := []) rfl rfl trivial ⟨.inr rfl, trivial⟩), he⟩
    · have he := ok_f he hb
      have he := ok_some he
      exact ⟨rfl, _, _, (leads_ren [] (l := [(2, .c (.bool false))]) (st' := []) rfl rfl trivial ⟨.inr rfl, trivial⟩), he⟩

noncomputable def c_spec_l6Table : Con := fun args st => match args, st with
  | [.agg [.int .i64 r__0, .imm (.int .i64) r__1, .imm (.int .i64) r__2, .int .i64 r__3, .imm (.sl (.int .i64)) r__4]], [] => .opt (Bool) (spec_l6Table (r__0, (r__1, (r__2, (r__3, r__4))))) (fun r => .ret (.c (.bool r)) [])
  | _, _ => .fail

noncomputable def C_spec_l6Table : Cfg := { y := tys, n := 56, h := 0, tab := [], cut := [], hand := [], good := [], deep := [], sched := [] }

theorem t_spec_l6Table : TabOk Try.prog C_spec_l6Table := tabOk_of (fun p h => by cases h)

theorem k_spec_l6Table : Entry Try.prog 280 c_spec_l6Table := by
  refine entry_by (C := C_spec_l6Table) mixed tys_ok t_spec_l6Table (fn := Try.f280) (c := bd Try.f280) (by kernel_rfl) (by kernel_rfl) (by kernel_rfl) (by kernel_rfl) ?_
  intro args st k he
  unfold c_spec_l6Table at he
  split at he
  rotate_left
  · exact he.elim
  rename_i r__0 r__1 r__2 r__3 r__4
  have he : Ok (spec_l6Table (r__0, (r__1, (r__2, (r__3, r__4))))) (fun r => k (.c (.bool r)) []) := he
  refine ⟨rfl, rfl, ?_⟩
  refine loop_model mixed tys_ok t_spec_l6Table (S := Int) (I := (fun i => (envOf [(1, .c (.ptr 10000000 0)), (3, .c (.int .i64 i))], [(10000000, .rc [.int .i64 (r__0, (r__1, (r__2, (r__3, r__4)))).1, .imm (.int .i64) (r__0, (r__1, (r__2, (r__3, r__4)))).2.1, .imm (.int .i64) (r__0, (r__1, (r__2, (r__3, r__4)))).2.2.1, .int .i64 (r__0, (r__1, (r__2, (r__3, r__4)))).2.2.2.1, .imm (.sl (.int .i64)) (r__0, (r__1, (r__2, (r__3, r__4)))).2.2.2.2])]))) (f := spec_l6Table_l1 (r__0, (r__1, (r__2, (r__3, r__4))))) (K := (fun r => k (.c (.bool r)) [])) he (leads_ren [(10000000, 1)] (l := [(1, .c (.ptr 10000000 0)), (3, .c (.int .i64 (0:Int)))]) (st' := [(10000000, .rc [.int .i64 (r__0, (r__1, (r__2, (r__3, r__4)))).1, .imm (.int .i64) (r__0, (r__1, (r__2, (r__3, r__4)))).2.1, .imm (.int .i64) (r__0, (r__1, (r__2, (r__3, r__4)))).2.2.1, .int .i64 (r__0, (r__1, (r__2, (r__3, r__4)))).2.2.2.1, .imm (.sl (.int .i64)) (r__0, (r__1, (r__2, (r__3, r__4)))).2.2.2.2])]) rfl rfl ⟨⟨rfl, .inl rfl, .inl rfl, rfl, .inl rfl, trivial⟩, trivial⟩ ⟨⟨⟨rfl, rfl⟩, rfl⟩, rfl, trivial⟩) ?_
  rintro i J1 he
  refine And.intro (fun hb => ?_) (fun hb => ?_)
  · have he := ok_t he hb
    refine And.intro (by kernel_rfl) ?_
    have he := ok_rq he
    refine And.intro he.1 ?_
    have he := he.2
    refine And.intro (fun hb => ?_) (fun hb => ?_)
    · have he := ok_t he hb
      have he := ok_some he
      exact ⟨rfl, _, _, (leads_ren [] (l := [(2, .c (.bool false))]) (st' := []) rfl rfl trivial ⟨.inr rfl, trivial⟩), he⟩
    · have he := ok_f he hb
      refine loop_model mixed tys_ok t_spec_l6Table (S := Int) (I := (fun k_ => (envOf [(1, .c (.ptr 10001000 0)), (3, .c (.int .i64 i)), (4, .c (.int .i64 k_))], [(10001000, .rc [.int .i64 (r__0, (r__1, (r__2, (r__3, r__4)))).1, .imm (.int .i64) (r__0, (r__1, (r__2, (r__3, r__4)))).2.1, .imm (.int .i64) (r__0, (r__1, (r__2, (r__3, r__4)))).2.2.1, .int .i64 (r__0, (r__1, (r__2, (r__3, r__4)))).2.2.2.1, .imm (.sl (.int .i64)) (r__0, (r__1, (r__2, (r__3, r__4)))).2.2.2.2])]))) (f := spec_l6Table_l2 (r__0, (r__1, (r__2, (r__3, r__4)))) i) (K := (LK J1 (fun r => k (.c (.bool r)) []))) he (leads_ren [(10001000, 10000000)] (l := [(1, .c (.ptr 10001000 0)), (3, .c (.int .i64 i)), (4, .c (.int .i64 (0:Int)))]) (st' := [(10001000, .rc [.int .i64 (r__0, (r__1, (r__2, (r__3, r__4)))).1, .imm (.int .i64) (r__0, (r__1, (r__2, (r__3, r__4)))).2.1, .imm (.int .i64) (r__0, (r__1, (r__2, (r__3, r__4)))).2.2.1, .int .i64 (r__0, (r__1, (r__2, (r__3, r__4)))).2.2.2.1, .imm (.sl (.int .i64)) (r__0, (r__1, (r__2, (r__3, r__4)))).2.2.2.2])]) rfl rfl ⟨⟨rfl, .inl rfl, .inl rfl, rfl, .inl rfl, trivial⟩, trivial⟩ ⟨⟨⟨rfl, rfl⟩, rfl⟩, rfl, rfl, trivial⟩) ?_
      rintro k_ J2 he
      have he := ok_rq he
      refine And.intro he.1 ?_
      have he := he.2
      refine And.intro (fun hb => ?_) (fun hb => ?_)
      · have he := ok_t he hb
        have he := ok_rq he
        refine And.intro he.1 ?_
        have he := he.2
        have he := ok_rq he
        refine And.intro he.1 ?_
        have he := he.2
        refine And.intro (fun hb => ?_) (fun hb => ?_)
        · have he := ok_f he hb
          have he := ok_rq he
          refine And.intro he.1 ?_
          have he := he.2
          have he := ok_rq he
          refine And.intro he.1 ?_
          have he := he.2
          refine And.intro (fun hb => ?_) (fun hb => ?_)
          · have he := ok_t he hb
            have he := ok_some he
            exact ⟨rfl, _, _, (leads_ren [] (l := [(2, .c (.bool false))]) (st' := []) rfl rfl trivial ⟨.inr rfl, trivial⟩), he⟩
          · have he := ok_f he hb
            have he := ok_rq he
            refine And.intro he.1 ?_
            have he := he.2
            have he := ok_some he
            exact ⟨(k_ + (1:Int)), he, (leads_ren [] (l := [(1, .c (.ptr 10001000 0)), (3, .c (.int .i64 i)), (4, .c (.int .i64 (k_ + (1:Int))))]) (st' := [(10001000, .rc [.int .i64 (r__0, (r__1, (r__2, (r__3, r__4)))).1, .imm (.int .i64) (r__0, (r__1, (r__2, (r__3, r__4)))).2.1, .imm (.int .i64) (r__0, (r__1, (r__2, (r__3, r__4)))).2.2.1, .int .i64 (r__0, (r__1, (r__2, (r__3, r__4)))).2.2.2.1, .imm (.sl (.int .i64)) (r__0, (r__1, (r__2, (r__3, r__4)))).2.2.2.2])]) rfl rfl ⟨⟨rfl, .inl rfl, .inl rfl, rfl, .inl rfl, trivial⟩, trivial⟩ ⟨⟨⟨rfl, rfl⟩, rfl⟩, rfl, rfl, trivial⟩)⟩
        · have he := ok_t he hb
          have he := ok_some he
          exact ⟨rfl, _, _, (leads_ren [] (l := [(2, .c (.bool false))]) (st' := []) rfl rfl trivial ⟨.inr rfl, trivial⟩), he⟩
      · have he := ok_f he hb
        have he := ok_rq he
        refine And.intro he.1 ?_
        have he := he.2
        have he := ok_some he
        exact ⟨(i + (1:Int)), he, (leads_ren [(10000000, 10001000)] (l := [(1, .c (.ptr 10000000 0)), (3, .c (.int .i64 (i + (1:Int))))]) (st' := [(10000000, .rc [.int .i64 (r__0, (r__1, (r__2, (r__3, r__4)))).1, .imm (.int .i64) (r__0, (r__1, (r__2, (r__3, r__4)))).2.1, .imm (.int .i64) (r__0, (r__1, (r__2, (r__3, r__4)))).2.2.1, .int .i64 (r__0, (r__1, (r__2, (r__3, r__4)))).2.2.2.1, .imm (.sl (.int .i64)) (r__0, (r__1, (r__2, (r__3, r__4)))).2.2.2.2])]) rfl rfl ⟨⟨rfl, .inl rfl, .inl rfl, rfl, .inl rfl, trivial⟩, trivial⟩ ⟨⟨⟨rfl, rfl⟩, rfl⟩, rfl, trivial⟩)⟩
  · have he := ok_f he hb
    have he := ok_some he
    exact ⟨rfl, _, _, (leads_ren [] (l := [(2, .c (.bool (decide (((r__0, (r__1, (r__2, (r__3, r__4)))).2.2.2.2.length:Int) ≤ (8:Int)))))]) (st' := []) rfl rfl trivial ⟨.inl rfl, trivial⟩), he⟩

noncomputable def c_spec_l6Rule : Con := fun args st => match args, st with
  | [.agg [.imm (.int .i64) m_0, .imm (.pair (.int .i64) (.pair (.sl (.int .i64)) (.pair (.sl (.int .i64)) (.pair (.int .i64) (.sl (.sl (.int .i64))))))) m_1], .agg [.int .i64 r__0, .imm (.int .i64) r__1, .imm (.int .i64) r__2, .int .i64 r__3, .imm (.sl (.int .i64)) r__4]], [] => .opt (Bool) (spec_l6Rule (m_0, m_1) (r__0, (r__1, (r__2, (r__3, r__4))))) (fun r => .ret (.c (.bool r)) [])
  | _, _ => .fail

noncomputable def C_spec_l6Rule : Cfg := { y := tys, n := 55, h := 0, tab := [(213, c_spec_l6Vars), (279, c_spec_l6Linear), (280, c_spec_l6Table)], cut := [3], hand := [], good := [], deep := [], sched := [] }

theorem t_spec_l6Rule : TabOk Try.prog C_spec_l6Rule := by
  refine tabOk_of ?_
  simp only [C_spec_l6Rule, List.forall_mem_cons]
  exact ⟨k_spec_l6Vars, k_spec_l6Linear, k_spec_l6Table, fun p h => by cases h⟩

theorem k_spec_l6Rule : Entry Try.prog 255 c_spec_l6Rule := by
  refine entry_by (C := C_spec_l6Rule) mixed tys_ok t_spec_l6Rule (fn := Try.f255) (c := bd Try.f255) (by kernel_rfl) (by kernel_rfl) (by kernel_rfl) (by kernel_rfl) ?_
  intro args st k he
  unfold c_spec_l6Rule at he
  split at he
  rotate_left
  · exact he.elim
  rename_i m_0 m_1 r__0 r__1 r__2 r__3 r__4
  have he : Ok (spec_l6Rule (m_0, m_1) (r__0, (r__1, (r__2, (r__3, r__4))))) (fun r => k (.c (.bool r)) []) := he
  refine ⟨rfl, rfl, ?_⟩
  refine seq_model mixed tys_ok t_spec_l6Rule (S := Unit) (I := (fun _ => (envOf [(3, .c (.ptr 10000000 0))], [(10000000, .rc [.int .i64 (r__0, (r__1, (r__2, (r__3, r__4)))).1, .imm (.int .i64) (r__0, (r__1, (r__2, (r__3, r__4)))).2.1, .imm (.int .i64) (r__0, (r__1, (r__2, (r__3, r__4)))).2.2.1, .int .i64 (r__0, (r__1, (r__2, (r__3, r__4)))).2.2.2.1, .imm (.sl (.int .i64)) (r__0, (r__1, (r__2, (r__3, r__4)))).2.2.2.2])]))) (B := fun s => Ok (spec_l6Rule_j1 (r__0, (r__1, (r__2, (r__3, r__4)))) s) (fun r => k (.c (.bool r)) [])) ?_ ?_
  · rintro ⟨⟩ he
    refine And.intro (fun hb => ?_) (fun hb => ?_)
    · have he := ok_t he hb
      obtain ⟨r2_, hr, he⟩ := ok_bind he
      refine ⟨r2_, hr, ?_⟩
      have he := ok_some he
      exact ⟨rfl, _, _, (leads_ren [] (l := [(4, .c (.bool r2_))]) (st' := []) rfl rfl trivial ⟨.inl rfl, trivial⟩), he⟩
    · have he := ok_f he hb
      refine And.intro (fun hb => ?_) (fun hb => ?_)
      · have he := ok_t he hb
        have he := ok_some he
        exact ⟨rfl, _, _, (leads_ren [] (l := [(4, .c (.bool true))]) (st' := []) rfl rfl trivial ⟨.inr rfl, trivial⟩), he⟩
      · have he := ok_f he hb
        refine And.intro (fun hb => ?_) (fun hb => ?_)
        · have he := ok_t he hb
          obtain ⟨r3_, hr, he⟩ := ok_bind he
          refine ⟨r3_, hr, ?_⟩
          have he := ok_some he
          exact ⟨rfl, _, _, (leads_ren [] (l := [(4, .c (.bool r3_))]) (st' := []) rfl rfl trivial ⟨.inl rfl, trivial⟩), he⟩
        · have he := ok_f he hb
          refine And.intro (fun hb => ?_) (fun hb => ?_)
          · have he := ok_t he hb
            have he := ok_some he
            exact ⟨rfl, _, _, (leads_ren [] (l := [(4, .c (.bool (((r__0, (r__1, (r__2, (r__3, r__4)))).2.1.length:Int) == (2:Int))))]) (st' := []) rfl rfl trivial ⟨.inl rfl, trivial⟩), he⟩
          · have he := ok_f he hb
            have he := ok_some he
            exact ⟨rfl, _, _, (leads_ren [] (l := [(4, .c (.bool false))]) (st' := []) rfl rfl trivial ⟨.inr rfl, trivial⟩), he⟩
  · skip
    obtain ⟨r1_, hr, he⟩ := ok_bind he
    refine ⟨r1_, hr, ?_⟩
    refine And.intro (fun hb => ?_) (fun hb => ?_)
    · have he := ok_f he hb
      refine And.intro (fun hb => ?_) (fun hb => ?_)
      · have he := ok_t he hb
        refine And.intro (fun hb => ?_) (fun hb => ?_)
        · have he := ok_f he hb
          refine And.intro (fun hb => ?_) (fun hb => ?_)
          · have he := ok_f he hb
            refine And.intro (fun hb => ?_) (fun hb => ?_)
            · have he := ok_t he hb
              refine And.intro (fun hb => ?_) (fun hb => ?_)
              · have he := ok_t he hb
                have he := ok_some he
                exact ⟨rfl, _, _, (leads_ren [] (l := [(4, .c (.bool false))]) (st' := []) rfl rfl trivial ⟨.inr rfl, trivial⟩), he⟩
              · have he := ok_f he hb
                exact ⟨(), he, (leads_ren [(10000000, 3)] (l := [(3, .c (.ptr 10000000 0))]) (st' := [(10000000, .rc [.int .i64 (r__0, (r__1, (r__2, (r__3, r__4)))).1, .imm (.int .i64) (r__0, (r__1, (r__2, (r__3, r__4)))).2.1, .imm (.int .i64) (r__0, (r__1, (r__2, (r__3, r__4)))).2.2.1, .int .i64 (r__0, (r__1, (r__2, (r__3, r__4)))).2.2.2.1, .imm (.sl (.int .i64)) (r__0, (r__1, (r__2, (r__3, r__4)))).2.2.2.2])]) rfl rfl ⟨⟨rfl, .inl rfl, .inl rfl, rfl, .inl rfl, trivial⟩, trivial⟩ ⟨⟨⟨rfl, rfl⟩, rfl⟩, trivial⟩)⟩
            · have he := ok_f he hb
              exact ⟨(), he, (leads_ren [(10000000, 3)] (l := [(3, .c (.ptr 10000000 0))]) (st' := [(10000000, .rc [.int .i64 (r__0, (r__1, (r__2, (r__3, r__4)))).1, .imm (.int .i64) (r__0, (r__1, (r__2, (r__3, r__4)))).2.1, .imm (.int .i64) (r__0, (r__1, (r__2, (r__3, r__4)))).2.2.1, .int .i64 (r__0, (r__1, (r__2, (r__3, r__4)))).2.2.2.1, .imm (.sl (.int .i64)) (r__0, (r__1, (r__2, (r__3, r__4)))).2.2.2.2])]) rfl rfl ⟨⟨rfl, .inl rfl, .inl rfl, rfl, .inl rfl, trivial⟩, trivial⟩ ⟨⟨⟨rfl, rfl⟩, rfl⟩, trivial⟩)⟩
          · have he := ok_t he hb
            have he := ok_some he
            exact ⟨rfl, _, _, (leads_ren [] (l := [(4, .c (.bool false))]) (st' := []) rfl rfl trivial ⟨.inr rfl, trivial⟩), he⟩
        · have he := ok_t he hb
          have he := ok_some he
          exact ⟨rfl, _, _, (leads_ren [] (l := [(4, .c (.bool false))]) (st' := []) rfl rfl trivial ⟨.inr rfl, trivial⟩), he⟩
      · have he := ok_f he hb
        refine And.intro (fun hb => ?_) (fun hb => ?_)
        · have he := ok_t he hb
          refine And.intro (fun hb => ?_) (fun hb => ?_)
          · have he := ok_t he hb
            have he := ok_some he
            exact ⟨rfl, _, _, (leads_ren [] (l := [(4, .c (.bool false))]) (st' := []) rfl rfl trivial ⟨.inr rfl, trivial⟩), he⟩
          · have he := ok_f he hb
            exact ⟨(), he, (leads_ren [(10000000, 3)] (l := [(3, .c (.ptr 10000000 0))]) (st' := [(10000000, .rc [.int .i64 (r__0, (r__1, (r__2, (r__3, r__4)))).1, .imm (.int .i64) (r__0, (r__1, (r__2, (r__3, r__4)))).2.1, .imm (.int .i64) (r__0, (r__1, (r__2, (r__3, r__4)))).2.2.1, .int .i64 (r__0, (r__1, (r__2, (r__3, r__4)))).2.2.2.1, .imm (.sl (.int .i64)) (r__0, (r__1, (r__2, (r__3, r__4)))).2.2.2.2])]) rfl rfl ⟨⟨rfl, .inl rfl, .inl rfl, rfl, .inl rfl, trivial⟩, trivial⟩ ⟨⟨⟨rfl, rfl⟩, rfl⟩, trivial⟩)⟩
        · have he := ok_f he hb
          exact ⟨(), he, (leads_ren [(10000000, 3)] (l := [(3, .c (.ptr 10000000 0))]) (st' := [(10000000, .rc [.int .i64 (r__0, (r__1, (r__2, (r__3, r__4)))).1, .imm (.int .i64) (r__0, (r__1, (r__2, (r__3, r__4)))).2.1, .imm (.int .i64) (r__0, (r__1, (r__2, (r__3, r__4)))).2.2.1, .int .i64 (r__0, (r__1, (r__2, (r__3, r__4)))).2.2.2.1, .imm (.sl (.int .i64)) (r__0, (r__1, (r__2, (r__3, r__4)))).2.2.2.2])]) rfl rfl ⟨⟨rfl, .inl rfl, .inl rfl, rfl, .inl rfl, trivial⟩, trivial⟩ ⟨⟨⟨rfl, rfl⟩, rfl⟩, trivial⟩)⟩
    · have he := ok_t he hb
      have he := ok_some he
      exact ⟨rfl, _, _, (leads_ren [] (l := [(4, .c (.bool false))]) (st' := []) rfl rfl trivial ⟨.inr rfl, trivial⟩), he⟩

noncomputable def c_spec_ModelValid : Con := fun args st => match args, st with
  | [.agg [.imm (.int .i64) a0_0, .imm (.pair (.int .i64) (.pair (.sl (.int .i64)) (.pair (.sl (.int .i64)) (.pair (.int .i64) (.sl (.sl (.int .i64))))))) a0_1]], [] => .opt (Bool) (spec_ModelValid (a0_0, a0_1)) (fun r => .ret (.c (.bool r)) [])
  | _, _ => .fail

noncomputable def C_spec_ModelValid : Cfg := { y := tys, n := 74, h := 0, tab := [(255, c_spec_l6Rule)], cut := [8], hand := [], good := [], deep := [], sched := [(13, (.first 1 (.first 3 (.alt 0 (.alt 2 (.first 4 (.first 5 (.alt 6 (.first 7 .done) .stop))) .stop) (.alt 2 (.first 4 (.first 5 (.alt 0 (.alt 6 (.first 7 .done) .stop) .stop))) .stop)))))] }

theorem t_spec_ModelValid : TabOk Try.prog C_spec_ModelValid := by
  refine tabOk_of ?_
  simp only [C_spec_ModelValid, List.forall_mem_cons]
  exact ⟨k_spec_l6Rule, fun p h => by cases h⟩

theorem k_spec_ModelValid : Entry Try.prog 196 c_spec_ModelValid := by
  refine entry_by (C := C_spec_ModelValid) mixed tys_ok t_spec_ModelValid (fn := Try.f196) (c := bd Try.f196) (by kernel_rfl) (by kernel_rfl) (by kernel_rfl) (by kernel_rfl) ?_
  intro args st k he
  unfold c_spec_ModelValid at he
  split at he
  rotate_left
  · exact he.elim
  rename_i a0_0 a0_1
  have he : Ok (spec_ModelValid (a0_0, a0_1)) (fun r => k (.c (.bool r)) []) := he
  refine ⟨rfl, rfl, ?_⟩
  refine seq_model mixed tys_ok t_spec_ModelValid (S := Int) (I := (fun i2 => (envOf [(1, .c (.ptr 10001000 0)), (3, .c (.int .i64 i2))], [(10001000, .rc [.imm (.int .i64) (a0_0, a0_1).1, .imm (.pair (.int .i64) (.pair (.sl (.int .i64)) (.pair (.sl (.int .i64)) (.pair (.int .i64) (.sl (.sl (.int .i64))))))) (a0_0, a0_1).2])]))) (B := fun s => Ok (spec_ModelValid_j1 (a0_0, a0_1) s) (fun r => k (.c (.bool r)) [])) ?_ ?_
  · rintro i2 he
    refine And.intro (fun hb => ?_) (fun hb => ?_)
    · have he := ok_f he hb
      refine And.intro (fun hb => ?_) (fun hb => ?_)
      · have he := ok_f he hb
        refine And.intro (fun hb => ?_) (fun hb => ?_)
        · have he := ok_f he hb
          refine And.intro (fun hb => ?_) (fun hb => ?_)
          · have he := ok_t he hb
            have he := ok_some he
            exact ⟨rfl, _, _, (leads_ren [] (l := [(2, .c (.bool false))]) (st' := []) rfl rfl trivial ⟨.inr rfl, trivial⟩), he⟩
          · have he := ok_f he hb
            refine loop_model mixed tys_ok t_spec_ModelValid (S := Int) (I := (fun i3 => (envOf [(1, .c (.ptr 10002000 0)), (5, .c (.int .i64 i3))], [(10002000, .rc [.imm (.int .i64) (a0_0, a0_1).1, .imm (.pair (.int .i64) (.pair (.sl (.int .i64)) (.pair (.sl (.int .i64)) (.pair (.int .i64) (.sl (.sl (.int .i64))))))) (a0_0, a0_1).2])]))) (f := spec_ModelValid_l1 (a0_0, a0_1)) (K := (fun r => k (.c (.bool r)) [])) he (leads_ren [(10002000, 10001000)] (l := [(1, .c (.ptr 10002000 0)), (5, .c (.int .i64 (0:Int)))]) (st' := [(10002000, .rc [.imm (.int .i64) (a0_0, a0_1).1, .imm (.pair (.int .i64) (.pair (.sl (.int .i64)) (.pair (.sl (.int .i64)) (.pair (.int .i64) (.sl (.sl (.int .i64))))))) (a0_0, a0_1).2])]) rfl rfl ⟨⟨.inl rfl, .inl rfl, trivial⟩, trivial⟩ ⟨⟨⟨rfl, rfl⟩, rfl⟩, rfl, trivial⟩) ?_
            rintro i3 J1 he
            refine And.intro (fun hb => ?_) (fun hb => ?_)
            · have he := ok_t he hb
              refine And.intro (by kernel_rfl) ?_
              have he := ok_rq he
              have hq1 := he.1
              have he := he.2
              obtain ⟨r2_, hq2, he⟩ := ok_bind he
              refine And.intro ?_ (And.intro ?_ (trivial))
              · skip
                refine And.intro ?_ trivial
                refine And.intro hq1 ?_
                refine And.intro ?_ trivial
                refine ⟨r2_, hq2, ?_⟩
                refine And.intro (fun hb => ?_) (fun hb => ?_)
                · have he := ok_t he hb
                  have he := ok_some he
                  exact ⟨rfl, _, _, (leads_ren [] (l := [(2, .c (.bool false))]) (st' := []) rfl rfl trivial ⟨.inr rfl, trivial⟩), he⟩
                · have he := ok_f he hb
                  have he := ok_rq he
                  refine And.intro he.1 ?_
                  have he := he.2
                  have he := ok_some he
                  exact ⟨(i3 + (1:Int)), he, (leads_ren [] (l := [(1, .c (.ptr 10002000 0)), (5, .c (.int .i64 (i3 + (1:Int))))]) (st' := [(10002000, .rc [.imm (.int .i64) (a0_0, a0_1).1, .imm (.pair (.int .i64) (.pair (.sl (.int .i64)) (.pair (.sl (.int .i64)) (.pair (.int .i64) (.sl (.sl (.int .i64))))))) (a0_0, a0_1).2])]) rfl rfl ⟨⟨.inl rfl, .inl rfl, trivial⟩, trivial⟩ ⟨⟨⟨rfl, rfl⟩, rfl⟩, rfl, trivial⟩)⟩
              · skip
                refine And.intro hq1 ?_
                refine And.intro ?_ trivial
                refine And.intro ?_ trivial
                refine ⟨r2_, hq2, ?_⟩
                refine And.intro (fun hb => ?_) (fun hb => ?_)
                · have he := ok_t he hb
                  have he := ok_some he
                  exact ⟨rfl, _, _, (leads_ren [] (l := [(2, .c (.bool false))]) (st' := []) rfl rfl trivial ⟨.inr rfl, trivial⟩), he⟩
                · have he := ok_f he hb
                  have he := ok_rq he
                  refine And.intro he.1 ?_
                  have he := he.2
                  have he := ok_some he
                  exact ⟨(i3 + (1:Int)), he, (leads_ren [] (l := [(1, .c (.ptr 10002000 0)), (5, .c (.int .i64 (i3 + (1:Int))))]) (st' := [(10002000, .rc [.imm (.int .i64) (a0_0, a0_1).1, .imm (.pair (.int .i64) (.pair (.sl (.int .i64)) (.pair (.sl (.int .i64)) (.pair (.int .i64) (.sl (.sl (.int .i64))))))) (a0_0, a0_1).2])]) rfl rfl ⟨⟨.inl rfl, .inl rfl, trivial⟩, trivial⟩ ⟨⟨⟨rfl, rfl⟩, rfl⟩, rfl, trivial⟩)⟩
            · have he := ok_f he hb
              have he := ok_some he
              exact ⟨rfl, _, _, (leads_ren [] (l := [(2, .c (.bool true))]) (st' := []) rfl rfl trivial ⟨.inr rfl, trivial⟩), he⟩
        · have he := ok_t he hb
          have he := ok_some he
          exact ⟨rfl, _, _, (leads_ren [] (l := [(2, .c (.bool false))]) (st' := []) rfl rfl trivial ⟨.inr rfl, trivial⟩), he⟩
      · have he := ok_t he hb
        have he := ok_some he
        exact ⟨rfl, _, _, (leads_ren [] (l := [(2, .c (.bool false))]) (st' := []) rfl rfl trivial ⟨.inr rfl, trivial⟩), he⟩
    · have he := ok_t he hb
      have he := ok_some he
      exact ⟨rfl, _, _, (leads_ren [] (l := [(2, .c (.bool false))]) (st' := []) rfl rfl trivial ⟨.inr rfl, trivial⟩), he⟩
  · skip
    refine loop_model mixed tys_ok t_spec_ModelValid (S := Int × Int) (I := (fun (i, i1) => (envOf [(1, .c (.ptr 10000000 0)), (3, .c (.int .i64 i)), (4, .c (.int .i64 i1))], [(10000000, .rc [.imm (.int .i64) (a0_0, a0_1).1, .imm (.pair (.int .i64) (.pair (.sl (.int .i64)) (.pair (.sl (.int .i64)) (.pair (.int .i64) (.sl (.sl (.int .i64))))))) (a0_0, a0_1).2])]))) (f := spec_ModelValid_l2 (a0_0, a0_1)) (K := (fun r => k (.c (.bool r)) [])) he (leads_ren [(10000000, 1)] (l := [(1, .c (.ptr 10000000 0)), (3, .c (.int .i64 (0:Int))), (4, .c (.int .i64 (0:Int)))]) (st' := [(10000000, .rc [.imm (.int .i64) (a0_0, a0_1).1, .imm (.pair (.int .i64) (.pair (.sl (.int .i64)) (.pair (.sl (.int .i64)) (.pair (.int .i64) (.sl (.sl (.int .i64))))))) (a0_0, a0_1).2])]) rfl rfl ⟨⟨.inl rfl, .inl rfl, trivial⟩, trivial⟩ ⟨⟨⟨rfl, rfl⟩, rfl⟩, rfl, rfl, trivial⟩) ?_
    rintro ⟨i, i1⟩ J1 he
    refine And.intro (fun hb => ?_) (fun hb => ?_)
    · have he := ok_t he hb
      refine And.intro (fun hb => ?_) (fun hb => ?_)
      · have he := ok_t he hb
        have he := ok_rq he
        refine And.intro he.1 ?_
        have he := he.2
        refine And.intro (fun hb => ?_) (fun hb => ?_)
        · have he := ok_f he hb
          have he := ok_rq he
          refine And.intro he.1 ?_
          have he := he.2
          refine And.intro (fun hb => ?_) (fun hb => ?_)
          · have he := ok_t he hb
            have he := ok_some he
            exact ⟨rfl, _, _, (leads_ren [] (l := [(2, .c (.bool false))]) (st' := []) rfl rfl trivial ⟨.inr rfl, trivial⟩), he⟩
          · have he := ok_f he hb
            have he := ok_rq he
            refine And.intro he.1 ?_
            have he := he.2
            have he := ok_rq he
            refine And.intro he.1 ?_
            have he := he.2
            have he := ok_rq he
            refine And.intro he.1 ?_
            have he := he.2
            have he := ok_rq he
            refine And.intro he.1 ?_
            have he := he.2
            have he := ok_some he
            exact ⟨(((i + ((a0_0, a0_1).1.getD i1.toNat 0)) + (1:Int)), (i1 + (1:Int))), he, (leads_ren [] (l := [(1, .c (.ptr 10000000 0)), (3, .c (.int .i64 ((i + ((a0_0, a0_1).1.getD i1.toNat 0)) + (1:Int)))), (4, .c (.int .i64 (i1 + (1:Int))))]) (st' := [(10000000, .rc [.imm (.int .i64) (a0_0, a0_1).1, .imm (.pair (.int .i64) (.pair (.sl (.int .i64)) (.pair (.sl (.int .i64)) (.pair (.int .i64) (.sl (.sl (.int .i64))))))) (a0_0, a0_1).2])]) rfl rfl ⟨⟨.inl rfl, .inl rfl, trivial⟩, trivial⟩ ⟨⟨⟨rfl, rfl⟩, rfl⟩, rfl, rfl, trivial⟩)⟩
        · have he := ok_t he hb
          have he := ok_some he
          exact ⟨rfl, _, _, (leads_ren [] (l := [(2, .c (.bool false))]) (st' := []) rfl rfl trivial ⟨.inr rfl, trivial⟩), he⟩
      · have he := ok_f he hb
        exact ⟨i, ok_up he, (leads_ren [(10001000, 10000000)] (l := [(1, .c (.ptr 10001000 0)), (3, .c (.int .i64 i))]) (st' := [(10001000, .rc [.imm (.int .i64) (a0_0, a0_1).1, .imm (.pair (.int .i64) (.pair (.sl (.int .i64)) (.pair (.sl (.int .i64)) (.pair (.int .i64) (.sl (.sl (.int .i64))))))) (a0_0, a0_1).2])]) rfl rfl ⟨⟨.inl rfl, .inl rfl, trivial⟩, trivial⟩ ⟨⟨⟨rfl, rfl⟩, rfl⟩, rfl, trivial⟩)⟩
    · have he := ok_f he hb
      exact ⟨i, ok_up he, (leads_ren [(10001000, 10000000)] (l := [(1, .c (.ptr 10001000 0)), (3, .c (.int .i64 i))]) (st' := [(10001000, .rc [.imm (.int .i64) (a0_0, a0_1).1, .imm (.pair (.int .i64) (.pair (.sl (.int .i64)) (.pair (.sl (.int .i64)) (.pair (.int .i64) (.sl (.sl (.int .i64))))))) (a0_0, a0_1).2])]) rfl rfl ⟨⟨.inl rfl, .inl rfl, trivial⟩, trivial⟩ ⟨⟨⟨rfl, rfl⟩, rfl⟩, rfl, trivial⟩)⟩

noncomputable def c_spec_l8Make : Con := fun args st => match args, st with
  | [.agg [.imm (.int .i64) m_0, .imm (.pair (.int .i64) (.pair (.sl (.int .i64)) (.pair (.sl (.int .i64)) (.pair (.int .i64) (.sl (.sl (.int .i64))))))) m_1], .c (.bool b)], [] => .opt ((List (List Bool))) (spec_l8Make (m_0, m_1) b) (fun r => .ret (.c (.own 900 false)) [(900, .sl 37 (.sl .bool) r (.deep true .no))])
  | _, _ => .fail

noncomputable def C_spec_l8Make : Cfg := { y := tys, n := 36, h := 0, tab := [], cut := [10], hand := [], good := [], deep := [9, 33], sched := [] }

theorem t_spec_l8Make : TabOk Try.prog C_spec_l8Make := tabOk_of (fun p h => by cases h)

theorem k_spec_l8Make : Entry Try.prog 267 c_spec_l8Make := by
  refine entry_by (C := C_spec_l8Make) mixed tys_ok t_spec_l8Make (fn := Try.f267) (c := bd Try.f267) (by kernel_rfl) (by kernel_rfl) (by kernel_rfl) (by kernel_rfl) ?_
  intro args st k he
  unfold c_spec_l8Make at he
  split at he
  rotate_left
  · exact he.elim
  rename_i m_0 m_1 b
  have he : Ok (spec_l8Make (m_0, m_1) b) (fun r => k (.c (.own 900 false)) [(900, .sl 37 (.sl .bool) r (.deep true .no))]) := he
  refine ⟨rfl, rfl, ?_⟩
  refine loop_model mixed tys_ok t_spec_l8Make (S := Int × (List (List Bool))) (I := (fun (i, out) => (envOf [(1, .c (.bool b)), (2, .c (.ptr 10000000 0)), (5, .c (.own 10000001 false)), (6, .c (.int .i64 i))], [(10000000, .rc [.imm (.int .i64) (m_0, m_1).1, .imm (.pair (.int .i64) (.pair (.sl (.int .i64)) (.pair (.sl (.int .i64)) (.pair (.int .i64) (.sl (.sl (.int .i64))))))) (m_0, m_1).2]), (10000001, .sl 37 (.sl .bool) out (.deep true .no))]))) (f := spec_l8Make_l1 (m_0, m_1) b) (K := (fun r => k (.c (.own 900 false)) [(900, .sl 37 (.sl .bool) r (.deep true .no))])) he (leads_ren [(10000000, 2), (10000001, 9)] (l := [(1, .c (.bool b)), (2, .c (.ptr 10000000 0)), (5, .c (.own 10000001 false)), (6, .c (.int .i64 (0:Int)))]) (st' := [(10000000, .rc [.imm (.int .i64) (m_0, m_1).1, .imm (.pair (.int .i64) (.pair (.sl (.int .i64)) (.pair (.sl (.int .i64)) (.pair (.int .i64) (.sl (.sl (.int .i64))))))) (m_0, m_1).2]), (10000001, .sl 37 (.sl .bool) ([] : List (List Bool)) (.deep true .no))]) rfl rfl ⟨⟨.inl rfl, .inl rfl, trivial⟩, ⟨rfl, rfl⟩, trivial⟩ ⟨.inl rfl, ⟨⟨rfl, rfl⟩, rfl⟩, ⟨⟨rfl, rfl⟩, trivial⟩, rfl, trivial⟩) ?_
  rintro ⟨i, out⟩ J1 he
  refine And.intro (fun hb => ?_) (fun hb => ?_)
  · have he := ok_t he hb
    refine seq_model mixed tys_ok t_spec_l8Make (S := (List Bool)) (I := (fun row3 => (envOf [(1, .c (.bool b)), (2, .c (.ptr 10004000 0)), (5, .c (.own 10004001 false)), (6, .c (.int .i64 i)), (7, .c (.own 10004002 false))], [(10004000, .rc [.imm (.int .i64) (m_0, m_1).1, .imm (.pair (.int .i64) (.pair (.sl (.int .i64)) (.pair (.sl (.int .i64)) (.pair (.int .i64) (.sl (.sl (.int .i64))))))) (m_0, m_1).2]), (10004001, .sl 37 (.sl .bool) out (.deep true .no)), (10004002, .sl 4 .bool row3 .shallow)]))) (B := fun s => Ok (spec_l8Make_j1 i out s) (LK J1 (fun r => k (.c (.own 900 false)) [(900, .sl 37 (.sl .bool) r (.deep true .no))]))) ?_ ?_
    · rintro row3 he
      have he := ok_rq he
      refine And.intro he.1 ?_
      have he := he.2
      have he := ok_rq he
      refine And.intro he.1 ?_
      have he := he.2
      have he := ok_some he
      exact ⟨((i + (1:Int)), (out ++ [row3])), he, (leads_ren [(10000000, 10004000), (10000001, 34)] (l := [(1, .c (.bool b)), (2, .c (.ptr 10000000 0)), (5, .c (.own 10000001 false)), (6, .c (.int .i64 (i + (1:Int))))]) (st' := [(10000000, .rc [.imm (.int .i64) (m_0, m_1).1, .imm (.pair (.int .i64) (.pair (.sl (.int .i64)) (.pair (.sl (.int .i64)) (.pair (.int .i64) (.sl (.sl (.int .i64))))))) (m_0, m_1).2]), (10000001, .sl 37 (.sl .bool) (out ++ [row3]) (.deep true .no))]) rfl rfl ⟨⟨.inl rfl, .inl rfl, trivial⟩, ⟨rfl, rfl⟩, trivial⟩ ⟨.inl rfl, ⟨⟨rfl, rfl⟩, rfl⟩, ⟨⟨rfl, rfl⟩, trivial⟩, rfl, trivial⟩)⟩
    · skip
      refine loop_model mixed tys_ok t_spec_l8Make (S := Int × (List Bool)) (I := (fun (k_1, row2) => (envOf [(1, .c (.bool b)), (2, .c (.ptr 10003000 0)), (5, .c (.own 10003001 false)), (6, .c (.int .i64 i)), (7, .c (.own 10003002 false)), (8, .c (.int .i64 k_1))], [(10003000, .rc [.imm (.int .i64) (m_0, m_1).1, .imm (.pair (.int .i64) (.pair (.sl (.int .i64)) (.pair (.sl (.int .i64)) (.pair (.int .i64) (.sl (.sl (.int .i64))))))) (m_0, m_1).2]), (10003001, .sl 37 (.sl .bool) out (.deep true .no)), (10003002, .sl 4 .bool row2 .shallow)]))) (f := spec_l8Make_l2 (m_0, m_1) b i out) (K := (LK J1 (fun r => k (.c (.own 900 false)) [(900, .sl 37 (.sl .bool) r (.deep true .no))]))) he (leads_ren [(10003000, 10000000), (10003001, 10000001), (10003002, 17)] (l := [(1, .c (.bool b)), (2, .c (.ptr 10003000 0)), (5, .c (.own 10003001 false)), (6, .c (.int .i64 i)), (7, .c (.own 10003002 false)), (8, .c (.int .i64 (0:Int)))]) (st' := [(10003000, .rc [.imm (.int .i64) (m_0, m_1).1, .imm (.pair (.int .i64) (.pair (.sl (.int .i64)) (.pair (.sl (.int .i64)) (.pair (.int .i64) (.sl (.sl (.int .i64))))))) (m_0, m_1).2]), (10003001, .sl 37 (.sl .bool) out (.deep true .no)), (10003002, .sl 4 .bool ([] : List Bool) .shallow)]) rfl rfl ⟨⟨.inl rfl, .inl rfl, trivial⟩, ⟨rfl, rfl⟩, ⟨rfl, rfl⟩, trivial⟩ ⟨.inl rfl, ⟨⟨rfl, rfl⟩, rfl⟩, ⟨⟨rfl, rfl⟩, trivial⟩, rfl, ⟨⟨rfl, rfl⟩, trivial⟩, rfl, trivial⟩) ?_
      rintro ⟨k_1, row2⟩ J2 he
      have he := ok_rq he
      refine And.intro he.1 ?_
      have he := he.2
      refine And.intro (fun hb => ?_) (fun hb => ?_)
      · have he := ok_t he hb
        have he := ok_rq he
        refine And.intro he.1 ?_
        have he := he.2
        have he := ok_rq he
        refine And.intro he.1 ?_
        have he := he.2
        have he := ok_some he
        exact ⟨((k_1 + (1:Int)), (row2 ++ [b])), he, (leads_ren [(10003002, 30)] (l := [(1, .c (.bool b)), (2, .c (.ptr 10003000 0)), (5, .c (.own 10003001 false)), (6, .c (.int .i64 i)), (7, .c (.own 10003002 false)), (8, .c (.int .i64 (k_1 + (1:Int))))]) (st' := [(10003000, .rc [.imm (.int .i64) (m_0, m_1).1, .imm (.pair (.int .i64) (.pair (.sl (.int .i64)) (.pair (.sl (.int .i64)) (.pair (.int .i64) (.sl (.sl (.int .i64))))))) (m_0, m_1).2]), (10003001, .sl 37 (.sl .bool) out (.deep true .no)), (10003002, .sl 4 .bool (row2 ++ [b]) .shallow)]) rfl rfl ⟨⟨.inl rfl, .inl rfl, trivial⟩, ⟨rfl, rfl⟩, ⟨rfl, rfl⟩, trivial⟩ ⟨.inl rfl, ⟨⟨rfl, rfl⟩, rfl⟩, ⟨⟨rfl, rfl⟩, trivial⟩, rfl, ⟨⟨rfl, rfl⟩, trivial⟩, rfl, trivial⟩)⟩
      · have he := ok_f he hb
        exact ⟨row2, ok_up he, (leads_ren [(10004000, 10003000), (10004001, 10003001), (10004002, 10003002)] (l := [(1, .c (.bool b)), (2, .c (.ptr 10004000 0)), (5, .c (.own 10004001 false)), (6, .c (.int .i64 i)), (7, .c (.own 10004002 false))]) (st' := [(10004000, .rc [.imm (.int .i64) (m_0, m_1).1, .imm (.pair (.int .i64) (.pair (.sl (.int .i64)) (.pair (.sl (.int .i64)) (.pair (.int .i64) (.sl (.sl (.int .i64))))))) (m_0, m_1).2]), (10004001, .sl 37 (.sl .bool) out (.deep true .no)), (10004002, .sl 4 .bool row2 .shallow)]) rfl rfl ⟨⟨.inl rfl, .inl rfl, trivial⟩, ⟨rfl, rfl⟩, ⟨rfl, rfl⟩, trivial⟩ ⟨.inl rfl, ⟨⟨rfl, rfl⟩, rfl⟩, ⟨⟨rfl, rfl⟩, trivial⟩, rfl, ⟨⟨rfl, rfl⟩, trivial⟩, trivial⟩)⟩
  · have he := ok_f he hb
    have he := ok_some he
    exact ⟨rfl, _, _, (leads_ren [(900, 10000001)] (l := [(4, .c (.own 900 false))]) (st' := [(900, .sl 37 (.sl .bool) out (.deep true .no))]) rfl rfl ⟨⟨rfl, rfl⟩, trivial⟩ ⟨⟨⟨rfl, rfl⟩, trivial⟩, trivial⟩), he⟩

noncomputable def c_spec_FullDomains : Con := fun args st => match args, st with
  | [.agg [.imm (.int .i64) m_0, .imm (.pair (.int .i64) (.pair (.sl (.int .i64)) (.pair (.sl (.int .i64)) (.pair (.int .i64) (.sl (.sl (.int .i64))))))) m_1]], [] => .opt ((List (List Bool))) (spec_FullDomains (m_0, m_1)) (fun r => .ret (.c (.own 900 false)) [(900, .sl 37 (.sl .bool) r (.deep true .no))])
  | _, _ => .fail

noncomputable def C_spec_FullDomains : Cfg := { y := tys, n := 9, h := 0, tab := [(196, c_spec_ModelValid), (267, c_spec_l8Make)], cut := [], hand := [], good := [], deep := [6], sched := [] }

theorem t_spec_FullDomains : TabOk Try.prog C_spec_FullDomains := by
  refine tabOk_of ?_
  simp only [C_spec_FullDomains, List.forall_mem_cons]
  exact ⟨k_spec_ModelValid, k_spec_l8Make, fun p h => by cases h⟩

theorem k_spec_FullDomains : Entry Try.prog 227 c_spec_FullDomains := by
  refine entry_by (C := C_spec_FullDomains) mixed tys_ok t_spec_FullDomains (fn := Try.f227) (c := bd Try.f227) (by kernel_rfl) (by kernel_rfl) (by kernel_rfl) (by kernel_rfl) ?_
  intro args st k he
  unfold c_spec_FullDomains at he
  split at he
  rotate_left
  · exact he.elim
  rename_i m_0 m_1
  have he : Ok (spec_FullDomains (m_0, m_1)) (fun r => k (.c (.own 900 false)) [(900, .sl 37 (.sl .bool) r (.deep true .no))]) := he
  refine ⟨rfl, rfl, ?_⟩
  obtain ⟨r1_, hr, he⟩ := ok_bind he
  refine ⟨r1_, hr, ?_⟩
  refine And.intro (fun hb => ?_) (fun hb => ?_)
  · have he := ok_t he hb
    have he := ok_some he
    exact ⟨rfl, _, _, (leads_ren [(900, 6)] (l := [(2, .c (.own 900 false))]) (st' := [(900, .sl 37 (.sl .bool) ([] : List (List Bool)) (.deep true .no))]) rfl rfl ⟨⟨rfl, rfl⟩, trivial⟩ ⟨⟨⟨rfl, rfl⟩, trivial⟩, trivial⟩), he⟩
  · have he := ok_f he hb
    obtain ⟨r2_, hr, he⟩ := ok_bind he
    refine ⟨r2_, hr, ?_⟩
    have he := ok_some he
    exact ⟨rfl, _, _, (leads_ren [(900, 9900)] (l := [(2, .c (.own 900 false))]) (st' := [(900, .sl 37 (.sl .bool) r2_ (.deep true .no))]) rfl rfl ⟨⟨rfl, rfl⟩, trivial⟩ ⟨⟨⟨rfl, rfl⟩, trivial⟩, trivial⟩), he⟩

noncomputable def c_spec_l9Draw__rsd : Con := fun args st => match args, st with
  | [.c (.ptr 0 0), .agg [.own 1 false, .own 2 false]], [(0, .rc [.imm (.int .u8) r__0, .int .i64 r__1]), (1, .sl 3 (.int .i64) o1 .shallow), (2, .sl 124 (.pair (.int .i64) (.pair (.sl (.int .i64)) (.pair (.sl (.int .i64)) (.pair (.int .i64) (.sl (.sl (.int .i64))))))) o2 (.deep true .no))] => .opt (((List Int) × Int) × (List Int)) (spec_l9Draw__rsd (r__0, r__1) o1 o2) (fun r => .ret (.c (.own 900 false)) [(0, .rc [.imm (.int .u8) r.1.1, .int .i64 r.1.2]), (1, .sl 3 (.int .i64) o1 .shallow), (2, .sl 124 (.pair (.int .i64) (.pair (.sl (.int .i64)) (.pair (.sl (.int .i64)) (.pair (.int .i64) (.sl (.sl (.int .i64))))))) o2 (.deep true .no)), (900, .sl 3 (.int .i64) r.2 .shallow)])
  | _, _ => .fail

noncomputable def C_spec_l9Draw__rsd : Cfg := { y := tys, n := 39, h := 3, tab := [(99, c_spec_l17Rd_num), (166, c_spec_l17Rd_pick)], cut := [6], hand := [], good := [], deep := [], sched := [] }

theorem t_spec_l9Draw__rsd : TabOk Try.prog C_spec_l9Draw__rsd := by
  refine tabOk_of ?_
  simp only [C_spec_l9Draw__rsd, List.forall_mem_cons]
  exact ⟨k_spec_l17Rd_num, k_spec_l17Rd_pick, fun p h => by cases h⟩

theorem k_spec_l9Draw__rsd : Entry Try.prog 97 c_spec_l9Draw__rsd := by
  refine entry_by (C := C_spec_l9Draw__rsd) mixed tys_ok t_spec_l9Draw__rsd (fn := Try.f97) (c := bd Try.f97) (by kernel_rfl) (by kernel_rfl) (by kernel_rfl) (by kernel_rfl) ?_
  intro args st k he
  unfold c_spec_l9Draw__rsd at he
  split at he
  rotate_left
  · exact he.elim
  rename_i r__0 r__1 o1 o2
  have he : Ok (spec_l9Draw__rsd (r__0, r__1) o1 o2) (fun r => k (.c (.own 900 false)) [(0, .rc [.imm (.int .u8) r.1.1, .int .i64 r.1.2]), (1, .sl 3 (.int .i64) o1 .shallow), (2, .sl 124 (.pair (.int .i64) (.pair (.sl (.int .i64)) (.pair (.sl (.int .i64)) (.pair (.int .i64) (.sl (.sl (.int .i64))))))) o2 (.deep true .no)), (900, .sl 3 (.int .i64) r.2 .shallow)]) := he
  refine ⟨rfl, rfl, ?_⟩
  refine seq_model mixed tys_ok t_spec_l9Draw__rsd (S := ((List Int) × Int) × (List Int)) (I := (fun (r_2, out1) => (envOf [(0, .c (.ptr 0 0)), (5, .c (.own 10001000 false))], [(0, .rc [.imm (.int .u8) r_2.1, .int .i64 r_2.2]), (1, .sl 3 (.int .i64) o1 .shallow), (2, .sl 124 (.pair (.int .i64) (.pair (.sl (.int .i64)) (.pair (.sl (.int .i64)) (.pair (.int .i64) (.sl (.sl (.int .i64))))))) o2 (.deep true .no)), (10001000, .sl 3 (.int .i64) out1 .shallow)]))) (B := fun s => Ok (spec_l9Draw__rsd_j1 s) (fun r => k (.c (.own 900 false)) [(0, .rc [.imm (.int .u8) r.1.1, .int .i64 r.1.2]), (1, .sl 3 (.int .i64) o1 .shallow), (2, .sl 124 (.pair (.int .i64) (.pair (.sl (.int .i64)) (.pair (.sl (.int .i64)) (.pair (.int .i64) (.sl (.sl (.int .i64))))))) o2 (.deep true .no)), (900, .sl 3 (.int .i64) r.2 .shallow)])) ?_ ?_
  · rintro ⟨r_2, out1⟩ he
    obtain ⟨r3_, hr, he⟩ := ok_bind he
    refine ⟨r3_, hr, ?_⟩
    refine And.intro (fun hb => ?_) (fun hb => ?_)
    · have he := ok_t he hb
      refine And.intro (fun hb => ?_) (fun hb => ?_)
      · have he := ok_t he hb
        obtain ⟨r4_, hr, he⟩ := ok_bind he
        refine ⟨r4_, hr, ?_⟩
        have he := ok_rq he
        refine And.intro he.1 ?_
        have he := he.2
        have he := ok_some he
        exact ⟨rfl, _, _, (leads_ren [(900, 10001000)] (l := [(4, .c (.own 900 false))]) (st' := [(0, .rc [.imm (.int .u8) r4_.2.1, .int .i64 r4_.2.2]), (1, .sl 3 (.int .i64) o1 .shallow), (2, .sl 124 (.pair (.int .i64) (.pair (.sl (.int .i64)) (.pair (.sl (.int .i64)) (.pair (.int .i64) (.sl (.sl (.int .i64))))))) o2 (.deep true .no)), (900, .sl 3 (.int .i64) (out1.set (0:Int).toNat r4_.1) .shallow)]) rfl rfl ⟨⟨.inl rfl, rfl, trivial⟩, ⟨rfl, rfl⟩, ⟨rfl, rfl⟩, ⟨rfl, rfl⟩, trivial⟩ ⟨⟨⟨rfl, rfl⟩, trivial⟩, trivial⟩), he⟩
      · have he := ok_f he hb
        have he := ok_some he
        exact ⟨rfl, _, _, (leads_ren [(900, 10001000)] (l := [(4, .c (.own 900 false))]) (st' := [(0, .rc [.imm (.int .u8) r3_.2.1, .int .i64 r3_.2.2]), (1, .sl 3 (.int .i64) o1 .shallow), (2, .sl 124 (.pair (.int .i64) (.pair (.sl (.int .i64)) (.pair (.sl (.int .i64)) (.pair (.int .i64) (.sl (.sl (.int .i64))))))) o2 (.deep true .no)), (900, .sl 3 (.int .i64) out1 .shallow)]) rfl rfl ⟨⟨.inl rfl, rfl, trivial⟩, ⟨rfl, rfl⟩, ⟨rfl, rfl⟩, ⟨rfl, rfl⟩, trivial⟩ ⟨⟨⟨rfl, rfl⟩, trivial⟩, trivial⟩), he⟩
    · have he := ok_f he hb
      refine And.intro (fun hb => ?_) (fun hb => ?_)
      · have he := ok_t he hb
        have he := ok_rq he
        refine And.intro he.1 ?_
        have he := he.2
        have he := ok_some he
        exact ⟨rfl, _, _, (leads_ren [(900, 37)] (l := [(4, .c (.own 900 false))]) (st' := [(0, .rc [.imm (.int .u8) r3_.2.1, .int .i64 r3_.2.2]), (1, .sl 3 (.int .i64) o1 .shallow), (2, .sl 124 (.pair (.int .i64) (.pair (.sl (.int .i64)) (.pair (.sl (.int .i64)) (.pair (.int .i64) (.sl (.sl (.int .i64))))))) o2 (.deep true .no)), (900, .sl 3 (.int .i64) (out1 ++ [(1:Int)]) .shallow)]) rfl rfl ⟨⟨.inl rfl, rfl, trivial⟩, ⟨rfl, rfl⟩, ⟨rfl, rfl⟩, ⟨rfl, rfl⟩, trivial⟩ ⟨⟨⟨rfl, rfl⟩, trivial⟩, trivial⟩), he⟩
      · have he := ok_f he hb
        have he := ok_some he
        exact ⟨rfl, _, _, (leads_ren [(900, 10001000)] (l := [(4, .c (.own 900 false))]) (st' := [(0, .rc [.imm (.int .u8) r3_.2.1, .int .i64 r3_.2.2]), (1, .sl 3 (.int .i64) o1 .shallow), (2, .sl 124 (.pair (.int .i64) (.pair (.sl (.int .i64)) (.pair (.sl (.int .i64)) (.pair (.int .i64) (.sl (.sl (.int .i64))))))) o2 (.deep true .no)), (900, .sl 3 (.int .i64) out1 .shallow)]) rfl rfl ⟨⟨.inl rfl, rfl, trivial⟩, ⟨rfl, rfl⟩, ⟨rfl, rfl⟩, ⟨rfl, rfl⟩, trivial⟩ ⟨⟨⟨rfl, rfl⟩, trivial⟩, trivial⟩), he⟩
  · skip
    refine loop_model mixed tys_ok t_spec_l9Draw__rsd (S := Int × ((List Int) × Int) × (List Int)) (I := (fun (i, r_1, out) => (envOf [(0, .c (.ptr 0 0)), (3, .c (.ptr 10000000 0)), (5, .c (.own 10000001 false)), (6, .c (.int .i64 i))], [(0, .rc [.imm (.int .u8) r_1.1, .int .i64 r_1.2]), (1, .sl 3 (.int .i64) o1 .shallow), (2, .sl 124 (.pair (.int .i64) (.pair (.sl (.int .i64)) (.pair (.sl (.int .i64)) (.pair (.int .i64) (.sl (.sl (.int .i64))))))) o2 (.deep true .no)), (10000000, .rc [.own 1 false, .own 2 false]), (10000001, .sl 3 (.int .i64) out .shallow)]))) (f := spec_l9Draw__rsd_l1 o1) (K := (fun r => k (.c (.own 900 false)) [(0, .rc [.imm (.int .u8) r.1.1, .int .i64 r.1.2]), (1, .sl 3 (.int .i64) o1 .shallow), (2, .sl 124 (.pair (.int .i64) (.pair (.sl (.int .i64)) (.pair (.sl (.int .i64)) (.pair (.int .i64) (.sl (.sl (.int .i64))))))) o2 (.deep true .no)), (900, .sl 3 (.int .i64) r.2 .shallow)])) he (leads_ren [(10000000, 3), (10000001, 7)] (l := [(0, .c (.ptr 0 0)), (3, .c (.ptr 10000000 0)), (5, .c (.own 10000001 false)), (6, .c (.int .i64 (0:Int)))]) (st' := [(0, .rc [.imm (.int .u8) (r__0, r__1).1, .int .i64 (r__0, r__1).2]), (1, .sl 3 (.int .i64) o1 .shallow), (2, .sl 124 (.pair (.int .i64) (.pair (.sl (.int .i64)) (.pair (.sl (.int .i64)) (.pair (.int .i64) (.sl (.sl (.int .i64))))))) o2 (.deep true .no)), (10000000, .rc [.own 1 false, .own 2 false]), (10000001, .sl 3 (.int .i64) ([] : List Int) .shallow)]) rfl rfl ⟨⟨.inl rfl, rfl, trivial⟩, ⟨rfl, rfl⟩, ⟨rfl, rfl⟩, ⟨⟨⟨rfl, rfl⟩, trivial⟩, ⟨⟨rfl, rfl⟩, trivial⟩, trivial⟩, ⟨rfl, rfl⟩, trivial⟩ ⟨⟨⟨rfl, rfl⟩, rfl⟩, ⟨⟨rfl, rfl⟩, rfl⟩, ⟨⟨rfl, rfl⟩, trivial⟩, rfl, trivial⟩) ?_
    rintro ⟨i, r_1, out⟩ J1 he
    refine And.intro (fun hb => ?_) (fun hb => ?_)
    · have he := ok_t he hb
      obtain ⟨r2_, hr, he⟩ := ok_bind he
      refine ⟨r2_, hr, ?_⟩
      have he := ok_rq he
      refine And.intro he.1 ?_
      have he := he.2
      have he := ok_rq he
      refine And.intro he.1 ?_
      have he := he.2
      have he := ok_some he
      exact ⟨((i + (1:Int)), r2_.2, (out ++ [r2_.1])), he, (leads_ren [(10000001, 20)] (l := [(0, .c (.ptr 0 0)), (3, .c (.ptr 10000000 0)), (5, .c (.own 10000001 false)), (6, .c (.int .i64 (i + (1:Int))))]) (st' := [(0, .rc [.imm (.int .u8) r2_.2.1, .int .i64 r2_.2.2]), (1, .sl 3 (.int .i64) o1 .shallow), (2, .sl 124 (.pair (.int .i64) (.pair (.sl (.int .i64)) (.pair (.sl (.int .i64)) (.pair (.int .i64) (.sl (.sl (.int .i64))))))) o2 (.deep true .no)), (10000000, .rc [.own 1 false, .own 2 false]), (10000001, .sl 3 (.int .i64) (out ++ [r2_.1]) .shallow)]) rfl rfl ⟨⟨.inl rfl, rfl, trivial⟩, ⟨rfl, rfl⟩, ⟨rfl, rfl⟩, ⟨⟨⟨rfl, rfl⟩, trivial⟩, ⟨⟨rfl, rfl⟩, trivial⟩, trivial⟩, ⟨rfl, rfl⟩, trivial⟩ ⟨⟨⟨rfl, rfl⟩, rfl⟩, ⟨⟨rfl, rfl⟩, rfl⟩, ⟨⟨rfl, rfl⟩, trivial⟩, rfl, trivial⟩)⟩
    · have he := ok_f he hb
      exact ⟨(r_1, out), ok_up he, (leads_ren [(10001000, 10000001)] (l := [(0, .c (.ptr 0 0)), (5, .c (.own 10001000 false))]) (st' := [(0, .rc [.imm (.int .u8) r_1.1, .int .i64 r_1.2]), (1, .sl 3 (.int .i64) o1 .shallow), (2, .sl 124 (.pair (.int .i64) (.pair (.sl (.int .i64)) (.pair (.sl (.int .i64)) (.pair (.int .i64) (.sl (.sl (.int .i64))))))) o2 (.deep true .no)), (10001000, .sl 3 (.int .i64) out .shallow)]) rfl rfl ⟨⟨.inl rfl, rfl, trivial⟩, ⟨rfl, rfl⟩, ⟨rfl, rfl⟩, ⟨rfl, rfl⟩, trivial⟩ ⟨⟨⟨rfl, rfl⟩, rfl⟩, ⟨⟨rfl, rfl⟩, trivial⟩, trivial⟩)⟩

noncomputable def c_spec_l8Draw__rsd : Con := fun args st => match args, st with
  | [.c (.ptr 0 0), .agg [.own 1 false, .own 2 false]], [(0, .rc [.imm (.int .u8) r__0, .int .i64 r__1]), (1, .sl 3 (.int .i64) o1 .shallow), (2, .sl 124 (.pair (.int .i64) (.pair (.sl (.int .i64)) (.pair (.sl (.int .i64)) (.pair (.int .i64) (.sl (.sl (.int .i64))))))) o2 (.deep true .no))] => .opt ((List (List Bool)) × ((List Int) × Int)) (spec_l8Draw__rsd (r__0, r__1) o1 o2) (fun r => .ret (.c (.imm (.sl .bool) r.1)) [(0, .rc [.imm (.int .u8) r.2.1, .int .i64 r.2.2]), (1, .sl 3 (.int .i64) o1 .shallow), (2, .sl 124 (.pair (.int .i64) (.pair (.sl (.int .i64)) (.pair (.sl (.int .i64)) (.pair (.int .i64) (.sl (.sl (.int .i64))))))) o2 (.deep true .no))])
  | _, _ => .fail

noncomputable def C_spec_l8Draw__rsd : Cfg := { y := tys, n := 63, h := 3, tab := [(166, c_spec_l17Rd_pick), (227, c_spec_FullDomains)], cut := [9, 11], hand := [], good := [], deep := [], sched := [(8, (.first 0 (.first 1 (.first 2 (.first 4 (.first 5 (.alt 3 (.alt 6 (.first 7 (.first 8 (.alt 9 .done .stop))) .stop) (.alt 6 (.first 7 (.alt 3 (.first 8 (.alt 9 .done .stop)) .stop)) .stop))))))))], frz := [61] }

theorem t_spec_l8Draw__rsd : TabOk Try.prog C_spec_l8Draw__rsd := by
  refine tabOk_of ?_
  simp only [C_spec_l8Draw__rsd, List.forall_mem_cons]
  exact ⟨k_spec_l17Rd_pick, k_spec_FullDomains, fun p h => by cases h⟩

theorem k_spec_l8Draw__rsd : Entry Try.prog 155 c_spec_l8Draw__rsd := by
  refine entry_by (C := C_spec_l8Draw__rsd) mixed tys_ok t_spec_l8Draw__rsd (fn := Try.f155) (c := bd Try.f155) (by kernel_rfl) (by kernel_rfl) (by kernel_rfl) (by kernel_rfl) ?_
  intro args st k he
  unfold c_spec_l8Draw__rsd at he
  split at he
  rotate_left
  · exact he.elim
  rename_i r__0 r__1 o1 o2
  have he : Ok (spec_l8Draw__rsd (r__0, r__1) o1 o2) (fun r => k (.c (.imm (.sl .bool) r.1)) [(0, .rc [.imm (.int .u8) r.2.1, .int .i64 r.2.2]), (1, .sl 3 (.int .i64) o1 .shallow), (2, .sl 124 (.pair (.int .i64) (.pair (.sl (.int .i64)) (.pair (.sl (.int .i64)) (.pair (.int .i64) (.sl (.sl (.int .i64))))))) o2 (.deep true .no))]) := he
  refine ⟨rfl, rfl, ?_⟩
  obtain ⟨r1_, hr, he⟩ := ok_bind he
  refine ⟨r1_, hr, ?_⟩
  refine seq_model mixed tys_ok t_spec_l8Draw__rsd (S := ((List Int) × Int) × (List (List Bool))) (I := (fun (r_4, d3) => (envOf [(0, .c (.ptr 0 0)), (5, .c (.own 10003000 false))], [(0, .rc [.imm (.int .u8) r_4.1, .int .i64 r_4.2]), (1, .sl 3 (.int .i64) o1 .shallow), (2, .sl 124 (.pair (.int .i64) (.pair (.sl (.int .i64)) (.pair (.sl (.int .i64)) (.pair (.int .i64) (.sl (.sl (.int .i64))))))) o2 (.deep true .no)), (10003000, .sl 37 (.sl .bool) d3 (.deep true .no))]))) (B := fun s => Ok (spec_l8Draw__rsd_j1 s) (fun r => k (.c (.imm (.sl .bool) r.1)) [(0, .rc [.imm (.int .u8) r.2.1, .int .i64 r.2.2]), (1, .sl 3 (.int .i64) o1 .shallow), (2, .sl 124 (.pair (.int .i64) (.pair (.sl (.int .i64)) (.pair (.sl (.int .i64)) (.pair (.int .i64) (.sl (.sl (.int .i64))))))) o2 (.deep true .no))])) ?_ ?_
  · rintro ⟨r_4, d3⟩ he
    refine seq_model mixed tys_ok t_spec_l8Draw__rsd (S := ((List Int) × Int) × (List (List Bool))) (I := (fun (r_5, d4) => (envOf [(0, .c (.ptr 0 0)), (5, .c (.own 10004000 false))], [(0, .rc [.imm (.int .u8) r_5.1, .int .i64 r_5.2]), (1, .sl 3 (.int .i64) o1 .shallow), (2, .sl 124 (.pair (.int .i64) (.pair (.sl (.int .i64)) (.pair (.sl (.int .i64)) (.pair (.int .i64) (.sl (.sl (.int .i64))))))) o2 (.deep true .no)), (10004000, .sl 37 (.sl .bool) d4 (.deep true .no))]))) (B := fun s => Ok (spec_l8Draw__rsd_j2 s) (fun r => k (.c (.imm (.sl .bool) r.1)) [(0, .rc [.imm (.int .u8) r.2.1, .int .i64 r.2.2]), (1, .sl 3 (.int .i64) o1 .shallow), (2, .sl 124 (.pair (.int .i64) (.pair (.sl (.int .i64)) (.pair (.sl (.int .i64)) (.pair (.int .i64) (.sl (.sl (.int .i64))))))) o2 (.deep true .no))])) ?_ ?_
    · rintro ⟨r_5, d4⟩ he
      refine And.intro (fun hb => ?_) (fun hb => ?_)
      · have he := ok_t he hb
        obtain ⟨r8_, hr, he⟩ := ok_bind he
        refine ⟨r8_, hr, ?_⟩
        refine And.intro (fun hb => ?_) (fun hb => ?_)
        · have he := ok_t he hb
          have he := ok_rq he
          refine And.intro he.1 ?_
          have he := he.2
          have he := ok_rq he
          refine And.intro he.1 ?_
          have he := he.2
          have he := ok_some he
          exact ⟨rfl, _, _, (leads_ren [] (l := [(4, .c (.imm (.sl .bool) (d4.take ((d4.length:Int) - (1:Int)).toNat)))]) (st' := [(0, .rc [.imm (.int .u8) r8_.2.1, .int .i64 r8_.2.2]), (1, .sl 3 (.int .i64) o1 .shallow), (2, .sl 124 (.pair (.int .i64) (.pair (.sl (.int .i64)) (.pair (.sl (.int .i64)) (.pair (.int .i64) (.sl (.sl (.int .i64))))))) o2 (.deep true .no))]) rfl rfl ⟨⟨.inl rfl, rfl, trivial⟩, ⟨rfl, rfl⟩, ⟨rfl, rfl⟩, trivial⟩ ⟨.inl rfl, trivial⟩), he⟩
        · have he := ok_f he hb
          have he := ok_some he
          exact ⟨rfl, _, _, ((leads_freeze [10004000]).trans (leads_ren [] (l := [(4, .c (.imm (.sl .bool) d4))]) (st' := [(0, .rc [.imm (.int .u8) r8_.2.1, .int .i64 r8_.2.2]), (1, .sl 3 (.int .i64) o1 .shallow), (2, .sl 124 (.pair (.int .i64) (.pair (.sl (.int .i64)) (.pair (.sl (.int .i64)) (.pair (.int .i64) (.sl (.sl (.int .i64))))))) o2 (.deep true .no))]) rfl rfl ⟨⟨.inl rfl, rfl, trivial⟩, ⟨rfl, rfl⟩, ⟨rfl, rfl⟩, trivial⟩ ⟨.inr (.inr ⟨_, _, _, rfl, rfl⟩), trivial⟩)), he⟩
      · have he := ok_f he hb
        have he := ok_some he
        exact ⟨rfl, _, _, ((leads_freeze [10004000]).trans (leads_ren [] (l := [(4, .c (.imm (.sl .bool) d4))]) (st' := [(0, .rc [.imm (.int .u8) r_5.1, .int .i64 r_5.2]), (1, .sl 3 (.int .i64) o1 .shallow), (2, .sl 124 (.pair (.int .i64) (.pair (.sl (.int .i64)) (.pair (.sl (.int .i64)) (.pair (.int .i64) (.sl (.sl (.int .i64))))))) o2 (.deep true .no))]) rfl rfl ⟨⟨.inl rfl, rfl, trivial⟩, ⟨rfl, rfl⟩, ⟨rfl, rfl⟩, trivial⟩ ⟨.inr (.inr ⟨_, _, _, rfl, rfl⟩), trivial⟩)), he⟩
    · skip
      refine And.intro (fun hb => ?_) (fun hb => ?_)
      · have he := ok_t he hb
        obtain ⟨r7_, hr, he⟩ := ok_bind he
        refine ⟨r7_, hr, ?_⟩
        refine And.intro (fun hb => ?_) (fun hb => ?_)
        · have he := ok_t he hb
          have he := ok_rq he
          refine And.intro he.1 ?_
          have he := he.2
          have he := ok_rq he
          refine And.intro he.1 ?_
          have he := he.2
          have he := ok_rq he
          refine And.intro he.1 ?_
          have he := he.2
          refine And.intro rfl ?_
          exact ⟨(r7_.2, (d3.set (0:Int).toNat ((d3.getD (0:Int).toNat []) ++ [true]))), he, (leads_ren [(10004000, 10003000)] (l := [(0, .c (.ptr 0 0)), (5, .c (.own 10004000 false))]) (st' := [(0, .rc [.imm (.int .u8) r7_.2.1, .int .i64 r7_.2.2]), (1, .sl 3 (.int .i64) o1 .shallow), (2, .sl 124 (.pair (.int .i64) (.pair (.sl (.int .i64)) (.pair (.sl (.int .i64)) (.pair (.int .i64) (.sl (.sl (.int .i64))))))) o2 (.deep true .no)), (10004000, .sl 37 (.sl .bool) (d3.set (0:Int).toNat ((d3.getD (0:Int).toNat []) ++ [true])) (.deep true .no))]) rfl rfl ⟨⟨.inl rfl, rfl, trivial⟩, ⟨rfl, rfl⟩, ⟨rfl, rfl⟩, ⟨rfl, rfl⟩, trivial⟩ ⟨⟨⟨rfl, rfl⟩, rfl⟩, ⟨⟨rfl, rfl⟩, trivial⟩, trivial⟩)⟩
        · have he := ok_f he hb
          exact ⟨(r7_.2, d3), he, (leads_ren [(10004000, 10003000)] (l := [(0, .c (.ptr 0 0)), (5, .c (.own 10004000 false))]) (st' := [(0, .rc [.imm (.int .u8) r7_.2.1, .int .i64 r7_.2.2]), (1, .sl 3 (.int .i64) o1 .shallow), (2, .sl 124 (.pair (.int .i64) (.pair (.sl (.int .i64)) (.pair (.sl (.int .i64)) (.pair (.int .i64) (.sl (.sl (.int .i64))))))) o2 (.deep true .no)), (10004000, .sl 37 (.sl .bool) d3 (.deep true .no))]) rfl rfl ⟨⟨.inl rfl, rfl, trivial⟩, ⟨rfl, rfl⟩, ⟨rfl, rfl⟩, ⟨rfl, rfl⟩, trivial⟩ ⟨⟨⟨rfl, rfl⟩, rfl⟩, ⟨⟨rfl, rfl⟩, trivial⟩, trivial⟩)⟩
      · have he := ok_f he hb
        exact ⟨(r_4, d3), he, (leads_ren [(10004000, 10003000)] (l := [(0, .c (.ptr 0 0)), (5, .c (.own 10004000 false))]) (st' := [(0, .rc [.imm (.int .u8) r_4.1, .int .i64 r_4.2]), (1, .sl 3 (.int .i64) o1 .shallow), (2, .sl 124 (.pair (.int .i64) (.pair (.sl (.int .i64)) (.pair (.sl (.int .i64)) (.pair (.int .i64) (.sl (.sl (.int .i64))))))) o2 (.deep true .no)), (10004000, .sl 37 (.sl .bool) d3 (.deep true .no))]) rfl rfl ⟨⟨.inl rfl, rfl, trivial⟩, ⟨rfl, rfl⟩, ⟨rfl, rfl⟩, ⟨rfl, rfl⟩, trivial⟩ ⟨⟨⟨rfl, rfl⟩, rfl⟩, ⟨⟨rfl, rfl⟩, trivial⟩, trivial⟩)⟩
  · skip
    refine loop_model mixed tys_ok t_spec_l8Draw__rsd (S := Int × ((List Int) × Int) × (List (List Bool))) (I := (fun (i, r_2, d1) => (envOf [(0, .c (.ptr 0 0)), (5, .c (.own 10000000 false)), (6, .c (.int .i64 i))], [(0, .rc [.imm (.int .u8) r_2.1, .int .i64 r_2.2]), (1, .sl 3 (.int .i64) o1 .shallow), (2, .sl 124 (.pair (.int .i64) (.pair (.sl (.int .i64)) (.pair (.sl (.int .i64)) (.pair (.int .i64) (.sl (.sl (.int .i64))))))) o2 (.deep true .no)), (10000000, .sl 37 (.sl .bool) d1 (.deep true .no))]))) (f := spec_l8Draw__rsd_l1) (K := (fun r => k (.c (.imm (.sl .bool) r.1)) [(0, .rc [.imm (.int .u8) r.2.1, .int .i64 r.2.2]), (1, .sl 3 (.int .i64) o1 .shallow), (2, .sl 124 (.pair (.int .i64) (.pair (.sl (.int .i64)) (.pair (.sl (.int .i64)) (.pair (.int .i64) (.sl (.sl (.int .i64))))))) o2 (.deep true .no))])) he (leads_ren [(10000000, 10900)] (l := [(0, .c (.ptr 0 0)), (5, .c (.own 10000000 false)), (6, .c (.int .i64 (0:Int)))]) (st' := [(0, .rc [.imm (.int .u8) (r__0, r__1).1, .int .i64 (r__0, r__1).2]), (1, .sl 3 (.int .i64) o1 .shallow), (2, .sl 124 (.pair (.int .i64) (.pair (.sl (.int .i64)) (.pair (.sl (.int .i64)) (.pair (.int .i64) (.sl (.sl (.int .i64))))))) o2 (.deep true .no)), (10000000, .sl 37 (.sl .bool) r1_ (.deep true .no))]) rfl rfl ⟨⟨.inl rfl, rfl, trivial⟩, ⟨rfl, rfl⟩, ⟨rfl, rfl⟩, ⟨rfl, rfl⟩, trivial⟩ ⟨⟨⟨rfl, rfl⟩, rfl⟩, ⟨⟨rfl, rfl⟩, trivial⟩, rfl, trivial⟩) ?_
    rintro ⟨i, r_2, d1⟩ J1 he
    refine And.intro (fun hb => ?_) (fun hb => ?_)
    · have he := ok_t he hb
      refine loop_model mixed tys_ok t_spec_l8Draw__rsd (S := Int × ((List Int) × Int) × (List (List Bool))) (I := (fun (k_1, r_3, d2) => (envOf [(0, .c (.ptr 0 0)), (5, .c (.own 10002000 false)), (6, .c (.int .i64 i)), (7, .c (.int .i64 k_1))], [(0, .rc [.imm (.int .u8) r_3.1, .int .i64 r_3.2]), (1, .sl 3 (.int .i64) o1 .shallow), (2, .sl 124 (.pair (.int .i64) (.pair (.sl (.int .i64)) (.pair (.sl (.int .i64)) (.pair (.int .i64) (.sl (.sl (.int .i64))))))) o2 (.deep true .no)), (10002000, .sl 37 (.sl .bool) d2 (.deep true .no))]))) (f := spec_l8Draw__rsd_l2 i) (K := (LK J1 (fun r => k (.c (.imm (.sl .bool) r.1)) [(0, .rc [.imm (.int .u8) r.2.1, .int .i64 r.2.2]), (1, .sl 3 (.int .i64) o1 .shallow), (2, .sl 124 (.pair (.int .i64) (.pair (.sl (.int .i64)) (.pair (.sl (.int .i64)) (.pair (.int .i64) (.sl (.sl (.int .i64))))))) o2 (.deep true .no))]))) he (leads_ren [(10002000, 10000000)] (l := [(0, .c (.ptr 0 0)), (5, .c (.own 10002000 false)), (6, .c (.int .i64 i)), (7, .c (.int .i64 (0:Int)))]) (st' := [(0, .rc [.imm (.int .u8) r_2.1, .int .i64 r_2.2]), (1, .sl 3 (.int .i64) o1 .shallow), (2, .sl 124 (.pair (.int .i64) (.pair (.sl (.int .i64)) (.pair (.sl (.int .i64)) (.pair (.int .i64) (.sl (.sl (.int .i64))))))) o2 (.deep true .no)), (10002000, .sl 37 (.sl .bool) d1 (.deep true .no))]) rfl rfl ⟨⟨.inl rfl, rfl, trivial⟩, ⟨rfl, rfl⟩, ⟨rfl, rfl⟩, ⟨rfl, rfl⟩, trivial⟩ ⟨⟨⟨rfl, rfl⟩, rfl⟩, ⟨⟨rfl, rfl⟩, trivial⟩, rfl, rfl, trivial⟩) ?_
      rintro ⟨k_1, r_3, d2⟩ J2 he
      have he := ok_rq he
      refine And.intro he.1 ?_
      have he := he.2
      refine And.intro (fun hb => ?_) (fun hb => ?_)
      · have he := ok_t he hb
        refine And.intro (by kernel_rfl) ?_
        have he := ok_rq he
        refine And.intro he.1 ?_
        have he := he.2
        obtain ⟨r6_, hq1, he⟩ := ok_bind he
        have he := ok_rq he
        have hq2 := he.1
        have he := he.2
        refine And.intro ?_ (And.intro ?_ (trivial))
        · skip
          refine And.intro ?_ trivial
          refine ⟨r6_, hq1, ?_⟩
          refine And.intro hq2 ?_
          refine And.intro ?_ trivial
          have he := ok_rq he
          refine And.intro he.1 ?_
          have he := he.2
          have he := ok_some he
          exact ⟨((k_1 + (1:Int)), r6_.2, ((d2.set i.toNat (d2.getD i.toNat [])).set i.toNat (((d2.set i.toNat (d2.getD i.toNat [])).getD i.toNat []).set k_1.toNat (decide ((0:Int) < r6_.1))))), he, ((leads_close [10002000] rfl).trans (leads_ren [] (l := [(0, .c (.ptr 0 0)), (5, .c (.own 10002000 false)), (6, .c (.int .i64 i)), (7, .c (.int .i64 (k_1 + (1:Int))))]) (st' := [(0, .rc [.imm (.int .u8) r6_.2.1, .int .i64 r6_.2.2]), (1, .sl 3 (.int .i64) o1 .shallow), (2, .sl 124 (.pair (.int .i64) (.pair (.sl (.int .i64)) (.pair (.sl (.int .i64)) (.pair (.int .i64) (.sl (.sl (.int .i64))))))) o2 (.deep true .no)), (10002000, .sl 37 (.sl .bool) ((d2.set i.toNat (d2.getD i.toNat [])).set i.toNat (((d2.set i.toNat (d2.getD i.toNat [])).getD i.toNat []).set k_1.toNat (decide ((0:Int) < r6_.1)))) (.deep true .no))]) rfl rfl (by exact ⟨⟨.inl rfl, rfl, trivial⟩, ⟨rfl, rfl⟩, ⟨rfl, rfl⟩, ⟨rfl, rfl⟩, trivial⟩) (by exact ⟨⟨⟨rfl, rfl⟩, rfl⟩, ⟨⟨rfl, rfl⟩, trivial⟩, rfl, rfl, trivial⟩)))⟩
        · skip
          refine ⟨r6_, hq1, ?_⟩
          refine And.intro ?_ trivial
          refine And.intro hq2 ?_
          refine And.intro ?_ trivial
          have he := ok_rq he
          refine And.intro he.1 ?_
          have he := he.2
          have he := ok_some he
          exact ⟨((k_1 + (1:Int)), r6_.2, ((d2.set i.toNat (d2.getD i.toNat [])).set i.toNat (((d2.set i.toNat (d2.getD i.toNat [])).getD i.toNat []).set k_1.toNat (decide ((0:Int) < r6_.1))))), he, ((leads_close [10002000] rfl).trans (leads_ren [] (l := [(0, .c (.ptr 0 0)), (5, .c (.own 10002000 false)), (6, .c (.int .i64 i)), (7, .c (.int .i64 (k_1 + (1:Int))))]) (st' := [(0, .rc [.imm (.int .u8) r6_.2.1, .int .i64 r6_.2.2]), (1, .sl 3 (.int .i64) o1 .shallow), (2, .sl 124 (.pair (.int .i64) (.pair (.sl (.int .i64)) (.pair (.sl (.int .i64)) (.pair (.int .i64) (.sl (.sl (.int .i64))))))) o2 (.deep true .no)), (10002000, .sl 37 (.sl .bool) ((d2.set i.toNat (d2.getD i.toNat [])).set i.toNat (((d2.set i.toNat (d2.getD i.toNat [])).getD i.toNat []).set k_1.toNat (decide ((0:Int) < r6_.1)))) (.deep true .no))]) rfl rfl (by exact ⟨⟨.inl rfl, rfl, trivial⟩, ⟨rfl, rfl⟩, ⟨rfl, rfl⟩, ⟨rfl, rfl⟩, trivial⟩) (by exact ⟨⟨⟨rfl, rfl⟩, rfl⟩, ⟨⟨rfl, rfl⟩, trivial⟩, rfl, rfl, trivial⟩)))⟩
      · have he := ok_f he hb
        have he := ok_rq he
        refine And.intro he.1 ?_
        have he := he.2
        have he := ok_some he
        exact ⟨((i + (1:Int)), r_3, (d2.set i.toNat (d2.getD i.toNat []))), he, ((leads_close [10002000] rfl).trans (leads_ren [(10000000, 10002000)] (l := [(0, .c (.ptr 0 0)), (5, .c (.own 10000000 false)), (6, .c (.int .i64 (i + (1:Int))))]) (st' := [(0, .rc [.imm (.int .u8) r_3.1, .int .i64 r_3.2]), (1, .sl 3 (.int .i64) o1 .shallow), (2, .sl 124 (.pair (.int .i64) (.pair (.sl (.int .i64)) (.pair (.sl (.int .i64)) (.pair (.int .i64) (.sl (.sl (.int .i64))))))) o2 (.deep true .no)), (10000000, .sl 37 (.sl .bool) (d2.set i.toNat (d2.getD i.toNat [])) (.deep true .no))]) rfl rfl (by exact ⟨⟨.inl rfl, rfl, trivial⟩, ⟨rfl, rfl⟩, ⟨rfl, rfl⟩, ⟨rfl, rfl⟩, trivial⟩) (by exact ⟨⟨⟨rfl, rfl⟩, rfl⟩, ⟨⟨rfl, rfl⟩, trivial⟩, rfl, trivial⟩)))⟩
    · have he := ok_f he hb
      exact ⟨(r_2, d1), ok_up he, (leads_ren [(10003000, 10000000)] (l := [(0, .c (.ptr 0 0)), (5, .c (.own 10003000 false))]) (st' := [(0, .rc [.imm (.int .u8) r_2.1, .int .i64 r_2.2]), (1, .sl 3 (.int .i64) o1 .shallow), (2, .sl 124 (.pair (.int .i64) (.pair (.sl (.int .i64)) (.pair (.sl (.int .i64)) (.pair (.int .i64) (.sl (.sl (.int .i64))))))) o2 (.deep true .no)), (10003000, .sl 37 (.sl .bool) d1 (.deep true .no))]) rfl rfl ⟨⟨.inl rfl, rfl, trivial⟩, ⟨rfl, rfl⟩, ⟨rfl, rfl⟩, ⟨rfl, rfl⟩, trivial⟩ ⟨⟨⟨rfl, rfl⟩, rfl⟩, ⟨⟨rfl, rfl⟩, trivial⟩, trivial⟩)⟩

noncomputable def c_spec_DrawLowerBound : Con := fun args st => match args, st with
  | [.c (.imm (.int .u8) code)], [] => .opt ((List (List Bool)) × (List Int) × (List Int) × (List (Int × (List Int) × (List Int) × Int × (List (List Int))))) (spec_DrawLowerBound code) (fun r => .ret (.tup [.agg [.own 902 false, .own 903 false], .c (.own 901 false), .c (.imm (.sl .bool) r.1)]) [(900, .rc [.own 902 false, .own 903 false]), (901, .sl 3 (.int .i64) r.2.1 .shallow), (902, .sl 3 (.int .i64) r.2.2.1 .shallow), (903, .sl 124 (.pair (.int .i64) (.pair (.sl (.int .i64)) (.pair (.sl (.int .i64)) (.pair (.int .i64) (.sl (.sl (.int .i64))))))) r.2.2.2 (.deep true .no))])
  | _, _ => .fail

noncomputable def C_spec_DrawLowerBound : Cfg := { y := tys, n := 22, h := 0, tab := [(94, c_spec_l17Open), (95, c_spec_l6Mutate), (96, c_spec_l6Model), (97, c_spec_l9Draw__rsd), (155, c_spec_l8Draw__rsd)], cut := [], hand := [(97, [1]), (155, [1])], good := [], deep := [], sched := [(4, (.first 1 (.first 2 (.alt 0 (.alt 3 (.alt 4 (.alt 5 (.first 6 (.first 7 .done)) .stop) .stop) .stop) (.alt 3 (.alt 0 (.alt 4 (.alt 5 (.first 6 (.first 7 .done)) .stop) .stop) (.alt 4 (.alt 0 (.alt 5 (.first 6 (.first 7 .done)) .stop) .stop) .stop)) .stop)))))] }

theorem t_spec_DrawLowerBound : TabOk Try.prog C_spec_DrawLowerBound := by
  refine tabOk_of ?_
  simp only [C_spec_DrawLowerBound, List.forall_mem_cons]
  exact ⟨k_spec_l17Open, k_spec_l6Mutate, k_spec_l6Model, k_spec_l9Draw__rsd, k_spec_l8Draw__rsd, fun p h => by cases h⟩

theorem k_spec_DrawLowerBound : Entry Try.prog 56 c_spec_DrawLowerBound := by
  refine entry_by (C := C_spec_DrawLowerBound) mixed tys_ok t_spec_DrawLowerBound (fn := Try.f56) (c := bd Try.f56) (by kernel_rfl) (by kernel_rfl) (by kernel_rfl) (by kernel_rfl) ?_
  intro args st k he
  unfold c_spec_DrawLowerBound at he
  split at he
  rotate_left
  · exact he.elim
  rename_i code
  have he : Ok (spec_DrawLowerBound code) (fun r => k (.tup [.agg [.own 902 false, .own 903 false], .c (.own 901 false), .c (.imm (.sl .bool) r.1)]) [(900, .rc [.own 902 false, .own 903 false]), (901, .sl 3 (.int .i64) r.2.1 .shallow), (902, .sl 3 (.int .i64) r.2.2.1 .shallow), (903, .sl 124 (.pair (.int .i64) (.pair (.sl (.int .i64)) (.pair (.sl (.int .i64)) (.pair (.int .i64) (.sl (.sl (.int .i64))))))) r.2.2.2 (.deep true .no))]) := he
  refine ⟨rfl, rfl, ?_⟩
  obtain ⟨r1_, hr, he⟩ := ok_bind he
  refine ⟨r1_, hr, ?_⟩
  obtain ⟨r2_, hr, he⟩ := ok_bind he
  refine ⟨r2_, hr, ?_⟩
  obtain ⟨r3_, hr, he⟩ := ok_bind he
  refine ⟨r3_, hr, ?_⟩
  obtain ⟨r4_, hr, he⟩ := ok_bind he
  refine ⟨r4_, hr, ?_⟩
  refine And.intro (by kernel_rfl) ?_
  obtain ⟨r6_, hq1, he⟩ := ok_bind he
  refine And.intro ?_ (And.intro ?_ (trivial))
  · skip
    refine And.intro ?_ trivial
    refine And.intro ?_ trivial
    refine ⟨r6_, hq1, ?_⟩
    refine And.intro ?_ trivial
    have he := ok_some he
    exact ⟨rfl, _, _, (leads_ren [(900, 2), (901, 17900), (902, 14901), (903, 14902)] (l := [(2, .c (.ptr 900 0)), (3, .c (.own 901 false)), (4, .c (.imm (.sl .bool) r6_.1))]) (st' := [(900, .rc [.own 902 false, .own 903 false]), (901, .sl 3 (.int .i64) r4_.2 .shallow), (902, .sl 3 (.int .i64) r3_.2.1 .shallow), (903, .sl 124 (.pair (.int .i64) (.pair (.sl (.int .i64)) (.pair (.sl (.int .i64)) (.pair (.int .i64) (.sl (.sl (.int .i64))))))) r3_.2.2 (.deep true .no))]) rfl rfl ⟨⟨⟨⟨rfl, rfl⟩, trivial⟩, ⟨⟨rfl, rfl⟩, trivial⟩, trivial⟩, ⟨rfl, rfl⟩, ⟨rfl, rfl⟩, ⟨rfl, rfl⟩, trivial⟩ ⟨⟨⟨rfl, rfl⟩, rfl⟩, ⟨⟨rfl, rfl⟩, trivial⟩, .inl rfl, trivial⟩), he⟩
  · skip
    refine And.intro ?_ (And.intro ?_ (trivial))
    · skip
      refine And.intro ?_ trivial
      refine ⟨r6_, hq1, ?_⟩
      refine And.intro ?_ trivial
      have he := ok_some he
      exact ⟨rfl, _, _, (leads_ren [(900, 2), (901, 17900), (902, 14901), (903, 14902)] (l := [(2, .c (.ptr 900 0)), (3, .c (.own 901 false)), (4, .c (.imm (.sl .bool) r6_.1))]) (st' := [(900, .rc [.own 902 false, .own 903 false]), (901, .sl 3 (.int .i64) r4_.2 .shallow), (902, .sl 3 (.int .i64) r3_.2.1 .shallow), (903, .sl 124 (.pair (.int .i64) (.pair (.sl (.int .i64)) (.pair (.sl (.int .i64)) (.pair (.int .i64) (.sl (.sl (.int .i64))))))) r3_.2.2 (.deep true .no))]) rfl rfl ⟨⟨⟨⟨rfl, rfl⟩, trivial⟩, ⟨⟨rfl, rfl⟩, trivial⟩, trivial⟩, ⟨rfl, rfl⟩, ⟨rfl, rfl⟩, ⟨rfl, rfl⟩, trivial⟩ ⟨⟨⟨rfl, rfl⟩, rfl⟩, ⟨⟨rfl, rfl⟩, trivial⟩, .inl rfl, trivial⟩), he⟩
    · skip
      refine ⟨r6_, hq1, ?_⟩
      refine And.intro ?_ trivial
      refine And.intro ?_ trivial
      have he := ok_some he
      exact ⟨rfl, _, _, (leads_ren [(900, 2), (901, 17900), (902, 14901), (903, 14902)] (l := [(2, .c (.ptr 900 0)), (3, .c (.own 901 false)), (4, .c (.imm (.sl .bool) r6_.1))]) (st' := [(900, .rc [.own 902 false, .own 903 false]), (901, .sl 3 (.int .i64) r4_.2 .shallow), (902, .sl 3 (.int .i64) r3_.2.1 .shallow), (903, .sl 124 (.pair (.int .i64) (.pair (.sl (.int .i64)) (.pair (.sl (.int .i64)) (.pair (.int .i64) (.sl (.sl (.int .i64))))))) r3_.2.2 (.deep true .no))]) rfl rfl ⟨⟨⟨⟨rfl, rfl⟩, trivial⟩, ⟨⟨rfl, rfl⟩, trivial⟩, trivial⟩, ⟨rfl, rfl⟩, ⟨rfl, rfl⟩, ⟨rfl, rfl⟩, trivial⟩ ⟨⟨⟨rfl, rfl⟩, rfl⟩, ⟨⟨rfl, rfl⟩, trivial⟩, .inl rfl, trivial⟩), he⟩

noncomputable def c_impl_within : Con := fun args st => match args, st with
  | [.c (.int .i64 n), .c (.int .i64 low), .c (.int .i64 high)], [] => .opt (Bool) (impl_within n low high) (fun r => .ret (.c (.bool r)) [])
  | _, _ => .fail

noncomputable def C_impl_within : Cfg := { y := tys, n := 15, h := 0, tab := [], cut := [], hand := [], good := [], deep := [], sched := [] }

theorem t_impl_within : TabOk Try.prog C_impl_within := tabOk_of (fun p h => by cases h)

theorem k_impl_within : Entry Try.prog 101 c_impl_within := by
  refine entry_by (C := C_impl_within) mixed tys_ok t_impl_within (fn := Try.f101) (c := bd Try.f101) (by kernel_rfl) (by kernel_rfl) (by kernel_rfl) (by kernel_rfl) ?_
  intro args st k he
  unfold c_impl_within at he
  split at he
  rotate_left
  · exact he.elim
  rename_i n low high
  have he : Ok (impl_within n low high) (fun r => k (.c (.bool r)) []) := he
  refine ⟨rfl, rfl, ?_⟩
  refine And.intro (fun hb => ?_) (fun hb => ?_)
  · have he := ok_t he hb
    have he := ok_some he
    exact ⟨rfl, _, _, Leads.refl _ _, he⟩
  · have he := ok_f he hb
    have he := ok_some he
    exact ⟨rfl, _, _, Leads.refl _ _, he⟩

noncomputable def c_slices_Index_int : Con := fun args st => match args, st with
  | [.c (.imm (.int .i64) s_), .c (.int .i64 v)], [] => .opt (Int) (slices_Index_int s_ v) (fun r => .ret (.c (.int .i64 r)) [])
  | _, _ => .fail

noncomputable def C_slices_Index_int : Cfg := { y := tys, n := 19, h := 0, tab := [], cut := [], hand := [], good := [], deep := [], sched := [] }

theorem t_slices_Index_int : TabOk Try.prog C_slices_Index_int := tabOk_of (fun p h => by cases h)

theorem k_slices_Index_int : Entry Try.prog 262 c_slices_Index_int := by
  refine entry_by (C := C_slices_Index_int) mixed tys_ok t_slices_Index_int (fn := Try.f262) (c := bd Try.f262) (by kernel_rfl) (by kernel_rfl) (by kernel_rfl) (by kernel_rfl) ?_
  intro args st k he
  unfold c_slices_Index_int at he
  split at he
  rotate_left
  · exact he.elim
  rename_i s_ v
  have he : Ok (slices_Index_int s_ v) (fun r => k (.c (.int .i64 r)) []) := he
  refine ⟨rfl, rfl, ?_⟩
  refine loop_model mixed tys_ok t_slices_Index_int (S := Int) (I := (fun i => (envOf [(0, .c (.imm (.int .i64) s_)), (1, .c (.int .i64 v)), (7, .c (.int .i64 (s_.length:Int))), (8, .c (.int .i64 i))], []))) (f := slices_Index_int_l1 s_ v) (K := (fun r => k (.c (.int .i64 r)) [])) he (leads_ren [] (l := [(0, .c (.imm (.int .i64) s_)), (1, .c (.int .i64 v)), (7, .c (.int .i64 (s_.length:Int))), (8, .c (.int .i64 (0:Int)))]) (st' := []) rfl rfl trivial ⟨.inl rfl, rfl, rfl, rfl, trivial⟩) ?_
  rintro i J1 he
  refine And.intro (fun hb => ?_) (fun hb => ?_)
  · have he := ok_t he hb
    have he := ok_rq he
    refine And.intro he.1 ?_
    have he := he.2
    refine And.intro (fun hb => ?_) (fun hb => ?_)
    · have he := ok_t he hb
      have he := ok_some he
      exact ⟨rfl, _, _, Leads.refl _ _, he⟩
    · have he := ok_f he hb
      have he := ok_rq he
      refine And.intro he.1 ?_
      have he := he.2
      have he := ok_some he
      exact ⟨(i + (1:Int)), he, (leads_ren [] (l := [(0, .c (.imm (.int .i64) s_)), (1, .c (.int .i64 v)), (7, .c (.int .i64 (s_.length:Int))), (8, .c (.int .i64 (i + (1:Int))))]) (st' := []) rfl rfl trivial ⟨.inl rfl, rfl, rfl, rfl, trivial⟩)⟩
  · have he := ok_f he hb
    have he := ok_some he
    exact ⟨rfl, _, _, Leads.refl _ _, he⟩

end Go.AE.Y
