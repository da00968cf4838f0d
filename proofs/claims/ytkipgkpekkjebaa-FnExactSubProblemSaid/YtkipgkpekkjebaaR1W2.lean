/-
  Walks: each function keeps the contract that its model gives. No conditions.
-/
import Derived.Test.YtkipgkpekkjebaaR1Tab
import Derived.Test.YtkipgkpekkjebaaR1W1
namespace Go.AE.Y
open Go Go.AE Go.Proofs
set_option linter.unusedVariables false
set_option maxHeartbeats 2000000
set_option maxRecDepth 100000

noncomputable def c_spec_l17Open : Con := fun args st => match args, st with
  | [.c (.imm (.int .u8) code)], [] => .opt (((List Int) × Int)) (spec_l17Open code) (fun r => .ret (.c (.ptr 900 0)) [(900, .rc [.imm (.int .u8) r.1, .int .i64 r.2])])
  | _, _ => .fail

noncomputable def C_spec_l17Open : Cfg := { y := tys, n := 11, h := 0, tab := [], cut := [3], hand := [], good := [], deep := [], sched := [] }

theorem t_spec_l17Open : TabOk Try.prog C_spec_l17Open := tabOk_of (fun p h => by cases h)

theorem k_spec_l17Open : Entry Try.prog 65 c_spec_l17Open := by
  refine entry_by (C := C_spec_l17Open) mixed tys_ok t_spec_l17Open (fn := Try.f65) (c := bd Try.f65) (by kernel_rfl) (by kernel_rfl) (by kernel_rfl) (by kernel_rfl) ?_
  intro args st k he
  unfold c_spec_l17Open at he
  split at he
  rotate_left
  · exact he.elim
  rename_i code
  have he : Ok (spec_l17Open code) (fun r => k (.c (.ptr 900 0)) [(900, .rc [.imm (.int .u8) r.1, .int .i64 r.2])]) := he
  refine ⟨rfl, rfl, ?_⟩
  refine seq_model mixed tys_ok t_spec_l17Open (S := (List Int)) (I := (fun code1 => (envOf [(0, .c (.imm (.int .u8) code1))], []))) (B := fun s => Ok (spec_l17Open_j1 s) (fun r => k (.c (.ptr 900 0)) [(900, .rc [.imm (.int .u8) r.1, .int .i64 r.2])])) ?_ ?_
  · rintro code1 he
    have he := ok_some he
    exact ⟨rfl, _, _, (leads_ren [(900, 10)] (l := [(2, .c (.ptr 900 0))]) (st' := [(900, .rc [.imm (.int .u8) code1, .int .i64 (0:Int)])]) rfl rfl ⟨⟨.inl rfl, rfl, trivial⟩, trivial⟩ ⟨⟨⟨rfl, rfl⟩, rfl⟩, trivial⟩), he⟩
  · skip
    refine And.intro (fun hb => ?_) (fun hb => ?_)
    · have he := ok_t he hb
      have he := ok_rq he
      refine And.intro he.1 ?_
      have he := he.2
      exact ⟨(code.take (2000:Int).toNat), he, (leads_ren [] (l := [(0, .c (.imm (.int .u8) (code.take (2000:Int).toNat)))]) (st' := []) rfl rfl trivial ⟨.inl rfl, trivial⟩)⟩
    · have he := ok_f he hb
      exact ⟨code, he, (leads_ren [] (l := [(0, .c (.imm (.int .u8) code))]) (st' := []) rfl rfl trivial ⟨.inl rfl, trivial⟩)⟩

noncomputable def c_spec_l17Rd_pick : Con := fun args st => match args, st with
  | [.c (.ptr 0 0), .c (.int .i64 a1)], [(0, .rc [.imm (.int .u8) o0_0, .int .i64 o0_1])] => .opt (Int × ((List Int) × Int)) (spec_l17Rd_pick a1 (o0_0, o0_1)) (fun r => .ret (.c (.int .i64 r.1)) [(0, .rc [.imm (.int .u8) r.2.1, .int .i64 r.2.2])])
  | _, _ => .fail

noncomputable def C_spec_l17Rd_pick : Cfg := { y := tys, n := 99, h := 1, tab := [], cut := [], hand := [], good := [], deep := [], sched := [] }

theorem t_spec_l17Rd_pick : TabOk Try.prog C_spec_l17Rd_pick := tabOk_of (fun p h => by cases h)

theorem k_spec_l17Rd_pick : Entry Try.prog 68 c_spec_l17Rd_pick := by
  refine entry_by (C := C_spec_l17Rd_pick) mixed tys_ok t_spec_l17Rd_pick (fn := Try.f68) (c := bd Try.f68) (by kernel_rfl) (by kernel_rfl) (by kernel_rfl) (by kernel_rfl) ?_
  intro args st k he
  unfold c_spec_l17Rd_pick at he
  split at he
  rotate_left
  · exact he.elim
  rename_i a1 o0_0 o0_1
  have he : Ok (spec_l17Rd_pick a1 (o0_0, o0_1)) (fun r => k (.c (.int .i64 r.1)) [(0, .rc [.imm (.int .u8) r.2.1, .int .i64 r.2.2])]) := he
  refine ⟨rfl, rfl, ?_⟩
  have he := ok_rq he
  refine And.intro he.1 ?_
  have he := he.2
  refine And.intro (fun hb => ?_) (fun hb => ?_)
  · have he := ok_f he hb
    refine And.intro (fun hb => ?_) (fun hb => ?_)
    · have he := ok_t he hb
      have he := ok_some he
      exact ⟨rfl, _, _, (leads_ren [] (l := [(4, .c (.int .i64 (0:Int)))]) (st' := [(0, .rc [.imm (.int .u8) (o0_0, o0_1).1, .int .i64 ((o0_0, o0_1).2 + (1:Int))])]) rfl rfl ⟨⟨.inl rfl, rfl, trivial⟩, trivial⟩ ⟨rfl, trivial⟩), he⟩
    · have he := ok_f he hb
      have he := ok_rq he
      refine And.intro he.1 ?_
      have he := he.2
      refine And.intro (fun hb => ?_) (fun hb => ?_)
      · have he := ok_t he hb
        have he := ok_rq he
        refine And.intro he.1 ?_
        have he := he.2
        refine fun _ => ?_
        have he := ok_rq he
        refine And.intro he.1 ?_
        have he := he.2
        have he := ok_rq he
        refine And.intro he.1 ?_
        have he := he.2
        have he := ok_some he
        exact ⟨rfl, _, _, (leads_ren [] (l := [(4, .c (.int .i64 (((o0_0, o0_1).1.getD (((o0_0, o0_1).2 + (1:Int)) - (1:Int)).toNat 0) % a1)))]) (st' := [(0, .rc [.imm (.int .u8) (o0_0, o0_1).1, .int .i64 ((o0_0, o0_1).2 + (1:Int))])]) rfl rfl ⟨⟨.inl rfl, rfl, trivial⟩, trivial⟩ ⟨rfl, trivial⟩), he⟩
      · have he := ok_f he hb
        refine And.intro (by kernel_rfl) ?_
        have he := ok_rq he
        refine And.intro he.1 ?_
        have he := he.2
        have he := ok_rq he
        refine And.intro he.1 ?_
        have he := he.2
        refine fun _ => ?_
        have he := ok_rq he
        refine And.intro he.1 ?_
        have he := he.2
        have he := ok_rq he
        refine And.intro he.1 ?_
        have he := he.2
        have he := ok_rq he
        refine And.intro he.1 ?_
        have he := he.2
        have he := ok_rq he
        refine And.intro he.1 ?_
        have he := he.2
        have he := ok_rq he
        refine And.intro he.1 ?_
        have he := he.2
        have he := ok_rq he
        refine And.intro he.1 ?_
        have he := he.2
        refine fun _ => ?_
        have he := ok_rq he
        refine And.intro he.1 ?_
        have he := he.2
        have he := ok_rq he
        refine And.intro he.1 ?_
        have he := he.2
        have he := ok_rq he
        refine And.intro he.1 ?_
        have he := he.2
        have he := ok_rq he
        refine And.intro he.1 ?_
        have he := he.2
        have he := ok_rq he
        refine And.intro he.1 ?_
        have he := he.2
        have he := ok_rq he
        refine And.intro he.1 ?_
        have he := he.2
        have he := ok_rq he
        refine And.intro he.1 ?_
        have he := he.2
        have he := ok_rq he
        refine And.intro he.1 ?_
        have he := he.2
        have he := ok_rq he
        refine And.intro he.1 ?_
        have he := he.2
        have he := ok_rq he
        refine And.intro he.1 ?_
        have he := he.2
        have he := ok_rq he
        refine And.intro he.1 ?_
        have he := he.2
        have he := ok_some he
        exact ⟨rfl, _, _, (leads_ren [] (l := [(4, .c (.int .i64 (((((((((o0_0, o0_1).1.getD ((((o0_0, o0_1).2 + (1:Int)) - (1:Int)) % ((o0_0, o0_1).1.length:Int)).toNat 0) * (131:Int)) + (((o0_0, o0_1).1.getD ((((((o0_0, o0_1).2 + (1:Int)) - (1:Int)) * (7:Int)) + (3:Int)) % ((o0_0, o0_1).1.length:Int)).toNat 0) * (1117:Int))) + ((((o0_0, o0_1).2 + (1:Int)) - (1:Int)) * (29:Int))) + (((((o0_0, o0_1).2 + (1:Int)) - (1:Int)) / ((o0_0, o0_1).1.length:Int)) * (53:Int))).toNat ^^^ (((((((o0_0, o0_1).1.getD ((((o0_0, o0_1).2 + (1:Int)) - (1:Int)) % ((o0_0, o0_1).1.length:Int)).toNat 0) * (131:Int)) + (((o0_0, o0_1).1.getD ((((((o0_0, o0_1).2 + (1:Int)) - (1:Int)) * (7:Int)) + (3:Int)) % ((o0_0, o0_1).1.length:Int)).toNat 0) * (1117:Int))) + ((((o0_0, o0_1).2 + (1:Int)) - (1:Int)) * (29:Int))) + (((((o0_0, o0_1).2 + (1:Int)) - (1:Int)) / ((o0_0, o0_1).1.length:Int)) * (53:Int))) / (64:Int)).toNat : Nat) : Int) % a1)))]) (st' := [(0, .rc [.imm (.int .u8) (o0_0, o0_1).1, .int .i64 ((o0_0, o0_1).2 + (1:Int))])]) rfl rfl ⟨⟨.inl rfl, rfl, trivial⟩, trivial⟩ ⟨rfl, trivial⟩), he⟩
  · have he := ok_t he hb
    have he := ok_some he
    exact ⟨rfl, _, _, (leads_ren [] (l := [(4, .c (.int .i64 (0:Int)))]) (st' := [(0, .rc [.imm (.int .u8) (o0_0, o0_1).1, .int .i64 ((o0_0, o0_1).2 + (1:Int))])]) rfl rfl ⟨⟨.inl rfl, rfl, trivial⟩, trivial⟩ ⟨rfl, trivial⟩), he⟩

noncomputable def c_spec_l17Rd_num : Con := fun args st => match args, st with
  | [.c (.ptr 0 0), .c (.imm (.int .i64) list_)], [(0, .rc [.imm (.int .u8) r__0, .int .i64 r__1])] => .opt (Int × ((List Int) × Int)) (spec_l17Rd_num list_ (r__0, r__1)) (fun r => .ret (.c (.int .i64 r.1)) [(0, .rc [.imm (.int .u8) r.2.1, .int .i64 r.2.2])])
  | _, _ => .fail

noncomputable def C_spec_l17Rd_num : Cfg := { y := tys, n := 12, h := 1, tab := [(68, c_spec_l17Rd_pick)], cut := [], hand := [], good := [], deep := [], sched := [] }

theorem t_spec_l17Rd_num : TabOk Try.prog C_spec_l17Rd_num := by
  refine tabOk_of ?_
  simp only [C_spec_l17Rd_num, List.forall_mem_cons]
  exact ⟨k_spec_l17Rd_pick, fun p h => by cases h⟩

theorem k_spec_l17Rd_num : Entry Try.prog 83 c_spec_l17Rd_num := by
  refine entry_by (C := C_spec_l17Rd_num) mixed tys_ok t_spec_l17Rd_num (fn := Try.f83) (c := bd Try.f83) (by kernel_rfl) (by kernel_rfl) (by kernel_rfl) (by kernel_rfl) ?_
  intro args st k he
  unfold c_spec_l17Rd_num at he
  split at he
  rotate_left
  · exact he.elim
  rename_i list_ r__0 r__1
  have he : Ok (spec_l17Rd_num list_ (r__0, r__1)) (fun r => k (.c (.int .i64 r.1)) [(0, .rc [.imm (.int .u8) r.2.1, .int .i64 r.2.2])]) := he
  refine ⟨rfl, rfl, ?_⟩
  obtain ⟨r1_, hr, he⟩ := ok_bind he
  refine ⟨r1_, hr, ?_⟩
  have he := ok_rq he
  refine And.intro he.1 ?_
  have he := he.2
  have he := ok_some he
  exact ⟨rfl, _, _, (leads_ren [] (l := [(4, .c (.int .i64 (list_.getD r1_.1.toNat 0)))]) (st' := [(0, .rc [.imm (.int .u8) r1_.2.1, .int .i64 r1_.2.2])]) rfl rfl ⟨⟨.inl rfl, rfl, trivial⟩, trivial⟩ ⟨rfl, trivial⟩), he⟩

noncomputable def c_spec_l12Draw : Con := fun args st => match args, st with
  | [.c (.ptr 0 0)], [(0, .rc [.imm (.int .u8) r__0, .int .i64 r__1])] => .opt (((List Int) × Int) × (List Int)) (spec_l12Draw (r__0, r__1)) (fun r => .ret (.c (.own 900)) [(0, .rc [.imm (.int .u8) r.1.1, .int .i64 r.1.2]), (900, .sl 3 (.int .i64) r.2 .shallow)])
  | _, _ => .fail

noncomputable def C_spec_l12Draw : Cfg := { y := tys, n := 39, h := 1, tab := [(68, c_spec_l17Rd_pick), (83, c_spec_l17Rd_num)], cut := [7], hand := [], good := [], deep := [], sched := [] }

theorem t_spec_l12Draw : TabOk Try.prog C_spec_l12Draw := by
  refine tabOk_of ?_
  simp only [C_spec_l12Draw, List.forall_mem_cons]
  exact ⟨k_spec_l17Rd_pick, k_spec_l17Rd_num, fun p h => by cases h⟩

theorem k_spec_l12Draw : Entry Try.prog 70 c_spec_l12Draw := by
  refine entry_by (C := C_spec_l12Draw) mixed tys_ok t_spec_l12Draw (fn := Try.f70) (c := bd Try.f70) (by kernel_rfl) (by kernel_rfl) (by kernel_rfl) (by kernel_rfl) ?_
  intro args st k he
  unfold c_spec_l12Draw at he
  split at he
  rotate_left
  · exact he.elim
  rename_i r__0 r__1
  have he : Ok (spec_l12Draw (r__0, r__1)) (fun r => k (.c (.own 900)) [(0, .rc [.imm (.int .u8) r.1.1, .int .i64 r.1.2]), (900, .sl 3 (.int .i64) r.2 .shallow)]) := he
  refine ⟨rfl, rfl, ?_⟩
  refine seq_model mixed tys_ok t_spec_l12Draw (S := ((List Int) × Int) × (List Int)) (I := (fun (r_2, out1) => (envOf [(0, .c (.ptr 0 0)), (3, .c (.own 10001000))], [(0, .rc [.imm (.int .u8) r_2.1, .int .i64 r_2.2]), (10001000, .sl 3 (.int .i64) out1 .shallow)]))) (B := fun s => Ok (spec_l12Draw_j1 s) (fun r => k (.c (.own 900)) [(0, .rc [.imm (.int .u8) r.1.1, .int .i64 r.1.2]), (900, .sl 3 (.int .i64) r.2 .shallow)])) ?_ ?_
  · rintro ⟨r_2, out1⟩ he
    obtain ⟨r3_, hr, he⟩ := ok_bind he
    refine ⟨r3_, hr, ?_⟩
    refine And.intro (fun hb => ?_) (fun hb => ?_)
    · have he := ok_t he hb
      obtain ⟨r4_, hr, he⟩ := ok_bind he
      refine ⟨r4_, hr, ?_⟩
      have he := ok_rq he
      refine And.intro he.1 ?_
      have he := he.2
      have he := ok_some he
      exact ⟨rfl, _, _, (leads_ren [(900, 31)] (l := [(2, .c (.own 900))]) (st' := [(0, .rc [.imm (.int .u8) r4_.2.1, .int .i64 r4_.2.2]), (900, .sl 3 (.int .i64) (out1 ++ [r4_.1]) .shallow)]) rfl rfl ⟨⟨.inl rfl, rfl, trivial⟩, ⟨rfl, rfl⟩, trivial⟩ ⟨⟨rfl, rfl⟩, trivial⟩), he⟩
    · have he := ok_f he hb
      refine And.intro (fun hb => ?_) (fun hb => ?_)
      · have he := ok_t he hb
        have he := ok_some he
        exact ⟨rfl, _, _, (leads_ren [(900, 34)] (l := [(2, .c (.own 900))]) (st' := [(0, .rc [.imm (.int .u8) r3_.2.1, .int .i64 r3_.2.2]), (900, .sl 3 (.int .i64) [(1:Int), (2:Int), (3:Int), (4:Int), (5:Int)] .shallow)]) rfl rfl ⟨⟨.inl rfl, rfl, trivial⟩, ⟨rfl, rfl⟩, trivial⟩ ⟨⟨rfl, rfl⟩, trivial⟩), he⟩
      · have he := ok_f he hb
        refine And.intro (fun hb => ?_) (fun hb => ?_)
        · have he := ok_t he hb
          have he := ok_some he
          exact ⟨rfl, _, _, (leads_ren [(900, 37)] (l := [(2, .c (.own 900))]) (st' := [(0, .rc [.imm (.int .u8) r3_.2.1, .int .i64 r3_.2.2]), (900, .sl 3 (.int .i64) [(2:Int), (4:Int), (6:Int), (12:Int)] .shallow)]) rfl rfl ⟨⟨.inl rfl, rfl, trivial⟩, ⟨rfl, rfl⟩, trivial⟩ ⟨⟨rfl, rfl⟩, trivial⟩), he⟩
        · have he := ok_f he hb
          have he := ok_some he
          exact ⟨rfl, _, _, (leads_ren [(900, 10001000)] (l := [(2, .c (.own 900))]) (st' := [(0, .rc [.imm (.int .u8) r3_.2.1, .int .i64 r3_.2.2]), (900, .sl 3 (.int .i64) out1 .shallow)]) rfl rfl ⟨⟨.inl rfl, rfl, trivial⟩, ⟨rfl, rfl⟩, trivial⟩ ⟨⟨rfl, rfl⟩, trivial⟩), he⟩
  · skip
    refine loop_model mixed tys_ok t_spec_l12Draw (S := Int × ((List Int) × Int) × (List Int)) (I := (fun (v, r_1, out) => (envOf [(0, .c (.ptr 0 0)), (3, .c (.own 10000000)), (4, .c (.int .i64 v))], [(0, .rc [.imm (.int .u8) r_1.1, .int .i64 r_1.2]), (10000000, .sl 3 (.int .i64) out .shallow)]))) (f := spec_l12Draw_l1) (K := (fun r => k (.c (.own 900)) [(0, .rc [.imm (.int .u8) r.1.1, .int .i64 r.1.2]), (900, .sl 3 (.int .i64) r.2 .shallow)])) he (leads_ren [(10000000, 5)] (l := [(0, .c (.ptr 0 0)), (3, .c (.own 10000000)), (4, .c (.int .i64 (1:Int)))]) (st' := [(0, .rc [.imm (.int .u8) (r__0, r__1).1, .int .i64 (r__0, r__1).2]), (10000000, .sl 3 (.int .i64) ([] : List Int) .shallow)]) rfl rfl ⟨⟨.inl rfl, rfl, trivial⟩, ⟨rfl, rfl⟩, trivial⟩ ⟨⟨⟨rfl, rfl⟩, rfl⟩, ⟨rfl, rfl⟩, rfl, trivial⟩) ?_
    rintro ⟨v, r_1, out⟩ J1 he
    refine And.intro (fun hb => ?_) (fun hb => ?_)
    · have he := ok_t he hb
      obtain ⟨r2_, hr, he⟩ := ok_bind he
      refine ⟨r2_, hr, ?_⟩
      refine And.intro (fun hb => ?_) (fun hb => ?_)
      · have he := ok_t he hb
        refine And.intro (fun hb => ?_) (fun hb => ?_)
        · have he := ok_t he hb
          have he := ok_rq he
          refine And.intro he.1 ?_
          have he := he.2
          have he := ok_rq he
          refine And.intro he.1 ?_
          have he := he.2
          have he := ok_some he
          exact ⟨((v + (1:Int)), r2_.2, (out ++ [v])), he, (leads_ren [(10000000, 21)] (l := [(0, .c (.ptr 0 0)), (3, .c (.own 10000000)), (4, .c (.int .i64 (v + (1:Int))))]) (st' := [(0, .rc [.imm (.int .u8) r2_.2.1, .int .i64 r2_.2.2]), (10000000, .sl 3 (.int .i64) (out ++ [v]) .shallow)]) rfl rfl ⟨⟨.inl rfl, rfl, trivial⟩, ⟨rfl, rfl⟩, trivial⟩ ⟨⟨⟨rfl, rfl⟩, rfl⟩, ⟨rfl, rfl⟩, rfl, trivial⟩)⟩
        · have he := ok_f he hb
          have he := ok_rq he
          refine And.intro he.1 ?_
          have he := he.2
          have he := ok_some he
          exact ⟨((v + (1:Int)), r2_.2, out), he, (leads_ren [] (l := [(0, .c (.ptr 0 0)), (3, .c (.own 10000000)), (4, .c (.int .i64 (v + (1:Int))))]) (st' := [(0, .rc [.imm (.int .u8) r2_.2.1, .int .i64 r2_.2.2]), (10000000, .sl 3 (.int .i64) out .shallow)]) rfl rfl ⟨⟨.inl rfl, rfl, trivial⟩, ⟨rfl, rfl⟩, trivial⟩ ⟨⟨⟨rfl, rfl⟩, rfl⟩, ⟨rfl, rfl⟩, rfl, trivial⟩)⟩
      · have he := ok_f he hb
        have he := ok_rq he
        refine And.intro he.1 ?_
        have he := he.2
        have he := ok_some he
        exact ⟨((v + (1:Int)), r2_.2, out), he, (leads_ren [] (l := [(0, .c (.ptr 0 0)), (3, .c (.own 10000000)), (4, .c (.int .i64 (v + (1:Int))))]) (st' := [(0, .rc [.imm (.int .u8) r2_.2.1, .int .i64 r2_.2.2]), (10000000, .sl 3 (.int .i64) out .shallow)]) rfl rfl ⟨⟨.inl rfl, rfl, trivial⟩, ⟨rfl, rfl⟩, trivial⟩ ⟨⟨⟨rfl, rfl⟩, rfl⟩, ⟨rfl, rfl⟩, rfl, trivial⟩)⟩
    · have he := ok_f he hb
      exact ⟨(r_1, out), ok_up he, (leads_ren [(10001000, 10000000)] (l := [(0, .c (.ptr 0 0)), (3, .c (.own 10001000))]) (st' := [(0, .rc [.imm (.int .u8) r_1.1, .int .i64 r_1.2]), (10001000, .sl 3 (.int .i64) out .shallow)]) rfl rfl ⟨⟨.inl rfl, rfl, trivial⟩, ⟨rfl, rfl⟩, trivial⟩ ⟨⟨⟨rfl, rfl⟩, rfl⟩, ⟨rfl, rfl⟩, trivial⟩)⟩

noncomputable def c_spec_l12Signed : Con := fun args st => match args, st with
  | [.c (.ptr 0 0)], [(0, .rc [.imm (.int .u8) r__0, .int .i64 r__1])] => .opt (((List Int) × Int) × (List Int)) (spec_l12Signed (r__0, r__1)) (fun r => .ret (.c (.own 900)) [(0, .rc [.imm (.int .u8) r.1.1, .int .i64 r.1.2]), (900, .sl 3 (.int .i64) r.2 .shallow)])
  | _, _ => .fail

noncomputable def C_spec_l12Signed : Cfg := { y := tys, n := 25, h := 1, tab := [(68, c_spec_l17Rd_pick), (70, c_spec_l12Draw)], cut := [], hand := [], good := [], deep := [], sched := [] }

theorem t_spec_l12Signed : TabOk Try.prog C_spec_l12Signed := by
  refine tabOk_of ?_
  simp only [C_spec_l12Signed, List.forall_mem_cons]
  exact ⟨k_spec_l17Rd_pick, k_spec_l12Draw, fun p h => by cases h⟩

theorem k_spec_l12Signed : Entry Try.prog 66 c_spec_l12Signed := by
  refine entry_by (C := C_spec_l12Signed) mixed tys_ok t_spec_l12Signed (fn := Try.f66) (c := bd Try.f66) (by kernel_rfl) (by kernel_rfl) (by kernel_rfl) (by kernel_rfl) ?_
  intro args st k he
  unfold c_spec_l12Signed at he
  split at he
  rotate_left
  · exact he.elim
  rename_i r__0 r__1
  have he : Ok (spec_l12Signed (r__0, r__1)) (fun r => k (.c (.own 900)) [(0, .rc [.imm (.int .u8) r.1.1, .int .i64 r.1.2]), (900, .sl 3 (.int .i64) r.2 .shallow)]) := he
  refine ⟨rfl, rfl, ?_⟩
  obtain ⟨r1_, hr, he⟩ := ok_bind he
  refine ⟨r1_, hr, ?_⟩
  refine loop_model mixed tys_ok t_spec_l12Signed (S := Int × ((List Int) × Int) × (List Int)) (I := (fun (i, r_1, out) => (envOf [(0, .c (.ptr 0 0)), (3, .c (.own 10000000)), (4, .c (.int .i64 i))], [(0, .rc [.imm (.int .u8) r_1.1, .int .i64 r_1.2]), (10000000, .sl 3 (.int .i64) out .shallow)]))) (f := spec_l12Signed_l1) (K := (fun r => k (.c (.own 900)) [(0, .rc [.imm (.int .u8) r.1.1, .int .i64 r.1.2]), (900, .sl 3 (.int .i64) r.2 .shallow)])) he (leads_ren [(10000000, 7900)] (l := [(0, .c (.ptr 0 0)), (3, .c (.own 10000000)), (4, .c (.int .i64 (0:Int)))]) (st' := [(0, .rc [.imm (.int .u8) r1_.1.1, .int .i64 r1_.1.2]), (10000000, .sl 3 (.int .i64) r1_.2 .shallow)]) rfl rfl ⟨⟨.inl rfl, rfl, trivial⟩, ⟨rfl, rfl⟩, trivial⟩ ⟨⟨⟨rfl, rfl⟩, rfl⟩, ⟨rfl, rfl⟩, rfl, trivial⟩) ?_
  rintro ⟨i, r_1, out⟩ J1 he
  refine And.intro (fun hb => ?_) (fun hb => ?_)
  · have he := ok_t he hb
    obtain ⟨r3_, hr, he⟩ := ok_bind he
    refine ⟨r3_, hr, ?_⟩
    refine And.intro (fun hb => ?_) (fun hb => ?_)
    · have he := ok_t he hb
      have he := ok_rq he
      refine And.intro he.1 ?_
      have he := he.2
      have he := ok_rq he
      refine And.intro he.1 ?_
      have he := he.2
      have he := ok_rq he
      refine And.intro he.1 ?_
      have he := he.2
      have he := ok_rq he
      refine And.intro he.1 ?_
      have he := he.2
      have he := ok_some he
      exact ⟨((i + (1:Int)), r3_.2, (out.set i.toNat (0 - (out.getD i.toNat 0)))), he, (leads_ren [] (l := [(0, .c (.ptr 0 0)), (3, .c (.own 10000000)), (4, .c (.int .i64 (i + (1:Int))))]) (st' := [(0, .rc [.imm (.int .u8) r3_.2.1, .int .i64 r3_.2.2]), (10000000, .sl 3 (.int .i64) (out.set i.toNat (0 - (out.getD i.toNat 0))) .shallow)]) rfl rfl ⟨⟨.inl rfl, rfl, trivial⟩, ⟨rfl, rfl⟩, trivial⟩ ⟨⟨⟨rfl, rfl⟩, rfl⟩, ⟨rfl, rfl⟩, rfl, trivial⟩)⟩
    · have he := ok_f he hb
      have he := ok_rq he
      refine And.intro he.1 ?_
      have he := he.2
      have he := ok_some he
      exact ⟨((i + (1:Int)), r3_.2, out), he, (leads_ren [] (l := [(0, .c (.ptr 0 0)), (3, .c (.own 10000000)), (4, .c (.int .i64 (i + (1:Int))))]) (st' := [(0, .rc [.imm (.int .u8) r3_.2.1, .int .i64 r3_.2.2]), (10000000, .sl 3 (.int .i64) out .shallow)]) rfl rfl ⟨⟨.inl rfl, rfl, trivial⟩, ⟨rfl, rfl⟩, trivial⟩ ⟨⟨⟨rfl, rfl⟩, rfl⟩, ⟨rfl, rfl⟩, rfl, trivial⟩)⟩
  · have he := ok_f he hb
    have he := ok_some he
    exact ⟨rfl, _, _, (leads_ren [(900, 10000000)] (l := [(2, .c (.own 900))]) (st' := [(0, .rc [.imm (.int .u8) r_1.1, .int .i64 r_1.2]), (900, .sl 3 (.int .i64) out .shallow)]) rfl rfl ⟨⟨.inl rfl, rfl, trivial⟩, ⟨rfl, rfl⟩, trivial⟩ ⟨⟨rfl, rfl⟩, trivial⟩), he⟩

noncomputable def c_spec_l1Values : Con := fun args st => match args, st with
  | [.c (.ptr 0 0)], [(0, .rc [.imm (.int .u8) r__0, .int .i64 r__1])] => .opt (((List Int) × Int) × (List Bool)) (spec_l1Values (r__0, r__1)) (fun r => .ret (.c (.own 900)) [(0, .rc [.imm (.int .u8) r.1.1, .int .i64 r.1.2]), (900, .sl 4 .bool r.2 .shallow)])
  | _, _ => .fail

noncomputable def C_spec_l1Values : Cfg := { y := tys, n := 22, h := 1, tab := [(68, c_spec_l17Rd_pick)], cut := [6], hand := [], good := [], deep := [], sched := [] }

theorem t_spec_l1Values : TabOk Try.prog C_spec_l1Values := by
  refine tabOk_of ?_
  simp only [C_spec_l1Values, List.forall_mem_cons]
  exact ⟨k_spec_l17Rd_pick, fun p h => by cases h⟩

theorem k_spec_l1Values : Entry Try.prog 67 c_spec_l1Values := by
  refine entry_by (C := C_spec_l1Values) mixed tys_ok t_spec_l1Values (fn := Try.f67) (c := bd Try.f67) (by kernel_rfl) (by kernel_rfl) (by kernel_rfl) (by kernel_rfl) ?_
  intro args st k he
  unfold c_spec_l1Values at he
  split at he
  rotate_left
  · exact he.elim
  rename_i r__0 r__1
  have he : Ok (spec_l1Values (r__0, r__1)) (fun r => k (.c (.own 900)) [(0, .rc [.imm (.int .u8) r.1.1, .int .i64 r.1.2]), (900, .sl 4 .bool r.2 .shallow)]) := he
  refine ⟨rfl, rfl, ?_⟩
  refine seq_model mixed tys_ok t_spec_l1Values (S := ((List Int) × Int) × (List Bool)) (I := (fun (r_2, out1) => (envOf [(0, .c (.ptr 0 0)), (3, .c (.own 10001000))], [(0, .rc [.imm (.int .u8) r_2.1, .int .i64 r_2.2]), (10001000, .sl 4 .bool out1 .shallow)]))) (B := fun s => Ok (spec_l1Values_j1 s) (fun r => k (.c (.own 900)) [(0, .rc [.imm (.int .u8) r.1.1, .int .i64 r.1.2]), (900, .sl 4 .bool r.2 .shallow)])) ?_ ?_
  · rintro ⟨r_2, out1⟩ he
    obtain ⟨r3_, hr, he⟩ := ok_bind he
    refine ⟨r3_, hr, ?_⟩
    refine And.intro (fun hb => ?_) (fun hb => ?_)
    · have he := ok_t he hb
      have he := ok_rq he
      refine And.intro he.1 ?_
      have he := he.2
      have he := ok_some he
      exact ⟨rfl, _, _, (leads_ren [(900, 20)] (l := [(2, .c (.own 900))]) (st' := [(0, .rc [.imm (.int .u8) r3_.2.1, .int .i64 r3_.2.2]), (900, .sl 4 .bool (out1.take (11:Int).toNat) .shallow)]) rfl rfl ⟨⟨.inl rfl, rfl, trivial⟩, ⟨rfl, rfl⟩, trivial⟩ ⟨⟨rfl, rfl⟩, trivial⟩), he⟩
    · have he := ok_f he hb
      have he := ok_some he
      exact ⟨rfl, _, _, (leads_ren [(900, 10001000)] (l := [(2, .c (.own 900))]) (st' := [(0, .rc [.imm (.int .u8) r3_.2.1, .int .i64 r3_.2.2]), (900, .sl 4 .bool out1 .shallow)]) rfl rfl ⟨⟨.inl rfl, rfl, trivial⟩, ⟨rfl, rfl⟩, trivial⟩ ⟨⟨rfl, rfl⟩, trivial⟩), he⟩
  · skip
    refine loop_model mixed tys_ok t_spec_l1Values (S := Int × ((List Int) × Int) × (List Bool)) (I := (fun (i, r_1, out) => (envOf [(0, .c (.ptr 0 0)), (3, .c (.own 10000000)), (4, .c (.int .i64 i))], [(0, .rc [.imm (.int .u8) r_1.1, .int .i64 r_1.2]), (10000000, .sl 4 .bool out .shallow)]))) (f := spec_l1Values_l1) (K := (fun r => k (.c (.own 900)) [(0, .rc [.imm (.int .u8) r.1.1, .int .i64 r.1.2]), (900, .sl 4 .bool r.2 .shallow)])) he (leads_ren [(10000000, 5)] (l := [(0, .c (.ptr 0 0)), (3, .c (.own 10000000)), (4, .c (.int .i64 (0:Int)))]) (st' := [(0, .rc [.imm (.int .u8) (r__0, r__1).1, .int .i64 (r__0, r__1).2]), (10000000, .sl 4 .bool ([] : List Bool) .shallow)]) rfl rfl ⟨⟨.inl rfl, rfl, trivial⟩, ⟨rfl, rfl⟩, trivial⟩ ⟨⟨⟨rfl, rfl⟩, rfl⟩, ⟨rfl, rfl⟩, rfl, trivial⟩) ?_
    rintro ⟨i, r_1, out⟩ J1 he
    refine And.intro (fun hb => ?_) (fun hb => ?_)
    · have he := ok_t he hb
      obtain ⟨r2_, hr, he⟩ := ok_bind he
      refine ⟨r2_, hr, ?_⟩
      have he := ok_rq he
      refine And.intro he.1 ?_
      have he := he.2
      have he := ok_rq he
      refine And.intro he.1 ?_
      have he := he.2
      have he := ok_some he
      exact ⟨((i + (1:Int)), r2_.2, (out ++ [(r2_.1 == (0:Int))])), he, (leads_ren [(10000000, 15)] (l := [(0, .c (.ptr 0 0)), (3, .c (.own 10000000)), (4, .c (.int .i64 (i + (1:Int))))]) (st' := [(0, .rc [.imm (.int .u8) r2_.2.1, .int .i64 r2_.2.2]), (10000000, .sl 4 .bool (out ++ [(r2_.1 == (0:Int))]) .shallow)]) rfl rfl ⟨⟨.inl rfl, rfl, trivial⟩, ⟨rfl, rfl⟩, trivial⟩ ⟨⟨⟨rfl, rfl⟩, rfl⟩, ⟨rfl, rfl⟩, rfl, trivial⟩)⟩
    · have he := ok_f he hb
      exact ⟨(r_1, out), ok_up he, (leads_ren [(10001000, 10000000)] (l := [(0, .c (.ptr 0 0)), (3, .c (.own 10001000))]) (st' := [(0, .rc [.imm (.int .u8) r_1.1, .int .i64 r_1.2]), (10001000, .sl 4 .bool out .shallow)]) rfl rfl ⟨⟨.inl rfl, rfl, trivial⟩, ⟨rfl, rfl⟩, trivial⟩ ⟨⟨⟨rfl, rfl⟩, rfl⟩, ⟨rfl, rfl⟩, trivial⟩)⟩

noncomputable def c_spec_DrawCubeHolds : Con := fun args st => match args, st with
  | [.c (.imm (.int .u8) code)], [] => .opt ((List Int) × (List Bool)) (spec_DrawCubeHolds code) (fun r => .ret (.tup [.c (.own 900), .c (.own 901)]) [(900, .sl 3 (.int .i64) r.1 .shallow), (901, .sl 4 .bool r.2 .shallow)])
  | _, _ => .fail

noncomputable def C_spec_DrawCubeHolds : Cfg := { y := tys, n := 50, h := 0, tab := [(65, c_spec_l17Open), (66, c_spec_l12Signed), (67, c_spec_l1Values), (68, c_spec_l17Rd_pick), (69, c_spec_l1Abs)], cut := [10], hand := [], good := [], deep := [], sched := [] }

theorem t_spec_DrawCubeHolds : TabOk Try.prog C_spec_DrawCubeHolds := by
  refine tabOk_of ?_
  simp only [C_spec_DrawCubeHolds, List.forall_mem_cons]
  exact ⟨k_spec_l17Open, k_spec_l12Signed, k_spec_l1Values, k_spec_l17Rd_pick, k_spec_l1Abs, fun p h => by cases h⟩

theorem k_spec_DrawCubeHolds : Entry Try.prog 27 c_spec_DrawCubeHolds := by
  refine entry_by (C := C_spec_DrawCubeHolds) mixed tys_ok t_spec_DrawCubeHolds (fn := Try.f27) (c := bd Try.f27) (by kernel_rfl) (by kernel_rfl) (by kernel_rfl) (by kernel_rfl) ?_
  intro args st k he
  unfold c_spec_DrawCubeHolds at he
  split at he
  rotate_left
  · exact he.elim
  rename_i code
  have he : Ok (spec_DrawCubeHolds code) (fun r => k (.tup [.c (.own 900), .c (.own 901)]) [(900, .sl 3 (.int .i64) r.1 .shallow), (901, .sl 4 .bool r.2 .shallow)]) := he
  refine ⟨rfl, rfl, ?_⟩
  obtain ⟨r1_, hr, he⟩ := ok_bind he
  refine ⟨r1_, hr, ?_⟩
  obtain ⟨r2_, hr, he⟩ := ok_bind he
  refine ⟨r2_, hr, ?_⟩
  obtain ⟨r3_, hr, he⟩ := ok_bind he
  refine ⟨r3_, hr, ?_⟩
  refine seq_model mixed tys_ok t_spec_DrawCubeHolds (S := (List Bool)) (I := (fun values1 => (envOf [(5, .c (.own 10001000)), (6, .c (.own 10001001))], [(10001000, .sl 3 (.int .i64) r2_.2 .shallow), (10001001, .sl 4 .bool values1 .shallow)]))) (B := fun s => Ok (spec_DrawCubeHolds_j1 r2_ s) (fun r => k (.tup [.c (.own 900), .c (.own 901)]) [(900, .sl 3 (.int .i64) r.1 .shallow), (901, .sl 4 .bool r.2 .shallow)])) ?_ ?_
  · rintro values1 he
    have he := ok_some he
    exact ⟨rfl, _, _, (leads_ren [(900, 10001000), (901, 10001001)] (l := [(2, .c (.own 900)), (3, .c (.own 901))]) (st' := [(900, .sl 3 (.int .i64) r2_.2 .shallow), (901, .sl 4 .bool values1 .shallow)]) rfl rfl ⟨⟨rfl, rfl⟩, ⟨rfl, rfl⟩, trivial⟩ ⟨⟨rfl, rfl⟩, ⟨rfl, rfl⟩, trivial⟩), he⟩
  · skip
    refine loop_model mixed tys_ok t_spec_DrawCubeHolds (S := Int × ((List Int) × Int) × (List Bool)) (I := (fun (i, r_, values) => (envOf [(4, .c (.ptr 10000000 0)), (5, .c (.own 10000001)), (6, .c (.own 10000002)), (7, .c (.int .i64 i))], [(10000000, .rc [.imm (.int .u8) r_.1, .int .i64 r_.2]), (10000001, .sl 3 (.int .i64) r2_.2 .shallow), (10000002, .sl 4 .bool values .shallow)]))) (f := spec_DrawCubeHolds_l1 r2_) (K := (fun r => k (.tup [.c (.own 900), .c (.own 901)]) [(900, .sl 3 (.int .i64) r.1 .shallow), (901, .sl 4 .bool r.2 .shallow)])) he (leads_ren [(10000000, 11900), (10000001, 13900), (10000002, 15900)] (l := [(4, .c (.ptr 10000000 0)), (5, .c (.own 10000001)), (6, .c (.own 10000002)), (7, .c (.int .i64 (0:Int)))]) (st' := [(10000000, .rc [.imm (.int .u8) r3_.1.1, .int .i64 r3_.1.2]), (10000001, .sl 3 (.int .i64) r2_.2 .shallow), (10000002, .sl 4 .bool r3_.2 .shallow)]) rfl rfl ⟨⟨.inl rfl, rfl, trivial⟩, ⟨rfl, rfl⟩, ⟨rfl, rfl⟩, trivial⟩ ⟨⟨⟨rfl, rfl⟩, rfl⟩, ⟨rfl, rfl⟩, ⟨rfl, rfl⟩, rfl, trivial⟩) ?_
    rintro ⟨i, r_, values⟩ J1 he
    refine And.intro (fun hb => ?_) (fun hb => ?_)
    · have he := ok_t he hb
      obtain ⟨r6_, hr, he⟩ := ok_bind he
      refine ⟨r6_, hr, ?_⟩
      refine And.intro (fun hb => ?_) (fun hb => ?_)
      · have he := ok_t he hb
        have he := ok_rq he
        refine And.intro he.1 ?_
        have he := he.2
        obtain ⟨r7_, hr, he⟩ := ok_bind he
        refine ⟨r7_, hr, ?_⟩
        refine And.intro (fun hb => ?_) (fun hb => ?_)
        · have he := ok_t he hb
          refine And.intro (fun hb => ?_) (fun hb => ?_)
          · have he := ok_t he hb
            have he := ok_rq he
            refine And.intro he.1 ?_
            have he := he.2
            have he := ok_rq he
            refine And.intro he.1 ?_
            have he := he.2
            have he := ok_rq he
            refine And.intro he.1 ?_
            have he := he.2
            have he := ok_rq he
            refine And.intro he.1 ?_
            have he := he.2
            have he := ok_some he
            exact ⟨((i + (1:Int)), r6_.2, (values.set (r7_ - (1:Int)).toNat (decide ((0:Int) < (r2_.2.getD i.toNat 0))))), he, (leads_ren [] (l := [(4, .c (.ptr 10000000 0)), (5, .c (.own 10000001)), (6, .c (.own 10000002)), (7, .c (.int .i64 (i + (1:Int))))]) (st' := [(10000000, .rc [.imm (.int .u8) r6_.2.1, .int .i64 r6_.2.2]), (10000001, .sl 3 (.int .i64) r2_.2 .shallow), (10000002, .sl 4 .bool (values.set (r7_ - (1:Int)).toNat (decide ((0:Int) < (r2_.2.getD i.toNat 0)))) .shallow)]) rfl rfl ⟨⟨.inl rfl, rfl, trivial⟩, ⟨rfl, rfl⟩, ⟨rfl, rfl⟩, trivial⟩ ⟨⟨⟨rfl, rfl⟩, rfl⟩, ⟨rfl, rfl⟩, ⟨rfl, rfl⟩, rfl, trivial⟩)⟩
          · have he := ok_f he hb
            have he := ok_rq he
            refine And.intro he.1 ?_
            have he := he.2
            have he := ok_some he
            exact ⟨((i + (1:Int)), r6_.2, values), he, (leads_ren [] (l := [(4, .c (.ptr 10000000 0)), (5, .c (.own 10000001)), (6, .c (.own 10000002)), (7, .c (.int .i64 (i + (1:Int))))]) (st' := [(10000000, .rc [.imm (.int .u8) r6_.2.1, .int .i64 r6_.2.2]), (10000001, .sl 3 (.int .i64) r2_.2 .shallow), (10000002, .sl 4 .bool values .shallow)]) rfl rfl ⟨⟨.inl rfl, rfl, trivial⟩, ⟨rfl, rfl⟩, ⟨rfl, rfl⟩, trivial⟩ ⟨⟨⟨rfl, rfl⟩, rfl⟩, ⟨rfl, rfl⟩, ⟨rfl, rfl⟩, rfl, trivial⟩)⟩
        · have he := ok_f he hb
          have he := ok_rq he
          refine And.intro he.1 ?_
          have he := he.2
          have he := ok_some he
          exact ⟨((i + (1:Int)), r6_.2, values), he, (leads_ren [] (l := [(4, .c (.ptr 10000000 0)), (5, .c (.own 10000001)), (6, .c (.own 10000002)), (7, .c (.int .i64 (i + (1:Int))))]) (st' := [(10000000, .rc [.imm (.int .u8) r6_.2.1, .int .i64 r6_.2.2]), (10000001, .sl 3 (.int .i64) r2_.2 .shallow), (10000002, .sl 4 .bool values .shallow)]) rfl rfl ⟨⟨.inl rfl, rfl, trivial⟩, ⟨rfl, rfl⟩, ⟨rfl, rfl⟩, trivial⟩ ⟨⟨⟨rfl, rfl⟩, rfl⟩, ⟨rfl, rfl⟩, ⟨rfl, rfl⟩, rfl, trivial⟩)⟩
      · have he := ok_f he hb
        exact ⟨values, ok_up he, (leads_ren [(10001000, 10000001), (10001001, 10000002)] (l := [(5, .c (.own 10001000)), (6, .c (.own 10001001))]) (st' := [(10001000, .sl 3 (.int .i64) r2_.2 .shallow), (10001001, .sl 4 .bool values .shallow)]) rfl rfl ⟨⟨rfl, rfl⟩, ⟨rfl, rfl⟩, trivial⟩ ⟨⟨rfl, rfl⟩, ⟨rfl, rfl⟩, trivial⟩)⟩
    · have he := ok_f he hb
      exact ⟨values, ok_up he, (leads_ren [(10001000, 10000001), (10001001, 10000002)] (l := [(5, .c (.own 10001000)), (6, .c (.own 10001001))]) (st' := [(10001000, .sl 3 (.int .i64) r2_.2 .shallow), (10001001, .sl 4 .bool values .shallow)]) rfl rfl ⟨⟨rfl, rfl⟩, ⟨rfl, rfl⟩, trivial⟩ ⟨⟨rfl, rfl⟩, ⟨rfl, rfl⟩, trivial⟩)⟩

noncomputable def c_laws_FnCubeHolds : Con := fun args st => match args, st with
  | [.c (.imm (.int .u8) a0)], [] => .opt (Bool) (laws_FnCubeHolds a0) (fun r => .ret (.c (.bool r)) [])
  | _, _ => .fail

noncomputable def C_laws_FnCubeHolds : Cfg := { y := tys, n := 71, h := 0, tab := [(15, c_spec_CubeHolds), (18, c_impl_CubeHolds), (27, c_spec_DrawCubeHolds)], cut := [], hand := [], good := [], deep := [], sched := [] }

theorem t_laws_FnCubeHolds : TabOk Try.prog C_laws_FnCubeHolds := by
  refine tabOk_of ?_
  simp only [C_laws_FnCubeHolds, List.forall_mem_cons]
  exact ⟨k_spec_CubeHolds, k_impl_CubeHolds, k_spec_DrawCubeHolds, fun p h => by cases h⟩

theorem k_laws_FnCubeHolds : Entry Try.prog 5 c_laws_FnCubeHolds := by
  refine entry_by (C := C_laws_FnCubeHolds) mixed tys_ok t_laws_FnCubeHolds (fn := Try.f5) (c := bd Try.f5) (by kernel_rfl) (by kernel_rfl) (by kernel_rfl) (by kernel_rfl) ?_
  intro args st k he
  unfold c_laws_FnCubeHolds at he
  split at he
  rotate_left
  · exact he.elim
  rename_i a0
  have he : Ok (laws_FnCubeHolds a0) (fun r => k (.c (.bool r)) []) := he
  refine ⟨rfl, rfl, ?_⟩
  refine And.intro (fun hb => ?_) (fun hb => ?_)
  · have he := ok_t he hb
    have he := ok_some he
    exact ⟨rfl, _, _, Leads.refl _ _, he⟩
  · have he := ok_f he hb
    obtain ⟨r1_, hr, he⟩ := ok_bind he
    refine ⟨r1_, hr, ?_⟩
    obtain ⟨r2_, hr, he⟩ := ok_bind he
    refine ⟨r2_, hr, ?_⟩
    obtain ⟨r3_, hr, he⟩ := ok_bind he
    refine ⟨r3_, hr, ?_⟩
    refine And.intro (fun hb => ?_) (fun hb => ?_)
    · have he := ok_f he hb
      obtain ⟨r4_, hr, he⟩ := ok_bind he
      refine ⟨r4_, hr, ?_⟩
      refine And.intro (fun hb => ?_) (fun hb => ?_)
      · have he := ok_f he hb
        refine And.intro (fun hb => ?_) (fun hb => ?_)
        · have he := ok_t he hb
          obtain ⟨r5_, hr, he⟩ := ok_bind he
          refine ⟨r5_, hr, ?_⟩
          refine And.intro (fun hb => ?_) (fun hb => ?_)
          · have he := ok_t he hb
            obtain ⟨r6_, hr, he⟩ := ok_bind he
            refine ⟨r6_, hr, ?_⟩
            have he := ok_some he
            exact ⟨rfl, _, _, (leads_ren [] (l := [(2, .c (.bool (r6_ == ((r1_.2.length:Int) == (12:Int)))))]) (st' := []) rfl rfl trivial ⟨.inl rfl, trivial⟩), he⟩
          · have he := ok_f he hb
            have he := ok_some he
            exact ⟨rfl, _, _, (leads_ren [] (l := [(2, .c (.bool false))]) (st' := []) rfl rfl trivial ⟨.inr rfl, trivial⟩), he⟩
        · have he := ok_f he hb
          refine loop_model mixed tys_ok t_laws_FnCubeHolds (S := Int) (I := (fun i => (envOf [(3, .c (.own 10000000)), (4, .c (.own 10000001)), (6, .c (.int .i64 i))], [(10000000, .sl 3 (.int .i64) r1_.1 .shallow), (10000001, .sl 4 .bool r1_.2 .shallow)]))) (f := laws_FnCubeHolds_l1 r1_) (K := (fun r => k (.c (.bool r)) [])) he (leads_ren [(10000000, 14900), (10000001, 14901)] (l := [(3, .c (.own 10000000)), (4, .c (.own 10000001)), (6, .c (.int .i64 (0:Int)))]) (st' := [(10000000, .sl 3 (.int .i64) r1_.1 .shallow), (10000001, .sl 4 .bool r1_.2 .shallow)]) rfl rfl ⟨⟨rfl, rfl⟩, ⟨rfl, rfl⟩, trivial⟩ ⟨⟨rfl, rfl⟩, ⟨rfl, rfl⟩, rfl, trivial⟩) ?_
          rintro i J1 he
          refine And.intro (fun hb => ?_) (fun hb => ?_)
          · have he := ok_t he hb
            have he := ok_rq he
            refine And.intro he.1 ?_
            have he := he.2
            have he := ok_rq he
            refine And.intro he.1 ?_
            have he := he.2
            have he := ok_rq he
            refine And.intro he.1 ?_
            have he := he.2
            have he := ok_rq he
            refine And.intro he.1 ?_
            have he := he.2
            obtain ⟨r11_, hr, he⟩ := ok_bind he
            refine ⟨r11_, hr, ?_⟩
            refine And.intro (fun hb => ?_) (fun hb => ?_)
            · have he := ok_t he hb
              have he := ok_some he
              exact ⟨rfl, _, _, (leads_ren [] (l := [(2, .c (.bool false))]) (st' := []) rfl rfl trivial ⟨.inr rfl, trivial⟩), he⟩
            · have he := ok_f he hb
              have he := ok_rq he
              refine And.intro he.1 ?_
              have he := he.2
              have he := ok_some he
              exact ⟨(i + (1:Int)), he, (leads_ren [] (l := [(3, .c (.own 10000000)), (4, .c (.own 10000001)), (6, .c (.int .i64 (i + (1:Int))))]) (st' := [(10000000, .sl 3 (.int .i64) r1_.1 .shallow), (10000001, .sl 4 .bool r1_.2 .shallow)]) rfl rfl ⟨⟨rfl, rfl⟩, ⟨rfl, rfl⟩, trivial⟩ ⟨⟨rfl, rfl⟩, ⟨rfl, rfl⟩, rfl, trivial⟩)⟩
          · have he := ok_f he hb
            have he := ok_some he
            exact ⟨rfl, _, _, (leads_ren [] (l := [(2, .c (.bool true))]) (st' := []) rfl rfl trivial ⟨.inr rfl, trivial⟩), he⟩
      · have he := ok_t he hb
        obtain ⟨r7_, hr, he⟩ := ok_bind he
        refine ⟨r7_, hr, ?_⟩
        refine And.intro (fun hb => ?_) (fun hb => ?_)
        · have he := ok_t he hb
          obtain ⟨r8_, hr, he⟩ := ok_bind he
          refine ⟨r8_, hr, ?_⟩
          have he := ok_some he
          exact ⟨rfl, _, _, (leads_ren [] (l := [(2, .c (.bool (r8_ == ((r1_.2.length:Int) == (12:Int)))))]) (st' := []) rfl rfl trivial ⟨.inl rfl, trivial⟩), he⟩
        · have he := ok_f he hb
          have he := ok_some he
          exact ⟨rfl, _, _, (leads_ren [] (l := [(2, .c (.bool false))]) (st' := []) rfl rfl trivial ⟨.inr rfl, trivial⟩), he⟩
    · have he := ok_t he hb
      obtain ⟨r9_, hr, he⟩ := ok_bind he
      refine ⟨r9_, hr, ?_⟩
      refine And.intro (fun hb => ?_) (fun hb => ?_)
      · have he := ok_t he hb
        obtain ⟨r10_, hr, he⟩ := ok_bind he
        refine ⟨r10_, hr, ?_⟩
        have he := ok_some he
        exact ⟨rfl, _, _, (leads_ren [] (l := [(2, .c (.bool (r10_ == ((r1_.2.length:Int) == (12:Int)))))]) (st' := []) rfl rfl trivial ⟨.inl rfl, trivial⟩), he⟩
      · have he := ok_f he hb
        have he := ok_some he
        exact ⟨rfl, _, _, (leads_ren [] (l := [(2, .c (.bool false))]) (st' := []) rfl rfl trivial ⟨.inr rfl, trivial⟩), he⟩

noncomputable def c_laws_szTermS : Con := fun args st => match args, st with
  | [.c (.imm (.pair (.int .i64) (.int .i64)) a), .c (.int .i64 left)], [] => .opt (Int) (laws_szTermS a left) (fun r => .ret (.c (.int .i64 r)) [])
  | _, _ => .fail

noncomputable def C_laws_szTermS : Cfg := { y := tys, n := 12, h := 0, tab := [], cut := [], hand := [], good := [], deep := [], sched := [] }

theorem t_laws_szTermS : TabOk Try.prog C_laws_szTermS := tabOk_of (fun p h => by cases h)

theorem k_laws_szTermS : Entry Try.prog 107 c_laws_szTermS := by
  refine entry_by (C := C_laws_szTermS) mixed tys_ok t_laws_szTermS (fn := Try.f107) (c := bd Try.f107) (by kernel_rfl) (by kernel_rfl) (by kernel_rfl) (by kernel_rfl) ?_
  intro args st k he
  unfold c_laws_szTermS at he
  split at he
  rotate_left
  · exact he.elim
  rename_i a left
  have he : Ok (laws_szTermS a left) (fun r => k (.c (.int .i64 r)) []) := he
  refine ⟨rfl, rfl, ?_⟩
  have he := ok_rq he
  refine And.intro he.1 ?_
  have he := he.2
  refine And.intro (fun hb => ?_) (fun hb => ?_)
  · have he := ok_t he hb
    have he := ok_some he
    exact ⟨rfl, _, _, Leads.refl _ _, he⟩
  · have he := ok_f he hb
    have he := ok_some he
    exact ⟨rfl, _, _, Leads.refl _ _, he⟩

noncomputable def c_laws_szConstraint : Con := fun args st => match args, st with
  | [.agg [.imm (.pair (.int .i64) (.int .i64)) a_0, .int .i64 a_1], .c (.int .i64 left)], [] => .opt (Int) (laws_szConstraint (a_0, a_1) left) (fun r => .ret (.c (.int .i64 r)) [])
  | _, _ => .fail

noncomputable def C_laws_szConstraint : Cfg := { y := tys, n := 12, h := 0, tab := [(107, c_laws_szTermS)], cut := [], hand := [], good := [], deep := [], sched := [] }

theorem t_laws_szConstraint : TabOk Try.prog C_laws_szConstraint := by
  refine tabOk_of ?_
  simp only [C_laws_szConstraint, List.forall_mem_cons]
  exact ⟨k_laws_szTermS, fun p h => by cases h⟩

theorem k_laws_szConstraint : Entry Try.prog 77 c_laws_szConstraint := by
  refine entry_by (C := C_laws_szConstraint) mixed tys_ok t_laws_szConstraint (fn := Try.f77) (c := bd Try.f77) (by kernel_rfl) (by kernel_rfl) (by kernel_rfl) (by kernel_rfl) ?_
  intro args st k he
  unfold c_laws_szConstraint at he
  split at he
  rotate_left
  · exact he.elim
  rename_i a_0 a_1 left
  have he : Ok (laws_szConstraint (a_0, a_1) left) (fun r => k (.c (.int .i64 r)) []) := he
  refine ⟨rfl, rfl, ?_⟩
  obtain ⟨r1_, hr, he⟩ := ok_bind he
  refine ⟨r1_, hr, ?_⟩
  refine And.intro (fun hb => ?_) (fun hb => ?_)
  · have he := ok_t he hb
    have he := ok_some he
    exact ⟨rfl, _, _, (leads_ren [] (l := [(4, .c (.int .i64 (-1:Int)))]) (st' := []) rfl rfl trivial ⟨rfl, trivial⟩), he⟩
  · have he := ok_f he hb
    have he := ok_some he
    exact ⟨rfl, _, _, (leads_ren [] (l := [(4, .c (.int .i64 r1_))]) (st' := []) rfl rfl trivial ⟨rfl, trivial⟩), he⟩

noncomputable def c_laws_szConstraintS : Con := fun args st => match args, st with
  | [.c (.imm (.pair (.sl (.pair (.int .i64) (.int .i64))) (.int .i64)) a), .c (.int .i64 left)], [] => .opt (Int) (laws_szConstraintS a left) (fun r => .ret (.c (.int .i64 r)) [])
  | _, _ => .fail

noncomputable def C_laws_szConstraintS : Cfg := { y := tys, n := 27, h := 0, tab := [(77, c_laws_szConstraint)], cut := [], hand := [], good := [], deep := [], sched := [] }

theorem t_laws_szConstraintS : TabOk Try.prog C_laws_szConstraintS := by
  refine tabOk_of ?_
  simp only [C_laws_szConstraintS, List.forall_mem_cons]
  exact ⟨k_laws_szConstraint, fun p h => by cases h⟩

theorem k_laws_szConstraintS : Entry Try.prog 34 c_laws_szConstraintS := by
  refine entry_by (C := C_laws_szConstraintS) mixed tys_ok t_laws_szConstraintS (fn := Try.f34) (c := bd Try.f34) (by kernel_rfl) (by kernel_rfl) (by kernel_rfl) (by kernel_rfl) ?_
  intro args st k he
  unfold c_laws_szConstraintS at he
  split at he
  rotate_left
  · exact he.elim
  rename_i a left
  have he : Ok (laws_szConstraintS a left) (fun r => k (.c (.int .i64 r)) []) := he
  refine ⟨rfl, rfl, ?_⟩
  have he := ok_rq he
  refine And.intro he.1 ?_
  have he := he.2
  refine And.intro (fun hb => ?_) (fun hb => ?_)
  · have he := ok_t he hb
    have he := ok_some he
    exact ⟨rfl, _, _, Leads.refl _ _, he⟩
  · have he := ok_f he hb
    refine loop_model mixed tys_ok t_laws_szConstraintS (S := Int × Int) (I := (fun (left1, i) => (envOf [(0, .c (.imm (.pair (.sl (.pair (.int .i64) (.int .i64))) (.int .i64)) a)), (1, .c (.int .i64 left1)), (5, .c (.int .i64 i))], []))) (f := laws_szConstraintS_l1 a) (K := (fun r => k (.c (.int .i64 r)) [])) he (leads_ren [] (l := [(0, .c (.imm (.pair (.sl (.pair (.int .i64) (.int .i64))) (.int .i64)) a)), (1, .c (.int .i64 (left - (a.length:Int)))), (5, .c (.int .i64 (0:Int)))]) (st' := []) rfl rfl trivial ⟨.inl rfl, rfl, rfl, trivial⟩) ?_
    rintro ⟨left1, i⟩ J1 he
    refine And.intro (fun hb => ?_) (fun hb => ?_)
    · have he := ok_t he hb
      have he := ok_rq he
      refine And.intro he.1 ?_
      have he := he.2
      obtain ⟨r1_, hr, he⟩ := ok_bind he
      refine ⟨r1_, hr, ?_⟩
      refine And.intro (fun hb => ?_) (fun hb => ?_)
      · have he := ok_t he hb
        have he := ok_some he
        exact ⟨rfl, _, _, Leads.refl _ _, he⟩
      · have he := ok_f he hb
        have he := ok_rq he
        refine And.intro he.1 ?_
        have he := he.2
        have he := ok_some he
        exact ⟨(r1_, (i + (1:Int))), he, (leads_ren [] (l := [(0, .c (.imm (.pair (.sl (.pair (.int .i64) (.int .i64))) (.int .i64)) a)), (1, .c (.int .i64 r1_)), (5, .c (.int .i64 (i + (1:Int))))]) (st' := []) rfl rfl trivial ⟨.inl rfl, rfl, rfl, trivial⟩)⟩
    · have he := ok_f he hb
      have he := ok_some he
      exact ⟨rfl, _, _, Leads.refl _ _, he⟩

noncomputable def c_laws_toTerm : Con := fun args st => match args, st with
  | [.agg [.int .i64 a_0, .int .i64 a_1]], [] => .opt ((Int × Int)) (laws_toTerm (a_0, a_1)) (fun r => .ret (.agg [.int .i64 r.1, .int .i64 r.2]) [(900, .rc [.int .i64 r.1, .int .i64 r.2])])
  | _, _ => .fail

noncomputable def C_laws_toTerm : Cfg := { y := tys, n := 11, h := 0, tab := [], cut := [], hand := [], good := [], deep := [], sched := [] }

theorem t_laws_toTerm : TabOk Try.prog C_laws_toTerm := tabOk_of (fun p h => by cases h)

theorem k_laws_toTerm : Entry Try.prog 119 c_laws_toTerm := by
  refine entry_by (C := C_laws_toTerm) mixed tys_ok t_laws_toTerm (fn := Try.f119) (c := bd Try.f119) (by kernel_rfl) (by kernel_rfl) (by kernel_rfl) (by kernel_rfl) ?_
  intro args st k he
  unfold c_laws_toTerm at he
  split at he
  rotate_left
  · exact he.elim
  rename_i a_0 a_1
  have he : Ok (laws_toTerm (a_0, a_1)) (fun r => k (.agg [.int .i64 r.1, .int .i64 r.2]) [(900, .rc [.int .i64 r.1, .int .i64 r.2])]) := he
  refine ⟨rfl, rfl, ?_⟩
  have he := ok_some he
  exact ⟨rfl, _, _, (leads_ren [(900, 2)] (l := [(2, .c (.ptr 900 0))]) (st' := [(900, .rc [.int .i64 (a_0, a_1).1, .int .i64 (a_0, a_1).2])]) rfl rfl ⟨⟨rfl, rfl, trivial⟩, trivial⟩ ⟨⟨⟨rfl, rfl⟩, rfl⟩, trivial⟩), he⟩

noncomputable def c_laws_toTermS : Con := fun args st => match args, st with
  | [.c (.imm (.pair (.int .i64) (.int .i64)) a)], [] => .opt ((List (Int × Int))) (laws_toTermS a) (fun r => .ret (.c (.own 900)) [(900, .sl 93 (.pair (.int .i64) (.int .i64)) r .shallow)])
  | _, _ => .fail

noncomputable def C_laws_toTermS : Cfg := { y := tys, n := 23, h := 0, tab := [(119, c_laws_toTerm)], cut := [], hand := [], good := [], deep := [], sched := [] }

theorem t_laws_toTermS : TabOk Try.prog C_laws_toTermS := by
  refine tabOk_of ?_
  simp only [C_laws_toTermS, List.forall_mem_cons]
  exact ⟨k_laws_toTerm, fun p h => by cases h⟩

theorem k_laws_toTermS : Entry Try.prog 108 c_laws_toTermS := by
  refine entry_by (C := C_laws_toTermS) mixed tys_ok t_laws_toTermS (fn := Try.f108) (c := bd Try.f108) (by kernel_rfl) (by kernel_rfl) (by kernel_rfl) (by kernel_rfl) ?_
  intro args st k he
  unfold c_laws_toTermS at he
  split at he
  rotate_left
  · exact he.elim
  rename_i a
  have he : Ok (laws_toTermS a) (fun r => k (.c (.own 900)) [(900, .sl 93 (.pair (.int .i64) (.int .i64)) r .shallow)]) := he
  refine ⟨rfl, rfl, ?_⟩
  have he := ok_rq he
  refine And.intro he.1 ?_
  have he := he.2
  refine loop_model mixed tys_ok t_laws_toTermS (S := Int × (List (Int × Int))) (I := (fun (i, out) => (envOf [(0, .c (.imm (.pair (.int .i64) (.int .i64)) a)), (3, .c (.own 10000000)), (4, .c (.int .i64 i))], [(10000000, .sl 93 (.pair (.int .i64) (.int .i64)) out .shallow)]))) (f := laws_toTermS_l1 a) (K := (fun r => k (.c (.own 900)) [(900, .sl 93 (.pair (.int .i64) (.int .i64)) r .shallow)])) he (leads_ren [(10000000, 7)] (l := [(0, .c (.imm (.pair (.int .i64) (.int .i64)) a)), (3, .c (.own 10000000)), (4, .c (.int .i64 (0:Int)))]) (st' := [(10000000, .sl 93 (.pair (.int .i64) (.int .i64)) (List.replicate (a.length:Int).toNat (0, 0)) .shallow)]) rfl rfl ⟨⟨rfl, rfl⟩, trivial⟩ ⟨.inl rfl, ⟨rfl, rfl⟩, rfl, trivial⟩) ?_
  rintro ⟨i, out⟩ J1 he
  refine And.intro (fun hb => ?_) (fun hb => ?_)
  · have he := ok_t he hb
    have he := ok_rq he
    refine And.intro he.1 ?_
    have he := he.2
    obtain ⟨r2_, hr, he⟩ := ok_bind he
    refine ⟨r2_, hr, ?_⟩
    have he := ok_rq he
    refine And.intro he.1 ?_
    have he := he.2
    have he := ok_rq he
    refine And.intro he.1 ?_
    have he := he.2
    have he := ok_some he
    exact ⟨((i + (1:Int)), (out.set i.toNat r2_)), he, (leads_ren [] (l := [(0, .c (.imm (.pair (.int .i64) (.int .i64)) a)), (3, .c (.own 10000000)), (4, .c (.int .i64 (i + (1:Int))))]) (st' := [(10000000, .sl 93 (.pair (.int .i64) (.int .i64)) (out.set i.toNat r2_) .shallow)]) rfl rfl ⟨⟨rfl, rfl⟩, trivial⟩ ⟨.inl rfl, ⟨rfl, rfl⟩, rfl, trivial⟩)⟩
  · have he := ok_f he hb
    have he := ok_some he
    exact ⟨rfl, _, _, (leads_ren [(900, 10000000)] (l := [(2, .c (.own 900))]) (st' := [(900, .sl 93 (.pair (.int .i64) (.int .i64)) out .shallow)]) rfl rfl ⟨⟨rfl, rfl⟩, trivial⟩ ⟨⟨rfl, rfl⟩, trivial⟩), he⟩

noncomputable def c_laws_toConstraint : Con := fun args st => match args, st with
  | [.agg [.imm (.pair (.int .i64) (.int .i64)) a_0, .int .i64 a_1]], [] => .opt (Int × (List (Int × Int))) (laws_toConstraint (a_0, a_1)) (fun r => .ret (.agg [.own 901, .int .i64 r.1]) [(900, .rc [.own 901, .int .i64 r.1]), (901, .sl 93 (.pair (.int .i64) (.int .i64)) r.2 .shallow)])
  | _, _ => .fail

noncomputable def C_laws_toConstraint : Cfg := { y := tys, n := 12, h := 0, tab := [(108, c_laws_toTermS)], cut := [], hand := [], good := [], deep := [], sched := [] }

theorem t_laws_toConstraint : TabOk Try.prog C_laws_toConstraint := by
  refine tabOk_of ?_
  simp only [C_laws_toConstraint, List.forall_mem_cons]
  exact ⟨k_laws_toTermS, fun p h => by cases h⟩

theorem k_laws_toConstraint : Entry Try.prog 78 c_laws_toConstraint := by
  refine entry_by (C := C_laws_toConstraint) mixed tys_ok t_laws_toConstraint (fn := Try.f78) (c := bd Try.f78) (by kernel_rfl) (by kernel_rfl) (by kernel_rfl) (by kernel_rfl) ?_
  intro args st k he
  unfold c_laws_toConstraint at he
  split at he
  rotate_left
  · exact he.elim
  rename_i a_0 a_1
  have he : Ok (laws_toConstraint (a_0, a_1)) (fun r => k (.agg [.own 901, .int .i64 r.1]) [(900, .rc [.own 901, .int .i64 r.1]), (901, .sl 93 (.pair (.int .i64) (.int .i64)) r.2 .shallow)]) := he
  refine ⟨rfl, rfl, ?_⟩
  obtain ⟨r1_, hr, he⟩ := ok_bind he
  refine ⟨r1_, hr, ?_⟩
  have he := ok_some he
  exact ⟨rfl, _, _, (leads_ren [(900, 2), (901, 7900)] (l := [(2, .c (.ptr 900 0))]) (st' := [(900, .rc [.own 901, .int .i64 (a_0, a_1).2]), (901, .sl 93 (.pair (.int .i64) (.int .i64)) r1_ .shallow)]) rfl rfl ⟨⟨⟨rfl, rfl⟩, rfl, trivial⟩, ⟨rfl, rfl⟩, trivial⟩ ⟨⟨⟨rfl, rfl⟩, rfl⟩, trivial⟩), he⟩

noncomputable def c_laws_toConstraintS : Con := fun args st => match args, st with
  | [.c (.imm (.pair (.sl (.pair (.int .i64) (.int .i64))) (.int .i64)) a)], [] => .opt ((List ((List (Int × Int)) × Int))) (laws_toConstraintS a) (fun r => .ret (.c (.own 900)) [(900, .sl 81 (.pair (.sl (.pair (.int .i64) (.int .i64))) (.int .i64)) r (.deep true .no))])
  | _, _ => .fail

noncomputable def C_laws_toConstraintS : Cfg := { y := tys, n := 23, h := 0, tab := [(78, c_laws_toConstraint)], cut := [], hand := [], good := [], deep := [7], sched := [] }

theorem t_laws_toConstraintS : TabOk Try.prog C_laws_toConstraintS := by
  refine tabOk_of ?_
  simp only [C_laws_toConstraintS, List.forall_mem_cons]
  exact ⟨k_laws_toConstraint, fun p h => by cases h⟩

theorem k_laws_toConstraintS : Entry Try.prog 35 c_laws_toConstraintS := by
  refine entry_by (C := C_laws_toConstraintS) mixed tys_ok t_laws_toConstraintS (fn := Try.f35) (c := bd Try.f35) (by kernel_rfl) (by kernel_rfl) (by kernel_rfl) (by kernel_rfl) ?_
  intro args st k he
  unfold c_laws_toConstraintS at he
  split at he
  rotate_left
  · exact he.elim
  rename_i a
  have he : Ok (laws_toConstraintS a) (fun r => k (.c (.own 900)) [(900, .sl 81 (.pair (.sl (.pair (.int .i64) (.int .i64))) (.int .i64)) r (.deep true .no))]) := he
  refine ⟨rfl, rfl, ?_⟩
  have he := ok_rq he
  refine And.intro he.1 ?_
  have he := he.2
  refine loop_model mixed tys_ok t_laws_toConstraintS (S := Int × (List ((List (Int × Int)) × Int))) (I := (fun (i, out) => (envOf [(0, .c (.imm (.pair (.sl (.pair (.int .i64) (.int .i64))) (.int .i64)) a)), (3, .c (.own 10000000)), (4, .c (.int .i64 i))], [(10000000, .sl 81 (.pair (.sl (.pair (.int .i64) (.int .i64))) (.int .i64)) out (.deep true .no))]))) (f := laws_toConstraintS_l1 a) (K := (fun r => k (.c (.own 900)) [(900, .sl 81 (.pair (.sl (.pair (.int .i64) (.int .i64))) (.int .i64)) r (.deep true .no))])) he (leads_ren [(10000000, 7)] (l := [(0, .c (.imm (.pair (.sl (.pair (.int .i64) (.int .i64))) (.int .i64)) a)), (3, .c (.own 10000000)), (4, .c (.int .i64 (0:Int)))]) (st' := [(10000000, .sl 81 (.pair (.sl (.pair (.int .i64) (.int .i64))) (.int .i64)) (List.replicate (a.length:Int).toNat ([], 0)) (.deep true .no))]) rfl rfl ⟨⟨rfl, rfl⟩, trivial⟩ ⟨.inl rfl, ⟨rfl, rfl⟩, rfl, trivial⟩) ?_
  rintro ⟨i, out⟩ J1 he
  refine And.intro (fun hb => ?_) (fun hb => ?_)
  · have he := ok_t he hb
    have he := ok_rq he
    refine And.intro he.1 ?_
    have he := he.2
    obtain ⟨r2_, hr, he⟩ := ok_bind he
    refine ⟨r2_, hr, ?_⟩
    have he := ok_rq he
    refine And.intro he.1 ?_
    have he := he.2
    have he := ok_rq he
    refine And.intro he.1 ?_
    have he := he.2
    have he := ok_some he
    exact ⟨((i + (1:Int)), (out.set i.toNat (r2_.2, r2_.1))), he, (leads_ren [] (l := [(0, .c (.imm (.pair (.sl (.pair (.int .i64) (.int .i64))) (.int .i64)) a)), (3, .c (.own 10000000)), (4, .c (.int .i64 (i + (1:Int))))]) (st' := [(10000000, .sl 81 (.pair (.sl (.pair (.int .i64) (.int .i64))) (.int .i64)) (out.set i.toNat (r2_.2, r2_.1)) (.deep true .no))]) rfl rfl ⟨⟨rfl, rfl⟩, trivial⟩ ⟨.inl rfl, ⟨rfl, rfl⟩, rfl, trivial⟩)⟩
  · have he := ok_f he hb
    have he := ok_some he
    exact ⟨rfl, _, _, (leads_ren [(900, 10000000)] (l := [(2, .c (.own 900))]) (st' := [(900, .sl 81 (.pair (.sl (.pair (.int .i64) (.int .i64))) (.int .i64)) out (.deep true .no))]) rfl rfl ⟨⟨rfl, rfl⟩, trivial⟩ ⟨⟨rfl, rfl⟩, trivial⟩), he⟩

noncomputable def c_spec_ConstraintValid : Con := fun args st => match args, st with
  | [.agg [.imm (.pair (.int .i64) (.int .i64)) c__0, .int .i64 c__1]], [] => .opt (Bool) (spec_ConstraintValid (c__0, c__1)) (fun r => .ret (.c (.bool r)) [])
  | _, _ => .fail

noncomputable def C_spec_ConstraintValid : Cfg := { y := tys, n := 57, h := 0, tab := [(69, c_spec_l1Abs), (96, c_spec_l1Lit)], cut := [], hand := [], good := [], deep := [], sched := [(5, (.first 0 (.alt 1 (.alt 2 (.first 3 (.first 4 (.first 5 (.alt 6 (.first 7 (.first 8 (.first 9 (.first 10 (.alt 11 (.first 12 (.first 13 (.first 14 (.first 15 (.first 16 (.first 17 (.first 18 (.first 20 (.first 21 (.first 26 (.alt 19 (.first 22 (.first 23 (.first 24 (.alt 25 (.alt 27 (.alt 28 (.first 29 (.first 30 (.first 31 .done))) .stop) .stop) (.alt 27 (.alt 25 (.alt 28 (.first 29 (.first 30 (.first 31 .done))) .stop) .stop) .stop))))) (.alt 27 (.alt 19 (.first 22 (.first 23 (.first 24 (.alt 25 (.alt 28 (.first 29 (.first 30 (.first 31 .done))) .stop) .stop)))) .stop) .stop)))))))))))) .stop))))) .stop)))) .stop) .stop)))] }

theorem t_spec_ConstraintValid : TabOk Try.prog C_spec_ConstraintValid := by
  refine tabOk_of ?_
  simp only [C_spec_ConstraintValid, List.forall_mem_cons]
  exact ⟨k_spec_l1Abs, k_spec_l1Lit, fun p h => by cases h⟩

theorem k_spec_ConstraintValid : Entry Try.prog 103 c_spec_ConstraintValid := by
  refine entry_by (C := C_spec_ConstraintValid) mixed tys_ok t_spec_ConstraintValid (fn := Try.f103) (c := bd Try.f103) (by kernel_rfl) (by kernel_rfl) (by kernel_rfl) (by kernel_rfl) ?_
  intro args st k he
  unfold c_spec_ConstraintValid at he
  split at he
  rotate_left
  · exact he.elim
  rename_i c__0 c__1
  have he : Ok (spec_ConstraintValid (c__0, c__1)) (fun r => k (.c (.bool r)) []) := he
  refine ⟨rfl, rfl, ?_⟩
  refine loop_model mixed tys_ok t_spec_ConstraintValid (S := Int) (I := (fun i => (envOf [(1, .c (.ptr 10000000 0)), (3, .c (.int .i64 i))], [(10000000, .rc [.imm (.pair (.int .i64) (.int .i64)) (c__0, c__1).1, .int .i64 (c__0, c__1).2])]))) (f := spec_ConstraintValid_l1 (c__0, c__1)) (K := (fun r => k (.c (.bool r)) [])) he (leads_ren [(10000000, 1)] (l := [(1, .c (.ptr 10000000 0)), (3, .c (.int .i64 (0:Int)))]) (st' := [(10000000, .rc [.imm (.pair (.int .i64) (.int .i64)) (c__0, c__1).1, .int .i64 (c__0, c__1).2])]) rfl rfl ⟨⟨.inl rfl, rfl, trivial⟩, trivial⟩ ⟨⟨⟨rfl, rfl⟩, rfl⟩, rfl, trivial⟩) ?_
  rintro i J1 he
  refine And.intro (fun hb => ?_) (fun hb => ?_)
  · have he := ok_t he hb
    have he := ok_rq he
    refine And.intro he.1 ?_
    have he := he.2
    refine And.intro (by kernel_rfl) ?_
    refine And.intro ?_ trivial
    refine And.intro ?_ trivial
    obtain ⟨r4_, hr, he⟩ := ok_bind he
    refine ⟨r4_, hr, ?_⟩
    refine And.intro (fun hb => ?_) (fun hb => ?_)
    · have he := ok_f he hb
      refine And.intro ?_ trivial
      refine And.intro (fun hb => ?_) (fun hb => ?_)
      · have he := ok_f he hb
        refine And.intro ?_ trivial
        refine And.intro (fun hb => ?_) (fun hb => ?_)
        · have he := ok_f he hb
          refine And.intro (fun hb => ?_) (fun hb => ?_)
          · have he := ok_t he hb
            have he := ok_rq he
            refine And.intro he.1 ?_
            have he := he.2
            have he := ok_rq he
            have hq1 := he.1
            have he := he.2
            obtain ⟨r5_, hq2, he⟩ := ok_bind he
            obtain ⟨r6_, hq3, he⟩ := ok_bind he
            refine And.intro ?_ (And.intro ?_ (trivial))
            · skip
              refine And.intro hq1 ?_
              refine And.intro ?_ (And.intro ?_ (trivial))
              · skip
                refine ⟨r5_, hq2, ?_⟩
                refine And.intro ?_ trivial
                refine And.intro ?_ trivial
                refine ⟨r6_, hq3, ?_⟩
                refine And.intro (fun hb => ?_) (fun hb => ?_)
                · have he := ok_t he hb
                  have he := ok_some he
                  exact ⟨rfl, _, _, (leads_ren [] (l := [(2, .c (.bool false))]) (st' := []) rfl rfl trivial ⟨.inr rfl, trivial⟩), he⟩
                · have he := ok_f he hb
                  have he := ok_rq he
                  refine And.intro he.1 ?_
                  have he := he.2
                  have he := ok_some he
                  exact ⟨(i + (1:Int)), he, (leads_ren [] (l := [(1, .c (.ptr 10000000 0)), (3, .c (.int .i64 (i + (1:Int))))]) (st' := [(10000000, .rc [.imm (.pair (.int .i64) (.int .i64)) (c__0, c__1).1, .int .i64 (c__0, c__1).2])]) rfl rfl ⟨⟨.inl rfl, rfl, trivial⟩, trivial⟩ ⟨⟨⟨rfl, rfl⟩, rfl⟩, rfl, trivial⟩)⟩
              · skip
                refine And.intro ?_ trivial
                refine ⟨r5_, hq2, ?_⟩
                refine And.intro ?_ trivial
                refine ⟨r6_, hq3, ?_⟩
                refine And.intro (fun hb => ?_) (fun hb => ?_)
                · have he := ok_t he hb
                  have he := ok_some he
                  exact ⟨rfl, _, _, (leads_ren [] (l := [(2, .c (.bool false))]) (st' := []) rfl rfl trivial ⟨.inr rfl, trivial⟩), he⟩
                · have he := ok_f he hb
                  have he := ok_rq he
                  refine And.intro he.1 ?_
                  have he := he.2
                  have he := ok_some he
                  exact ⟨(i + (1:Int)), he, (leads_ren [] (l := [(1, .c (.ptr 10000000 0)), (3, .c (.int .i64 (i + (1:Int))))]) (st' := [(10000000, .rc [.imm (.pair (.int .i64) (.int .i64)) (c__0, c__1).1, .int .i64 (c__0, c__1).2])]) rfl rfl ⟨⟨.inl rfl, rfl, trivial⟩, trivial⟩ ⟨⟨⟨rfl, rfl⟩, rfl⟩, rfl, trivial⟩)⟩
            · skip
              refine And.intro ?_ trivial
              refine And.intro hq1 ?_
              refine And.intro ?_ trivial
              refine ⟨r5_, hq2, ?_⟩
              refine And.intro ?_ trivial
              refine ⟨r6_, hq3, ?_⟩
              refine And.intro (fun hb => ?_) (fun hb => ?_)
              · have he := ok_t he hb
                have he := ok_some he
                exact ⟨rfl, _, _, (leads_ren [] (l := [(2, .c (.bool false))]) (st' := []) rfl rfl trivial ⟨.inr rfl, trivial⟩), he⟩
              · have he := ok_f he hb
                have he := ok_rq he
                refine And.intro he.1 ?_
                have he := he.2
                have he := ok_some he
                exact ⟨(i + (1:Int)), he, (leads_ren [] (l := [(1, .c (.ptr 10000000 0)), (3, .c (.int .i64 (i + (1:Int))))]) (st' := [(10000000, .rc [.imm (.pair (.int .i64) (.int .i64)) (c__0, c__1).1, .int .i64 (c__0, c__1).2])]) rfl rfl ⟨⟨.inl rfl, rfl, trivial⟩, trivial⟩ ⟨⟨⟨rfl, rfl⟩, rfl⟩, rfl, trivial⟩)⟩
          · have he := ok_f he hb
            refine And.intro ?_ (And.intro ?_ (trivial))
            · skip
              refine And.intro ?_ (And.intro ?_ (trivial))
              · skip
                refine And.intro ?_ trivial
                refine And.intro ?_ trivial
                have he := ok_rq he
                refine And.intro he.1 ?_
                have he := he.2
                have he := ok_some he
                exact ⟨(i + (1:Int)), he, (leads_ren [] (l := [(1, .c (.ptr 10000000 0)), (3, .c (.int .i64 (i + (1:Int))))]) (st' := [(10000000, .rc [.imm (.pair (.int .i64) (.int .i64)) (c__0, c__1).1, .int .i64 (c__0, c__1).2])]) rfl rfl ⟨⟨.inl rfl, rfl, trivial⟩, trivial⟩ ⟨⟨⟨rfl, rfl⟩, rfl⟩, rfl, trivial⟩)⟩
              · skip
                refine And.intro ?_ trivial
                refine And.intro ?_ trivial
                have he := ok_rq he
                refine And.intro he.1 ?_
                have he := he.2
                have he := ok_some he
                exact ⟨(i + (1:Int)), he, (leads_ren [] (l := [(1, .c (.ptr 10000000 0)), (3, .c (.int .i64 (i + (1:Int))))]) (st' := [(10000000, .rc [.imm (.pair (.int .i64) (.int .i64)) (c__0, c__1).1, .int .i64 (c__0, c__1).2])]) rfl rfl ⟨⟨.inl rfl, rfl, trivial⟩, trivial⟩ ⟨⟨⟨rfl, rfl⟩, rfl⟩, rfl, trivial⟩)⟩
            · skip
              refine And.intro ?_ trivial
              refine And.intro ?_ trivial
              refine And.intro ?_ trivial
              have he := ok_rq he
              refine And.intro he.1 ?_
              have he := he.2
              have he := ok_some he
              exact ⟨(i + (1:Int)), he, (leads_ren [] (l := [(1, .c (.ptr 10000000 0)), (3, .c (.int .i64 (i + (1:Int))))]) (st' := [(10000000, .rc [.imm (.pair (.int .i64) (.int .i64)) (c__0, c__1).1, .int .i64 (c__0, c__1).2])]) rfl rfl ⟨⟨.inl rfl, rfl, trivial⟩, trivial⟩ ⟨⟨⟨rfl, rfl⟩, rfl⟩, rfl, trivial⟩)⟩
        · have he := ok_t he hb
          refine And.intro ?_ (And.intro ?_ (trivial))
          · skip
            refine And.intro ?_ (And.intro ?_ (trivial))
            · skip
              refine And.intro ?_ trivial
              refine And.intro ?_ trivial
              have he := ok_some he
              exact ⟨rfl, _, _, (leads_ren [] (l := [(2, .c (.bool false))]) (st' := []) rfl rfl trivial ⟨.inr rfl, trivial⟩), he⟩
            · skip
              refine And.intro ?_ trivial
              refine And.intro ?_ trivial
              have he := ok_some he
              exact ⟨rfl, _, _, (leads_ren [] (l := [(2, .c (.bool false))]) (st' := []) rfl rfl trivial ⟨.inr rfl, trivial⟩), he⟩
          · skip
            refine And.intro ?_ trivial
            refine And.intro ?_ trivial
            refine And.intro ?_ trivial
            have he := ok_some he
            exact ⟨rfl, _, _, (leads_ren [] (l := [(2, .c (.bool false))]) (st' := []) rfl rfl trivial ⟨.inr rfl, trivial⟩), he⟩
      · have he := ok_t he hb
        refine And.intro ?_ trivial
        refine And.intro ?_ (And.intro ?_ (trivial))
        · skip
          refine And.intro ?_ (And.intro ?_ (trivial))
          · skip
            refine And.intro ?_ trivial
            refine And.intro ?_ trivial
            have he := ok_some he
            exact ⟨rfl, _, _, (leads_ren [] (l := [(2, .c (.bool false))]) (st' := []) rfl rfl trivial ⟨.inr rfl, trivial⟩), he⟩
          · skip
            refine And.intro ?_ trivial
            refine And.intro ?_ trivial
            have he := ok_some he
            exact ⟨rfl, _, _, (leads_ren [] (l := [(2, .c (.bool false))]) (st' := []) rfl rfl trivial ⟨.inr rfl, trivial⟩), he⟩
        · skip
          refine And.intro ?_ trivial
          refine And.intro ?_ trivial
          refine And.intro ?_ trivial
          have he := ok_some he
          exact ⟨rfl, _, _, (leads_ren [] (l := [(2, .c (.bool false))]) (st' := []) rfl rfl trivial ⟨.inr rfl, trivial⟩), he⟩
    · have he := ok_t he hb
      refine And.intro ?_ trivial
      refine And.intro ?_ trivial
      refine And.intro ?_ (And.intro ?_ (trivial))
      · skip
        refine And.intro ?_ (And.intro ?_ (trivial))
        · skip
          refine And.intro ?_ trivial
          refine And.intro ?_ trivial
          have he := ok_some he
          exact ⟨rfl, _, _, (leads_ren [] (l := [(2, .c (.bool false))]) (st' := []) rfl rfl trivial ⟨.inr rfl, trivial⟩), he⟩
        · skip
          refine And.intro ?_ trivial
          refine And.intro ?_ trivial
          have he := ok_some he
          exact ⟨rfl, _, _, (leads_ren [] (l := [(2, .c (.bool false))]) (st' := []) rfl rfl trivial ⟨.inr rfl, trivial⟩), he⟩
      · skip
        refine And.intro ?_ trivial
        refine And.intro ?_ trivial
        refine And.intro ?_ trivial
        have he := ok_some he
        exact ⟨rfl, _, _, (leads_ren [] (l := [(2, .c (.bool false))]) (st' := []) rfl rfl trivial ⟨.inr rfl, trivial⟩), he⟩
  · have he := ok_f he hb
    refine And.intro (fun hb => ?_) (fun hb => ?_)
    · have he := ok_t he hb
      have he := ok_some he
      exact ⟨rfl, _, _, (leads_ren [] (l := [(2, .c (.bool (decide ((c__0, c__1).2 ≤ (20000:Int)))))]) (st' := []) rfl rfl trivial ⟨.inl rfl, trivial⟩), he⟩
    · have he := ok_f he hb
      have he := ok_some he
      exact ⟨rfl, _, _, (leads_ren [] (l := [(2, .c (.bool false))]) (st' := []) rfl rfl trivial ⟨.inr rfl, trivial⟩), he⟩

noncomputable def c_spec_ProblemValid : Con := fun args st => match args, st with
  | [.c (.imm (.pair (.sl (.pair (.int .i64) (.int .i64))) (.int .i64)) list_)], [] => .opt (Bool) (spec_ProblemValid list_) (fun r => .ret (.c (.bool r)) [])
  | _, _ => .fail

noncomputable def C_spec_ProblemValid : Cfg := { y := tys, n := 19, h := 0, tab := [(103, c_spec_ConstraintValid)], cut := [], hand := [], good := [], deep := [], sched := [] }

theorem t_spec_ProblemValid : TabOk Try.prog C_spec_ProblemValid := by
  refine tabOk_of ?_
  simp only [C_spec_ProblemValid, List.forall_mem_cons]
  exact ⟨k_spec_ConstraintValid, fun p h => by cases h⟩

theorem k_spec_ProblemValid : Entry Try.prog 74 c_spec_ProblemValid := by
  refine entry_by (C := C_spec_ProblemValid) mixed tys_ok t_spec_ProblemValid (fn := Try.f74) (c := bd Try.f74) (by kernel_rfl) (by kernel_rfl) (by kernel_rfl) (by kernel_rfl) ?_
  intro args st k he
  unfold c_spec_ProblemValid at he
  split at he
  rotate_left
  · exact he.elim
  rename_i list_
  have he : Ok (spec_ProblemValid list_) (fun r => k (.c (.bool r)) []) := he
  refine ⟨rfl, rfl, ?_⟩
  refine loop_model mixed tys_ok t_spec_ProblemValid (S := Int) (I := (fun i => (envOf [(0, .c (.imm (.pair (.sl (.pair (.int .i64) (.int .i64))) (.int .i64)) list_)), (3, .c (.int .i64 i))], []))) (f := spec_ProblemValid_l1 list_) (K := (fun r => k (.c (.bool r)) [])) he (leads_ren [] (l := [(0, .c (.imm (.pair (.sl (.pair (.int .i64) (.int .i64))) (.int .i64)) list_)), (3, .c (.int .i64 (0:Int)))]) (st' := []) rfl rfl trivial ⟨.inl rfl, rfl, trivial⟩) ?_
  rintro i J1 he
  refine And.intro (fun hb => ?_) (fun hb => ?_)
  · have he := ok_t he hb
    have he := ok_rq he
    refine And.intro he.1 ?_
    have he := he.2
    obtain ⟨r1_, hr, he⟩ := ok_bind he
    refine ⟨r1_, hr, ?_⟩
    refine And.intro (fun hb => ?_) (fun hb => ?_)
    · have he := ok_t he hb
      have he := ok_some he
      exact ⟨rfl, _, _, Leads.refl _ _, he⟩
    · have he := ok_f he hb
      have he := ok_rq he
      refine And.intro he.1 ?_
      have he := he.2
      have he := ok_some he
      exact ⟨(i + (1:Int)), he, (leads_ren [] (l := [(0, .c (.imm (.pair (.sl (.pair (.int .i64) (.int .i64))) (.int .i64)) list_)), (3, .c (.int .i64 (i + (1:Int))))]) (st' := []) rfl rfl trivial ⟨.inl rfl, rfl, trivial⟩)⟩
  · have he := ok_f he hb
    have he := ok_some he
    exact ⟨rfl, _, _, Leads.refl _ _, he⟩

noncomputable def c_spec_l1Eval : Con := fun args st => match args, st with
  | [.agg [.imm (.pair (.int .i64) (.int .i64)) c__0, .int .i64 c__1], .c (.imm .bool values)], [] => .opt (Bool) (spec_l1Eval (c__0, c__1) values) (fun r => .ret (.c (.bool r)) [])
  | _, _ => .fail

noncomputable def C_spec_l1Eval : Cfg := { y := tys, n := 34, h := 0, tab := [(55, c_spec_l1True)], cut := [], hand := [], good := [], deep := [], sched := [] }

theorem t_spec_l1Eval : TabOk Try.prog C_spec_l1Eval := by
  refine tabOk_of ?_
  simp only [C_spec_l1Eval, List.forall_mem_cons]
  exact ⟨k_spec_l1True, fun p h => by cases h⟩

theorem k_spec_l1Eval : Entry Try.prog 104 c_spec_l1Eval := by
  refine entry_by (C := C_spec_l1Eval) mixed tys_ok t_spec_l1Eval (fn := Try.f104) (c := bd Try.f104) (by kernel_rfl) (by kernel_rfl) (by kernel_rfl) (by kernel_rfl) ?_
  intro args st k he
  unfold c_spec_l1Eval at he
  split at he
  rotate_left
  · exact he.elim
  rename_i c__0 c__1 values
  have he : Ok (spec_l1Eval (c__0, c__1) values) (fun r => k (.c (.bool r)) []) := he
  refine ⟨rfl, rfl, ?_⟩
  refine loop_model mixed tys_ok t_spec_l1Eval (S := Int × Int) (I := (fun (n, i) => (envOf [(1, .c (.imm .bool values)), (2, .c (.ptr 10000000 0)), (5, .c (.int .i64 n)), (6, .c (.int .i64 i))], [(10000000, .rc [.imm (.pair (.int .i64) (.int .i64)) (c__0, c__1).1, .int .i64 (c__0, c__1).2])]))) (f := spec_l1Eval_l1 (c__0, c__1) values) (K := (fun r => k (.c (.bool r)) [])) he (leads_ren [(10000000, 2)] (l := [(1, .c (.imm .bool values)), (2, .c (.ptr 10000000 0)), (5, .c (.int .i64 (0:Int))), (6, .c (.int .i64 (0:Int)))]) (st' := [(10000000, .rc [.imm (.pair (.int .i64) (.int .i64)) (c__0, c__1).1, .int .i64 (c__0, c__1).2])]) rfl rfl ⟨⟨.inl rfl, rfl, trivial⟩, trivial⟩ ⟨.inl rfl, ⟨⟨rfl, rfl⟩, rfl⟩, rfl, rfl, trivial⟩) ?_
  rintro ⟨n, i⟩ J1 he
  refine And.intro (fun hb => ?_) (fun hb => ?_)
  · have he := ok_t he hb
    have he := ok_rq he
    refine And.intro he.1 ?_
    have he := he.2
    obtain ⟨r1_, hr, he⟩ := ok_bind he
    refine ⟨r1_, hr, ?_⟩
    refine And.intro (fun hb => ?_) (fun hb => ?_)
    · have he := ok_t he hb
      have he := ok_rq he
      refine And.intro he.1 ?_
      have he := he.2
      have he := ok_rq he
      refine And.intro he.1 ?_
      have he := he.2
      have he := ok_rq he
      refine And.intro he.1 ?_
      have he := he.2
      have he := ok_some he
      exact ⟨((n + ((c__0, c__1).1.getD i.toNat (0, 0)).1), (i + (1:Int))), he, (leads_ren [] (l := [(1, .c (.imm .bool values)), (2, .c (.ptr 10000000 0)), (5, .c (.int .i64 (n + ((c__0, c__1).1.getD i.toNat (0, 0)).1))), (6, .c (.int .i64 (i + (1:Int))))]) (st' := [(10000000, .rc [.imm (.pair (.int .i64) (.int .i64)) (c__0, c__1).1, .int .i64 (c__0, c__1).2])]) rfl rfl ⟨⟨.inl rfl, rfl, trivial⟩, trivial⟩ ⟨.inl rfl, ⟨⟨rfl, rfl⟩, rfl⟩, rfl, rfl, trivial⟩)⟩
    · have he := ok_f he hb
      have he := ok_rq he
      refine And.intro he.1 ?_
      have he := he.2
      have he := ok_some he
      exact ⟨(n, (i + (1:Int))), he, (leads_ren [] (l := [(1, .c (.imm .bool values)), (2, .c (.ptr 10000000 0)), (5, .c (.int .i64 n)), (6, .c (.int .i64 (i + (1:Int))))]) (st' := [(10000000, .rc [.imm (.pair (.int .i64) (.int .i64)) (c__0, c__1).1, .int .i64 (c__0, c__1).2])]) rfl rfl ⟨⟨.inl rfl, rfl, trivial⟩, trivial⟩ ⟨.inl rfl, ⟨⟨rfl, rfl⟩, rfl⟩, rfl, rfl, trivial⟩)⟩
  · have he := ok_f he hb
    have he := ok_some he
    exact ⟨rfl, _, _, (leads_ren [] (l := [(4, .c (.bool (decide ((c__0, c__1).2 ≤ n))))]) (st' := []) rfl rfl trivial ⟨.inl rfl, trivial⟩), he⟩

noncomputable def c_spec_l11Bad : Con := fun args st => match args, st with
  | [.c (.imm (.pair (.sl (.pair (.int .i64) (.int .i64))) (.int .i64)) list_), .c (.imm .bool values)], [] => .opt (Int) (spec_l11Bad list_ values) (fun r => .ret (.c (.int .i64 r)) [])
  | _, _ => .fail

noncomputable def C_spec_l11Bad : Cfg := { y := tys, n := 23, h := 0, tab := [(104, c_spec_l1Eval)], cut := [], hand := [], good := [], deep := [], sched := [] }

theorem t_spec_l11Bad : TabOk Try.prog C_spec_l11Bad := by
  refine tabOk_of ?_
  simp only [C_spec_l11Bad, List.forall_mem_cons]
  exact ⟨k_spec_l1Eval, fun p h => by cases h⟩

theorem k_spec_l11Bad : Entry Try.prog 75 c_spec_l11Bad := by
  refine entry_by (C := C_spec_l11Bad) mixed tys_ok t_spec_l11Bad (fn := Try.f75) (c := bd Try.f75) (by kernel_rfl) (by kernel_rfl) (by kernel_rfl) (by kernel_rfl) ?_
  intro args st k he
  unfold c_spec_l11Bad at he
  split at he
  rotate_left
  · exact he.elim
  rename_i list_ values
  have he : Ok (spec_l11Bad list_ values) (fun r => k (.c (.int .i64 r)) []) := he
  refine ⟨rfl, rfl, ?_⟩
  refine loop_model mixed tys_ok t_spec_l11Bad (S := Int × Int) (I := (fun (n, i) => (envOf [(0, .c (.imm (.pair (.sl (.pair (.int .i64) (.int .i64))) (.int .i64)) list_)), (1, .c (.imm .bool values)), (5, .c (.int .i64 n)), (6, .c (.int .i64 i))], []))) (f := spec_l11Bad_l1 list_ values) (K := (fun r => k (.c (.int .i64 r)) [])) he (leads_ren [] (l := [(0, .c (.imm (.pair (.sl (.pair (.int .i64) (.int .i64))) (.int .i64)) list_)), (1, .c (.imm .bool values)), (5, .c (.int .i64 (0:Int))), (6, .c (.int .i64 (0:Int)))]) (st' := []) rfl rfl trivial ⟨.inl rfl, .inl rfl, rfl, rfl, trivial⟩) ?_
  rintro ⟨n, i⟩ J1 he
  refine And.intro (fun hb => ?_) (fun hb => ?_)
  · have he := ok_t he hb
    have he := ok_rq he
    refine And.intro he.1 ?_
    have he := he.2
    obtain ⟨r1_, hr, he⟩ := ok_bind he
    refine ⟨r1_, hr, ?_⟩
    refine And.intro (fun hb => ?_) (fun hb => ?_)
    · have he := ok_t he hb
      have he := ok_rq he
      refine And.intro he.1 ?_
      have he := he.2
      have he := ok_rq he
      refine And.intro he.1 ?_
      have he := he.2
      have he := ok_some he
      exact ⟨((n + (1:Int)), (i + (1:Int))), he, (leads_ren [] (l := [(0, .c (.imm (.pair (.sl (.pair (.int .i64) (.int .i64))) (.int .i64)) list_)), (1, .c (.imm .bool values)), (5, .c (.int .i64 (n + (1:Int)))), (6, .c (.int .i64 (i + (1:Int))))]) (st' := []) rfl rfl trivial ⟨.inl rfl, .inl rfl, rfl, rfl, trivial⟩)⟩
    · have he := ok_f he hb
      have he := ok_rq he
      refine And.intro he.1 ?_
      have he := he.2
      have he := ok_some he
      exact ⟨(n, (i + (1:Int))), he, (leads_ren [] (l := [(0, .c (.imm (.pair (.sl (.pair (.int .i64) (.int .i64))) (.int .i64)) list_)), (1, .c (.imm .bool values)), (5, .c (.int .i64 n)), (6, .c (.int .i64 (i + (1:Int))))]) (st' := []) rfl rfl trivial ⟨.inl rfl, .inl rfl, rfl, rfl, trivial⟩)⟩
  · have he := ok_f he hb
    have he := ok_some he
    exact ⟨rfl, _, _, Leads.refl _ _, he⟩

noncomputable def c_spec_ViolationCount : Con := fun args st => match args, st with
  | [.c (.imm (.pair (.sl (.pair (.int .i64) (.int .i64))) (.int .i64)) list_), .c (.imm .bool values)], [] => .opt (Int × Bool) (spec_ViolationCount list_ values) (fun r => .ret (.tup [.c (.int .i64 r.1), .c (.bool r.2)]) [])
  | _, _ => .fail

noncomputable def C_spec_ViolationCount : Cfg := { y := tys, n := 17, h := 0, tab := [(74, c_spec_ProblemValid), (75, c_spec_l11Bad)], cut := [], hand := [], good := [], deep := [], sched := [] }

theorem t_spec_ViolationCount : TabOk Try.prog C_spec_ViolationCount := by
  refine tabOk_of ?_
  simp only [C_spec_ViolationCount, List.forall_mem_cons]
  exact ⟨k_spec_ProblemValid, k_spec_l11Bad, fun p h => by cases h⟩

theorem k_spec_ViolationCount : Entry Try.prog 32 c_spec_ViolationCount := by
  refine entry_by (C := C_spec_ViolationCount) mixed tys_ok t_spec_ViolationCount (fn := Try.f32) (c := bd Try.f32) (by kernel_rfl) (by kernel_rfl) (by kernel_rfl) (by kernel_rfl) ?_
  intro args st k he
  unfold c_spec_ViolationCount at he
  split at he
  rotate_left
  · exact he.elim
  rename_i list_ values
  have he : Ok (spec_ViolationCount list_ values) (fun r => k (.tup [.c (.int .i64 r.1), .c (.bool r.2)]) []) := he
  refine ⟨rfl, rfl, ?_⟩
  obtain ⟨r1_, hr, he⟩ := ok_bind he
  refine ⟨r1_, hr, ?_⟩
  refine And.intro (fun hb => ?_) (fun hb => ?_)
  · have he := ok_f he hb
    refine And.intro (fun hb => ?_) (fun hb => ?_)
    · have he := ok_t he hb
      have he := ok_some he
      exact ⟨rfl, _, _, Leads.refl _ _, he⟩
    · have he := ok_f he hb
      obtain ⟨r2_, hr, he⟩ := ok_bind he
      refine ⟨r2_, hr, ?_⟩
      have he := ok_some he
      exact ⟨rfl, _, _, Leads.refl _ _, he⟩
  · have he := ok_t he hb
    have he := ok_some he
    exact ⟨rfl, _, _, Leads.refl _ _, he⟩

end Go.AE.Y
