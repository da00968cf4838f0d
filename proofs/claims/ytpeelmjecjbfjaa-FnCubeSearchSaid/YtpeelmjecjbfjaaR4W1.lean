/-
  Walks: each function keeps the contract that its model gives. No conditions.
-/
import Derived.Test.YtpeelmjecjbfjaaR4Tab
import Derived.Test.YtpeelmjecjbfjaaR4M
import Derived.Test.YtpeelmjecjbfjaaR4S
namespace Go.AE.Y
open Go Go.AE Go.Proofs
set_option linter.unusedVariables false
set_option maxHeartbeats 2000000
set_option maxRecDepth 100000

noncomputable def c_spec_l17Open : Con := fun args st => match args, st with
  | [.c (.imm (.int .u8) code)], [] => .opt (((List Int) × Int)) (spec_l17Open code) (fun r => .ret (.c (.ptr 900 0)) [(900, .rc [.imm (.int .u8) r.1, .int .i64 r.2])])
  | _, _ => .fail

noncomputable def C_spec_l17Open : Cfg := { y := tys, n := 11, h := 0, tab := [], cut := [3], hand := [], good := [], deep := [], sched := [] }

theorem t_spec_l17Open : TabOk Try.prog C_spec_l17Open := tabOk_of (fun p h => by cases h)

theorem k_spec_l17Open : Entry Try.prog 94 c_spec_l17Open := by
  refine entry_by (C := C_spec_l17Open) mixed tys_ok t_spec_l17Open (fn := Try.f94) (c := bd Try.f94) (by kernel_rfl) (by kernel_rfl) (by kernel_rfl) (by kernel_rfl) ?_
  intro args st k he
  unfold c_spec_l17Open at he
  split at he
  rotate_left
  · exact he.elim
  rename_i code
  have he : Ok (spec_l17Open code) (fun r => k (.c (.ptr 900 0)) [(900, .rc [.imm (.int .u8) r.1, .int .i64 r.2])]) := he
  refine ⟨rfl, rfl, ?_⟩
  refine seq_model mixed tys_ok t_spec_l17Open (S := (List Int)) (I := (fun code1 => (envOf [(0, .c (.imm (.int .u8) code1))], []))) (B := fun s => Ok (spec_l17Open_j1 s) (fun r => k (.c (.ptr 900 0)) [(900, .rc [.imm (.int .u8) r.1, .int .i64 r.2])])) ?_ ?_
  · rintro code1 he
    have he := ok_some he
    exact ⟨rfl, _, _, (leads_ren [(900, 10)] (l := [(2, .c (.ptr 900 0))]) (st' := [(900, .rc [.imm (.int .u8) code1, .int .i64 (0:Int)])]) rfl rfl ⟨⟨.inl rfl, rfl, trivial⟩, trivial⟩ ⟨⟨⟨rfl, rfl⟩, rfl⟩, trivial⟩), he⟩
  · skip
    refine And.intro (fun hb => ?_) (fun hb => ?_)
    · have he := ok_t he hb
      have he := ok_rq he
      refine And.intro he.1 ?_
      have he := he.2
      exact ⟨(code.take (2000:Int).toNat), he, (leads_ren [] (l := [(0, .c (.imm (.int .u8) (code.take (2000:Int).toNat)))]) (st' := []) rfl rfl trivial ⟨.inl rfl, trivial⟩)⟩
    · have he := ok_f he hb
      exact ⟨code, he, (leads_ren [] (l := [(0, .c (.imm (.int .u8) code))]) (st' := []) rfl rfl trivial ⟨.inl rfl, trivial⟩)⟩

noncomputable def c_spec_l17Rd_pick : Con := fun args st => match args, st with
  | [.c (.ptr 0 0), .c (.int .i64 a1)], [(0, .rc [.imm (.int .u8) o0_0, .int .i64 o0_1])] => .opt (Int × ((List Int) × Int)) (spec_l17Rd_pick a1 (o0_0, o0_1)) (fun r => .ret (.c (.int .i64 r.1)) [(0, .rc [.imm (.int .u8) r.2.1, .int .i64 r.2.2])])
  | _, _ => .fail

noncomputable def C_spec_l17Rd_pick : Cfg := { y := tys, n := 99, h := 1, tab := [], cut := [], hand := [], good := [], deep := [], sched := [] }

theorem t_spec_l17Rd_pick : TabOk Try.prog C_spec_l17Rd_pick := tabOk_of (fun p h => by cases h)

theorem k_spec_l17Rd_pick : Entry Try.prog 166 c_spec_l17Rd_pick := by
  refine entry_by (C := C_spec_l17Rd_pick) mixed tys_ok t_spec_l17Rd_pick (fn := Try.f166) (c := bd Try.f166) (by kernel_rfl) (by kernel_rfl) (by kernel_rfl) (by kernel_rfl) ?_
  intro args st k he
  unfold c_spec_l17Rd_pick at he
  split at he
  rotate_left
  · exact he.elim
  rename_i a1 o0_0 o0_1
  have he : Ok (spec_l17Rd_pick a1 (o0_0, o0_1)) (fun r => k (.c (.int .i64 r.1)) [(0, .rc [.imm (.int .u8) r.2.1, .int .i64 r.2.2])]) := he
  refine ⟨rfl, rfl, ?_⟩
  have he := ok_rq he
  refine And.intro he.1 ?_
  have he := he.2
  refine And.intro (fun hb => ?_) (fun hb => ?_)
  · have he := ok_f he hb
    refine And.intro (fun hb => ?_) (fun hb => ?_)
    · have he := ok_t he hb
      have he := ok_some he
      exact ⟨rfl, _, _, (leads_ren [] (l := [(4, .c (.int .i64 (0:Int)))]) (st' := [(0, .rc [.imm (.int .u8) (o0_0, o0_1).1, .int .i64 ((o0_0, o0_1).2 + (1:Int))])]) rfl rfl ⟨⟨.inl rfl, rfl, trivial⟩, trivial⟩ ⟨rfl, trivial⟩), he⟩
    · have he := ok_f he hb
      have he := ok_rq he
      refine And.intro he.1 ?_
      have he := he.2
      refine And.intro (fun hb => ?_) (fun hb => ?_)
      · have he := ok_t he hb
        have he := ok_rq he
        refine And.intro he.1 ?_
        have he := he.2
        refine fun _ => ?_
        have he := ok_rq he
        refine And.intro he.1 ?_
        have he := he.2
        have he := ok_rq he
        refine And.intro he.1 ?_
        have he := he.2
        have he := ok_some he
        exact ⟨rfl, _, _, (leads_ren [] (l := [(4, .c (.int .i64 (((o0_0, o0_1).1.getD (((o0_0, o0_1).2 + (1:Int)) - (1:Int)).toNat 0) % a1)))]) (st' := [(0, .rc [.imm (.int .u8) (o0_0, o0_1).1, .int .i64 ((o0_0, o0_1).2 + (1:Int))])]) rfl rfl ⟨⟨.inl rfl, rfl, trivial⟩, trivial⟩ ⟨rfl, trivial⟩), he⟩
      · have he := ok_f he hb
        refine And.intro (by kernel_rfl) ?_
        have he := ok_rq he
        refine And.intro he.1 ?_
        have he := he.2
        have he := ok_rq he
        refine And.intro he.1 ?_
        have he := he.2
        refine fun _ => ?_
        have he := ok_rq he
        refine And.intro he.1 ?_
        have he := he.2
        have he := ok_rq he
        refine And.intro he.1 ?_
        have he := he.2
        have he := ok_rq he
        refine And.intro he.1 ?_
        have he := he.2
        have he := ok_rq he
        refine And.intro he.1 ?_
        have he := he.2
        have he := ok_rq he
        refine And.intro he.1 ?_
        have he := he.2
        have he := ok_rq he
        refine And.intro he.1 ?_
        have he := he.2
        refine fun _ => ?_
        have he := ok_rq he
        refine And.intro he.1 ?_
        have he := he.2
        have he := ok_rq he
        refine And.intro he.1 ?_
        have he := he.2
        have he := ok_rq he
        refine And.intro he.1 ?_
        have he := he.2
        have he := ok_rq he
        refine And.intro he.1 ?_
        have he := he.2
        have he := ok_rq he
        refine And.intro he.1 ?_
        have he := he.2
        have he := ok_rq he
        refine And.intro he.1 ?_
        have he := he.2
        have he := ok_rq he
        refine And.intro he.1 ?_
        have he := he.2
        have he := ok_rq he
        refine And.intro he.1 ?_
        have he := he.2
        have he := ok_rq he
        refine And.intro he.1 ?_
        have he := he.2
        have he := ok_rq he
        refine And.intro he.1 ?_
        have he := he.2
        have he := ok_rq he
        refine And.intro he.1 ?_
        have he := he.2
        have he := ok_some he
        exact ⟨rfl, _, _, (leads_ren [] (l := [(4, .c (.int .i64 (((((((((o0_0, o0_1).1.getD ((((o0_0, o0_1).2 + (1:Int)) - (1:Int)) % ((o0_0, o0_1).1.length:Int)).toNat 0) * (131:Int)) + (((o0_0, o0_1).1.getD ((((((o0_0, o0_1).2 + (1:Int)) - (1:Int)) * (7:Int)) + (3:Int)) % ((o0_0, o0_1).1.length:Int)).toNat 0) * (1117:Int))) + ((((o0_0, o0_1).2 + (1:Int)) - (1:Int)) * (29:Int))) + (((((o0_0, o0_1).2 + (1:Int)) - (1:Int)) / ((o0_0, o0_1).1.length:Int)) * (53:Int))).toNat ^^^ (((((((o0_0, o0_1).1.getD ((((o0_0, o0_1).2 + (1:Int)) - (1:Int)) % ((o0_0, o0_1).1.length:Int)).toNat 0) * (131:Int)) + (((o0_0, o0_1).1.getD ((((((o0_0, o0_1).2 + (1:Int)) - (1:Int)) * (7:Int)) + (3:Int)) % ((o0_0, o0_1).1.length:Int)).toNat 0) * (1117:Int))) + ((((o0_0, o0_1).2 + (1:Int)) - (1:Int)) * (29:Int))) + (((((o0_0, o0_1).2 + (1:Int)) - (1:Int)) / ((o0_0, o0_1).1.length:Int)) * (53:Int))) / (64:Int)).toNat : Nat) : Int) % a1)))]) (st' := [(0, .rc [.imm (.int .u8) (o0_0, o0_1).1, .int .i64 ((o0_0, o0_1).2 + (1:Int))])]) rfl rfl ⟨⟨.inl rfl, rfl, trivial⟩, trivial⟩ ⟨rfl, trivial⟩), he⟩
  · have he := ok_t he hb
    have he := ok_some he
    exact ⟨rfl, _, _, (leads_ren [] (l := [(4, .c (.int .i64 (0:Int)))]) (st' := [(0, .rc [.imm (.int .u8) (o0_0, o0_1).1, .int .i64 ((o0_0, o0_1).2 + (1:Int))])]) rfl rfl ⟨⟨.inl rfl, rfl, trivial⟩, trivial⟩ ⟨rfl, trivial⟩), he⟩

noncomputable def c_spec_l17Rd_num : Con := fun args st => match args, st with
  | [.c (.ptr 0 0), .c (.imm (.int .i64) list_)], [(0, .rc [.imm (.int .u8) r__0, .int .i64 r__1])] => .opt (Int × ((List Int) × Int)) (spec_l17Rd_num list_ (r__0, r__1)) (fun r => .ret (.c (.int .i64 r.1)) [(0, .rc [.imm (.int .u8) r.2.1, .int .i64 r.2.2])])
  | _, _ => .fail

noncomputable def C_spec_l17Rd_num : Cfg := { y := tys, n := 12, h := 1, tab := [(166, c_spec_l17Rd_pick)], cut := [], hand := [], good := [], deep := [], sched := [] }

theorem t_spec_l17Rd_num : TabOk Try.prog C_spec_l17Rd_num := by
  refine tabOk_of ?_
  simp only [C_spec_l17Rd_num, List.forall_mem_cons]
  exact ⟨k_spec_l17Rd_pick, fun p h => by cases h⟩

theorem k_spec_l17Rd_num : Entry Try.prog 99 c_spec_l17Rd_num := by
  refine entry_by (C := C_spec_l17Rd_num) mixed tys_ok t_spec_l17Rd_num (fn := Try.f99) (c := bd Try.f99) (by kernel_rfl) (by kernel_rfl) (by kernel_rfl) (by kernel_rfl) ?_
  intro args st k he
  unfold c_spec_l17Rd_num at he
  split at he
  rotate_left
  · exact he.elim
  rename_i list_ r__0 r__1
  have he : Ok (spec_l17Rd_num list_ (r__0, r__1)) (fun r => k (.c (.int .i64 r.1)) [(0, .rc [.imm (.int .u8) r.2.1, .int .i64 r.2.2])]) := he
  refine ⟨rfl, rfl, ?_⟩
  obtain ⟨r1_, hr, he⟩ := ok_bind he
  refine ⟨r1_, hr, ?_⟩
  have he := ok_rq he
  refine And.intro he.1 ?_
  have he := he.2
  have he := ok_some he
  exact ⟨rfl, _, _, (leads_ren [] (l := [(4, .c (.int .i64 (list_.getD r1_.1.toNat 0)))]) (st' := [(0, .rc [.imm (.int .u8) r1_.2.1, .int .i64 r1_.2.2])]) rfl rfl ⟨⟨.inl rfl, rfl, trivial⟩, trivial⟩ ⟨rfl, trivial⟩), he⟩

noncomputable def c_spec_l1Total : Con := fun args st => match args, st with
  | [.agg [.imm (.pair (.int .i64) (.int .i64)) c__0, .int .i64 c__1]], [] => .opt (Int) (spec_l1Total (c__0, c__1)) (fun r => .ret (.c (.int .i64 r)) [])
  | _, _ => .fail

noncomputable def C_spec_l1Total : Cfg := { y := tys, n := 21, h := 0, tab := [], cut := [], hand := [], good := [], deep := [], sched := [] }

theorem t_spec_l1Total : TabOk Try.prog C_spec_l1Total := tabOk_of (fun p h => by cases h)

theorem k_spec_l1Total : Entry Try.prog 235 c_spec_l1Total := by
  refine entry_by (C := C_spec_l1Total) mixed tys_ok t_spec_l1Total (fn := Try.f235) (c := bd Try.f235) (by kernel_rfl) (by kernel_rfl) (by kernel_rfl) (by kernel_rfl) ?_
  intro args st k he
  unfold c_spec_l1Total at he
  split at he
  rotate_left
  · exact he.elim
  rename_i c__0 c__1
  have he : Ok (spec_l1Total (c__0, c__1)) (fun r => k (.c (.int .i64 r)) []) := he
  refine ⟨rfl, rfl, ?_⟩
  refine loop_model mixed tys_ok t_spec_l1Total (S := Int × Int) (I := (fun (n, i) => (envOf [(1, .c (.ptr 10000000 0)), (3, .c (.int .i64 n)), (4, .c (.int .i64 i))], [(10000000, .rc [.imm (.pair (.int .i64) (.int .i64)) (c__0, c__1).1, .int .i64 (c__0, c__1).2])]))) (f := spec_l1Total_l1 (c__0, c__1)) (K := (fun r => k (.c (.int .i64 r)) [])) he (leads_ren [(10000000, 1)] (l := [(1, .c (.ptr 10000000 0)), (3, .c (.int .i64 (0:Int))), (4, .c (.int .i64 (0:Int)))]) (st' := [(10000000, .rc [.imm (.pair (.int .i64) (.int .i64)) (c__0, c__1).1, .int .i64 (c__0, c__1).2])]) rfl rfl ⟨⟨.inl rfl, rfl, trivial⟩, trivial⟩ ⟨⟨⟨rfl, rfl⟩, rfl⟩, rfl, rfl, trivial⟩) ?_
  rintro ⟨n, i⟩ J1 he
  refine And.intro (fun hb => ?_) (fun hb => ?_)
  · have he := ok_t he hb
    have he := ok_rq he
    refine And.intro he.1 ?_
    have he := he.2
    have he := ok_rq he
    refine And.intro he.1 ?_
    have he := he.2
    have he := ok_rq he
    refine And.intro he.1 ?_
    have he := he.2
    have he := ok_some he
    exact ⟨((n + ((c__0, c__1).1.getD i.toNat (0, 0)).1), (i + (1:Int))), he, (leads_ren [] (l := [(1, .c (.ptr 10000000 0)), (3, .c (.int .i64 (n + ((c__0, c__1).1.getD i.toNat (0, 0)).1))), (4, .c (.int .i64 (i + (1:Int))))]) (st' := [(10000000, .rc [.imm (.pair (.int .i64) (.int .i64)) (c__0, c__1).1, .int .i64 (c__0, c__1).2])]) rfl rfl ⟨⟨.inl rfl, rfl, trivial⟩, trivial⟩ ⟨⟨⟨rfl, rfl⟩, rfl⟩, rfl, rfl, trivial⟩)⟩
  · have he := ok_f he hb
    have he := ok_some he
    exact ⟨rfl, _, _, (leads_ren [] (l := [(2, .c (.int .i64 n))]) (st' := []) rfl rfl trivial ⟨rfl, trivial⟩), he⟩

noncomputable def c_spec_l1Draw : Con := fun args st => match args, st with
  | [.c (.ptr 0 0), .c (.int .i64 most)], [(0, .rc [.imm (.int .u8) r__0, .int .i64 r__1])] => .opt (((List Int) × Int) × Int × (List (Int × Int))) (spec_l1Draw most (r__0, r__1)) (fun r => .ret (.agg [.own 901 false, .int .i64 r.2.1]) [(0, .rc [.imm (.int .u8) r.1.1, .int .i64 r.1.2]), (900, .rc [.own 901 false, .int .i64 r.2.1]), (901, .sl 140 (.pair (.int .i64) (.int .i64)) r.2.2 .shallow)])
  | _, _ => .fail

noncomputable def C_spec_l1Draw : Cfg := { y := tys, n := 50, h := 1, tab := [(99, c_spec_l17Rd_num), (166, c_spec_l17Rd_pick), (235, c_spec_l1Total)], cut := [9, 10], hand := [], good := [], deep := [], sched := [] }

theorem t_spec_l1Draw : TabOk Try.prog C_spec_l1Draw := by
  refine tabOk_of ?_
  simp only [C_spec_l1Draw, List.forall_mem_cons]
  exact ⟨k_spec_l17Rd_num, k_spec_l17Rd_pick, k_spec_l1Total, fun p h => by cases h⟩

theorem k_spec_l1Draw : Entry Try.prog 167 c_spec_l1Draw := by
  refine entry_by (C := C_spec_l1Draw) mixed tys_ok t_spec_l1Draw (fn := Try.f167) (c := bd Try.f167) (by kernel_rfl) (by kernel_rfl) (by kernel_rfl) (by kernel_rfl) ?_
  intro args st k he
  unfold c_spec_l1Draw at he
  split at he
  rotate_left
  · exact he.elim
  rename_i most r__0 r__1
  have he : Ok (spec_l1Draw most (r__0, r__1)) (fun r => k (.agg [.own 901 false, .int .i64 r.2.1]) [(0, .rc [.imm (.int .u8) r.1.1, .int .i64 r.1.2]), (900, .rc [.own 901 false, .int .i64 r.2.1]), (901, .sl 140 (.pair (.int .i64) (.int .i64)) r.2.2 .shallow)]) := he
  refine ⟨rfl, rfl, ?_⟩
  refine seq_model mixed tys_ok t_spec_l1Draw (S := ((List Int) × Int) × (List (Int × Int))) (I := (fun (r_4, c_01) => (envOf [(0, .c (.ptr 0 0)), (4, .c (.ptr 10003000 0)), (5, .c (.ptr 10003001 0))], [(0, .rc [.imm (.int .u8) r_4.1, .int .i64 r_4.2]), (10003000, .rc [.nil, .int .i64 (0:Int)]), (10003001, .rc [.own 10003002 false, .int .i64 (0:Int)]), (10003002, .sl 140 (.pair (.int .i64) (.int .i64)) c_01 .shallow)]))) (B := fun s => Ok (spec_l1Draw_j1 s) (fun r => k (.agg [.own 901 false, .int .i64 r.2.1]) [(0, .rc [.imm (.int .u8) r.1.1, .int .i64 r.1.2]), (900, .rc [.own 901 false, .int .i64 r.2.1]), (901, .sl 140 (.pair (.int .i64) (.int .i64)) r.2.2 .shallow)])) ?_ ?_
  · rintro ⟨r_4, c_01⟩ he
    obtain ⟨r7_, hr, he⟩ := ok_bind he
    refine ⟨r7_, hr, ?_⟩
    obtain ⟨r8_, hr, he⟩ := ok_bind he
    refine ⟨r8_, hr, ?_⟩
    obtain ⟨r9_, hr, he⟩ := ok_bind he
    refine ⟨r9_, hr, ?_⟩
    refine And.intro (fun hb => ?_) (fun hb => ?_)
    · have he := ok_t he hb
      have he := ok_rq he
      refine And.intro he.1 ?_
      have he := he.2
      obtain ⟨r10_, hr, he⟩ := ok_bind he
      refine ⟨r10_, hr, ?_⟩
      have he := ok_some he
      exact ⟨rfl, _, _, (leads_ren [(900, 10003000), (901, 10003002)] (l := [(4, .c (.ptr 900 0))]) (st' := [(0, .rc [.imm (.int .u8) r10_.2.1, .int .i64 r10_.2.2]), (900, .rc [.own 901 false, .int .i64 r10_.1]), (901, .sl 140 (.pair (.int .i64) (.int .i64)) c_01 .shallow)]) rfl rfl ⟨⟨.inl rfl, rfl, trivial⟩, ⟨⟨⟨rfl, rfl⟩, trivial⟩, rfl, trivial⟩, ⟨rfl, rfl⟩, trivial⟩ ⟨⟨⟨rfl, rfl⟩, rfl⟩, trivial⟩), he⟩
    · have he := ok_f he hb
      have he := ok_some he
      exact ⟨rfl, _, _, (leads_ren [(900, 10003000), (901, 10003002)] (l := [(4, .c (.ptr 900 0))]) (st' := [(0, .rc [.imm (.int .u8) r9_.2.1, .int .i64 r9_.2.2]), (900, .rc [.own 901 false, .int .i64 r8_.1]), (901, .sl 140 (.pair (.int .i64) (.int .i64)) c_01 .shallow)]) rfl rfl ⟨⟨.inl rfl, rfl, trivial⟩, ⟨⟨⟨rfl, rfl⟩, trivial⟩, rfl, trivial⟩, ⟨rfl, rfl⟩, trivial⟩ ⟨⟨⟨rfl, rfl⟩, rfl⟩, trivial⟩), he⟩
  · skip
    refine loop_model mixed tys_ok t_spec_l1Draw (S := Int × ((List Int) × Int) × (List (Int × Int))) (I := (fun (v, r_2, c_0) => (envOf [(0, .c (.ptr 0 0)), (1, .c (.int .i64 most)), (4, .c (.ptr 10000000 0)), (5, .c (.ptr 10000001 0)), (6, .c (.int .i64 v))], [(0, .rc [.imm (.int .u8) r_2.1, .int .i64 r_2.2]), (10000000, .rc [.nil, .int .i64 (0:Int)]), (10000001, .rc [.own 10000002 false, .int .i64 (0:Int)]), (10000002, .sl 140 (.pair (.int .i64) (.int .i64)) c_0 .shallow)]))) (f := spec_l1Draw_l1 most) (K := (fun r => k (.agg [.own 901 false, .int .i64 r.2.1]) [(0, .rc [.imm (.int .u8) r.1.1, .int .i64 r.1.2]), (900, .rc [.own 901 false, .int .i64 r.2.1]), (901, .sl 140 (.pair (.int .i64) (.int .i64)) r.2.2 .shallow)])) he (leads_ren [(10000000, 4), (10000001, 5)] (l := [(0, .c (.ptr 0 0)), (1, .c (.int .i64 most)), (4, .c (.ptr 10000000 0)), (5, .c (.ptr 10000001 0)), (6, .c (.int .i64 (1:Int)))]) (st' := [(0, .rc [.imm (.int .u8) (r__0, r__1).1, .int .i64 (r__0, r__1).2]), (10000000, .rc [.nil, .int .i64 (0:Int)]), (10000001, .rc [.own 10000002 false, .int .i64 (0:Int)]), (10000002, .sl 140 (.pair (.int .i64) (.int .i64)) ([] : List (Int × Int)) .shallow)]) rfl rfl ⟨⟨.inl rfl, rfl, trivial⟩, ⟨rfl, rfl, trivial⟩, ⟨⟨rfl, trivial⟩, rfl, trivial⟩, trivial, trivial⟩ ⟨⟨⟨rfl, rfl⟩, rfl⟩, rfl, ⟨⟨rfl, rfl⟩, rfl⟩, ⟨⟨rfl, rfl⟩, rfl⟩, rfl, trivial⟩) ?_
    rintro ⟨v, r_2, c_0⟩ J1 he
    refine And.intro (fun hb => ?_) (fun hb => ?_)
    · have he := ok_t he hb
      obtain ⟨r4_, hr, he⟩ := ok_bind he
      refine ⟨r4_, hr, ?_⟩
      refine And.intro (fun hb => ?_) (fun hb => ?_)
      · have he := ok_t he hb
        obtain ⟨r5_, hr, he⟩ := ok_bind he
        refine ⟨r5_, hr, ?_⟩
        refine seq_model mixed tys_ok t_spec_l1Draw (S := ((List Int) × Int) × (Int × Int)) (I := (fun (r_3, t_1) => (envOf [(0, .c (.ptr 0 0)), (1, .c (.int .i64 most)), (4, .c (.ptr 10002000 0)), (5, .c (.ptr 10002001 0)), (6, .c (.int .i64 v)), (7, .c (.ptr 10002002 0))], [(0, .rc [.imm (.int .u8) r_3.1, .int .i64 r_3.2]), (10002000, .rc [.nil, .int .i64 (0:Int)]), (10002001, .rc [.own 10002003 false, .int .i64 (0:Int)]), (10002002, .rc [.int .i64 t_1.1, .int .i64 t_1.2]), (10002003, .sl 140 (.pair (.int .i64) (.int .i64)) c_0 .shallow)]))) (B := fun s => Ok (spec_l1Draw_j2 v c_0 s) (LK J1 (fun r => k (.agg [.own 901 false, .int .i64 r.2.1]) [(0, .rc [.imm (.int .u8) r.1.1, .int .i64 r.1.2]), (900, .rc [.own 901 false, .int .i64 r.2.1]), (901, .sl 140 (.pair (.int .i64) (.int .i64)) r.2.2 .shallow)]))) ?_ ?_
        · rintro ⟨r_3, t_1⟩ he
          have he := ok_rq he
          refine And.intro he.1 ?_
          have he := he.2
          have he := ok_rq he
          refine And.intro he.1 ?_
          have he := he.2
          have he := ok_some he
          exact ⟨((v + (1:Int)), r_3, (c_0 ++ [t_1])), he, (leads_ren [(10000000, 10002000), (10000001, 10002001), (10000002, 33)] (l := [(0, .c (.ptr 0 0)), (1, .c (.int .i64 most)), (4, .c (.ptr 10000000 0)), (5, .c (.ptr 10000001 0)), (6, .c (.int .i64 (v + (1:Int))))]) (st' := [(0, .rc [.imm (.int .u8) r_3.1, .int .i64 r_3.2]), (10000000, .rc [.nil, .int .i64 (0:Int)]), (10000001, .rc [.own 10000002 false, .int .i64 (0:Int)]), (10000002, .sl 140 (.pair (.int .i64) (.int .i64)) (c_0 ++ [t_1]) .shallow)]) rfl rfl ⟨⟨.inl rfl, rfl, trivial⟩, ⟨rfl, rfl, trivial⟩, ⟨⟨⟨rfl, rfl⟩, trivial⟩, rfl, trivial⟩, ⟨rfl, rfl⟩, trivial⟩ ⟨⟨⟨rfl, rfl⟩, rfl⟩, rfl, ⟨⟨rfl, rfl⟩, rfl⟩, ⟨⟨rfl, rfl⟩, rfl⟩, rfl, trivial⟩)⟩
        · skip
          obtain ⟨r6_, hr, he⟩ := ok_bind he
          refine ⟨r6_, hr, ?_⟩
          refine And.intro (fun hb => ?_) (fun hb => ?_)
          · have he := ok_t he hb
            have he := ok_rq he
            refine And.intro he.1 ?_
            have he := he.2
            exact ⟨(r6_.2, (r5_.1, (0 - v))), he, (leads_ren [(10002000, 10000000), (10002001, 10000001), (10002002, 7), (10002003, 10000002)] (l := [(0, .c (.ptr 0 0)), (1, .c (.int .i64 most)), (4, .c (.ptr 10002000 0)), (5, .c (.ptr 10002001 0)), (6, .c (.int .i64 v)), (7, .c (.ptr 10002002 0))]) (st' := [(0, .rc [.imm (.int .u8) r6_.2.1, .int .i64 r6_.2.2]), (10002000, .rc [.nil, .int .i64 (0:Int)]), (10002001, .rc [.own 10002003 false, .int .i64 (0:Int)]), (10002002, .rc [.int .i64 (r5_.1, (0 - v)).1, .int .i64 (r5_.1, (0 - v)).2]), (10002003, .sl 140 (.pair (.int .i64) (.int .i64)) c_0 .shallow)]) rfl rfl ⟨⟨.inl rfl, rfl, trivial⟩, ⟨rfl, rfl, trivial⟩, ⟨⟨⟨rfl, rfl⟩, trivial⟩, rfl, trivial⟩, ⟨rfl, rfl, trivial⟩, ⟨rfl, rfl⟩, trivial⟩ ⟨⟨⟨rfl, rfl⟩, rfl⟩, rfl, ⟨⟨rfl, rfl⟩, rfl⟩, ⟨⟨rfl, rfl⟩, rfl⟩, rfl, ⟨⟨rfl, rfl⟩, rfl⟩, trivial⟩)⟩
          · have he := ok_f he hb
            exact ⟨(r6_.2, (r5_.1, v)), he, (leads_ren [(10002000, 10000000), (10002001, 10000001), (10002002, 7), (10002003, 10000002)] (l := [(0, .c (.ptr 0 0)), (1, .c (.int .i64 most)), (4, .c (.ptr 10002000 0)), (5, .c (.ptr 10002001 0)), (6, .c (.int .i64 v)), (7, .c (.ptr 10002002 0))]) (st' := [(0, .rc [.imm (.int .u8) r6_.2.1, .int .i64 r6_.2.2]), (10002000, .rc [.nil, .int .i64 (0:Int)]), (10002001, .rc [.own 10002003 false, .int .i64 (0:Int)]), (10002002, .rc [.int .i64 (r5_.1, v).1, .int .i64 (r5_.1, v).2]), (10002003, .sl 140 (.pair (.int .i64) (.int .i64)) c_0 .shallow)]) rfl rfl ⟨⟨.inl rfl, rfl, trivial⟩, ⟨rfl, rfl, trivial⟩, ⟨⟨⟨rfl, rfl⟩, trivial⟩, rfl, trivial⟩, ⟨rfl, rfl, trivial⟩, ⟨rfl, rfl⟩, trivial⟩ ⟨⟨⟨rfl, rfl⟩, rfl⟩, rfl, ⟨⟨rfl, rfl⟩, rfl⟩, ⟨⟨rfl, rfl⟩, rfl⟩, rfl, ⟨⟨rfl, rfl⟩, rfl⟩, trivial⟩)⟩
      · have he := ok_f he hb
        have he := ok_rq he
        refine And.intro he.1 ?_
        have he := he.2
        have he := ok_some he
        exact ⟨((v + (1:Int)), r4_.2, c_0), he, (leads_ren [] (l := [(0, .c (.ptr 0 0)), (1, .c (.int .i64 most)), (4, .c (.ptr 10000000 0)), (5, .c (.ptr 10000001 0)), (6, .c (.int .i64 (v + (1:Int))))]) (st' := [(0, .rc [.imm (.int .u8) r4_.2.1, .int .i64 r4_.2.2]), (10000000, .rc [.nil, .int .i64 (0:Int)]), (10000001, .rc [.own 10000002 false, .int .i64 (0:Int)]), (10000002, .sl 140 (.pair (.int .i64) (.int .i64)) c_0 .shallow)]) rfl rfl ⟨⟨.inl rfl, rfl, trivial⟩, ⟨rfl, rfl, trivial⟩, ⟨⟨⟨rfl, rfl⟩, trivial⟩, rfl, trivial⟩, ⟨rfl, rfl⟩, trivial⟩ ⟨⟨⟨rfl, rfl⟩, rfl⟩, rfl, ⟨⟨rfl, rfl⟩, rfl⟩, ⟨⟨rfl, rfl⟩, rfl⟩, rfl, trivial⟩)⟩
    · have he := ok_f he hb
      exact ⟨(r_2, c_0), ok_up he, (leads_ren [(10003000, 10000000), (10003001, 10000001), (10003002, 10000002)] (l := [(0, .c (.ptr 0 0)), (4, .c (.ptr 10003000 0)), (5, .c (.ptr 10003001 0))]) (st' := [(0, .rc [.imm (.int .u8) r_2.1, .int .i64 r_2.2]), (10003000, .rc [.nil, .int .i64 (0:Int)]), (10003001, .rc [.own 10003002 false, .int .i64 (0:Int)]), (10003002, .sl 140 (.pair (.int .i64) (.int .i64)) c_0 .shallow)]) rfl rfl ⟨⟨.inl rfl, rfl, trivial⟩, ⟨rfl, rfl, trivial⟩, ⟨⟨⟨rfl, rfl⟩, trivial⟩, rfl, trivial⟩, ⟨rfl, rfl⟩, trivial⟩ ⟨⟨⟨rfl, rfl⟩, rfl⟩, ⟨⟨rfl, rfl⟩, rfl⟩, ⟨⟨rfl, rfl⟩, rfl⟩, trivial⟩)⟩

noncomputable def c_spec_l3Problem : Con := fun args st => match args, st with
  | [.c (.ptr 0 0)], [(0, .rc [.imm (.int .u8) r__0, .int .i64 r__1])] => .opt (((List Int) × Int) × (List ((List (Int × Int)) × Int))) (spec_l3Problem (r__0, r__1)) (fun r => .ret (.c (.own 900 false)) [(0, .rc [.imm (.int .u8) r.1.1, .int .i64 r.1.2]), (900, .sl 33 (.pair (.sl (.pair (.int .i64) (.int .i64))) (.int .i64)) r.2 (.deep true .no))])
  | _, _ => .fail

noncomputable def C_spec_l3Problem : Cfg := { y := tys, n := 24, h := 1, tab := [(99, c_spec_l17Rd_num), (167, c_spec_l1Draw)], cut := [], hand := [], good := [], deep := [6, 21], sched := [] }

theorem t_spec_l3Problem : TabOk Try.prog C_spec_l3Problem := by
  refine tabOk_of ?_
  simp only [C_spec_l3Problem, List.forall_mem_cons]
  exact ⟨k_spec_l17Rd_num, k_spec_l1Draw, fun p h => by cases h⟩

theorem k_spec_l3Problem : Entry Try.prog 239 c_spec_l3Problem := by
  refine entry_by (C := C_spec_l3Problem) mixed tys_ok t_spec_l3Problem (fn := Try.f239) (c := bd Try.f239) (by kernel_rfl) (by kernel_rfl) (by kernel_rfl) (by kernel_rfl) ?_
  intro args st k he
  unfold c_spec_l3Problem at he
  split at he
  rotate_left
  · exact he.elim
  rename_i r__0 r__1
  have he : Ok (spec_l3Problem (r__0, r__1)) (fun r => k (.c (.own 900 false)) [(0, .rc [.imm (.int .u8) r.1.1, .int .i64 r.1.2]), (900, .sl 33 (.pair (.sl (.pair (.int .i64) (.int .i64))) (.int .i64)) r.2 (.deep true .no))]) := he
  refine ⟨rfl, rfl, ?_⟩
  obtain ⟨r1_, hr, he⟩ := ok_bind he
  refine ⟨r1_, hr, ?_⟩
  obtain ⟨r2_, hr, he⟩ := ok_bind he
  refine ⟨r2_, hr, ?_⟩
  refine loop_model mixed tys_ok t_spec_l3Problem (S := Int × ((List Int) × Int) × (List ((List (Int × Int)) × Int))) (I := (fun (i, r_1, out) => (envOf [(0, .c (.ptr 0 0)), (3, .c (.own 10000000 false)), (4, .c (.int .i64 r1_.1)), (5, .c (.int .i64 i))], [(0, .rc [.imm (.int .u8) r_1.1, .int .i64 r_1.2]), (10000000, .sl 33 (.pair (.sl (.pair (.int .i64) (.int .i64))) (.int .i64)) out (.deep true .no))]))) (f := spec_l3Problem_l1 r1_) (K := (fun r => k (.c (.own 900 false)) [(0, .rc [.imm (.int .u8) r.1.1, .int .i64 r.1.2]), (900, .sl 33 (.pair (.sl (.pair (.int .i64) (.int .i64))) (.int .i64)) r.2 (.deep true .no))])) he (leads_ren [(10000000, 6)] (l := [(0, .c (.ptr 0 0)), (3, .c (.own 10000000 false)), (4, .c (.int .i64 r1_.1)), (5, .c (.int .i64 r2_.1))]) (st' := [(0, .rc [.imm (.int .u8) r2_.2.1, .int .i64 r2_.2.2]), (10000000, .sl 33 (.pair (.sl (.pair (.int .i64) (.int .i64))) (.int .i64)) ([] : List ((List (Int × Int)) × Int)) (.deep true .no))]) rfl rfl ⟨⟨.inl rfl, rfl, trivial⟩, ⟨rfl, rfl⟩, trivial⟩ ⟨⟨⟨rfl, rfl⟩, rfl⟩, ⟨⟨rfl, rfl⟩, trivial⟩, rfl, rfl, trivial⟩) ?_
  rintro ⟨i, r_1, out⟩ J1 he
  refine And.intro (fun hb => ?_) (fun hb => ?_)
  · have he := ok_t he hb
    obtain ⟨r4_, hr, he⟩ := ok_bind he
    refine ⟨r4_, hr, ?_⟩
    have he := ok_rq he
    refine And.intro he.1 ?_
    have he := he.2
    have he := ok_rq he
    refine And.intro he.1 ?_
    have he := he.2
    have he := ok_some he
    exact ⟨((i - (1:Int)), r4_.1, (out ++ [(r4_.2.2, r4_.2.1)])), he, (leads_ren [(10000000, 22)] (l := [(0, .c (.ptr 0 0)), (3, .c (.own 10000000 false)), (4, .c (.int .i64 r1_.1)), (5, .c (.int .i64 (i - (1:Int))))]) (st' := [(0, .rc [.imm (.int .u8) r4_.1.1, .int .i64 r4_.1.2]), (10000000, .sl 33 (.pair (.sl (.pair (.int .i64) (.int .i64))) (.int .i64)) (out ++ [(r4_.2.2, r4_.2.1)]) (.deep true .no))]) rfl rfl ⟨⟨.inl rfl, rfl, trivial⟩, ⟨rfl, rfl⟩, trivial⟩ ⟨⟨⟨rfl, rfl⟩, rfl⟩, ⟨⟨rfl, rfl⟩, trivial⟩, rfl, rfl, trivial⟩)⟩
  · have he := ok_f he hb
    have he := ok_some he
    exact ⟨rfl, _, _, (leads_ren [(900, 10000000)] (l := [(2, .c (.own 900 false))]) (st' := [(0, .rc [.imm (.int .u8) r_1.1, .int .i64 r_1.2]), (900, .sl 33 (.pair (.sl (.pair (.int .i64) (.int .i64))) (.int .i64)) out (.deep true .no))]) rfl rfl ⟨⟨.inl rfl, rfl, trivial⟩, ⟨rfl, rfl⟩, trivial⟩ ⟨⟨⟨rfl, rfl⟩, trivial⟩, trivial⟩), he⟩

noncomputable def c_spec_l5Hard : Con := fun args st => match args, st with
  | [.c (.ptr 0 0)], [(0, .rc [.imm (.int .u8) r__0, .int .i64 r__1])] => .opt (((List Int) × Int) × (List ((List (Int × Int)) × Int))) (spec_l5Hard (r__0, r__1)) (fun r => .ret (.c (.own 900 false)) [(0, .rc [.imm (.int .u8) r.1.1, .int .i64 r.1.2]), (900, .sl 33 (.pair (.sl (.pair (.int .i64) (.int .i64))) (.int .i64)) r.2 (.deep true .no))])
  | _, _ => .fail

noncomputable def C_spec_l5Hard : Cfg := { y := tys, n := 33, h := 1, tab := [(99, c_spec_l17Rd_num), (166, c_spec_l17Rd_pick), (167, c_spec_l1Draw), (235, c_spec_l1Total), (239, c_spec_l3Problem)], cut := [], hand := [], good := [], deep := [30], sched := [] }

theorem t_spec_l5Hard : TabOk Try.prog C_spec_l5Hard := by
  refine tabOk_of ?_
  simp only [C_spec_l5Hard, List.forall_mem_cons]
  exact ⟨k_spec_l17Rd_num, k_spec_l17Rd_pick, k_spec_l1Draw, k_spec_l1Total, k_spec_l3Problem, fun p h => by cases h⟩

theorem k_spec_l5Hard : Entry Try.prog 178 c_spec_l5Hard := by
  refine entry_by (C := C_spec_l5Hard) mixed tys_ok t_spec_l5Hard (fn := Try.f178) (c := bd Try.f178) (by kernel_rfl) (by kernel_rfl) (by kernel_rfl) (by kernel_rfl) ?_
  intro args st k he
  unfold c_spec_l5Hard at he
  split at he
  rotate_left
  · exact he.elim
  rename_i r__0 r__1
  have he : Ok (spec_l5Hard (r__0, r__1)) (fun r => k (.c (.own 900 false)) [(0, .rc [.imm (.int .u8) r.1.1, .int .i64 r.1.2]), (900, .sl 33 (.pair (.sl (.pair (.int .i64) (.int .i64))) (.int .i64)) r.2 (.deep true .no))]) := he
  refine ⟨rfl, rfl, ?_⟩
  obtain ⟨r1_, hr, he⟩ := ok_bind he
  refine ⟨r1_, hr, ?_⟩
  obtain ⟨r2_, hr, he⟩ := ok_bind he
  refine ⟨r2_, hr, ?_⟩
  refine loop_model mixed tys_ok t_spec_l5Hard (S := Int × ((List Int) × Int) × (List ((List (Int × Int)) × Int))) (I := (fun (i, r_1, list_) => (envOf [(0, .c (.ptr 0 0)), (3, .c (.own 10000000 false)), (4, .c (.int .i64 i))], [(0, .rc [.imm (.int .u8) r_1.1, .int .i64 r_1.2]), (10000000, .sl 33 (.pair (.sl (.pair (.int .i64) (.int .i64))) (.int .i64)) list_ (.deep true .no))]))) (f := spec_l5Hard_l1) (K := (fun r => k (.c (.own 900 false)) [(0, .rc [.imm (.int .u8) r.1.1, .int .i64 r.1.2]), (900, .sl 33 (.pair (.sl (.pair (.int .i64) (.int .i64))) (.int .i64)) r.2 (.deep true .no))])) he (leads_ren [(10000000, 9900)] (l := [(0, .c (.ptr 0 0)), (3, .c (.own 10000000 false)), (4, .c (.int .i64 r2_.1))]) (st' := [(0, .rc [.imm (.int .u8) r2_.2.1, .int .i64 r2_.2.2]), (10000000, .sl 33 (.pair (.sl (.pair (.int .i64) (.int .i64))) (.int .i64)) r1_.2 (.deep true .no))]) rfl rfl ⟨⟨.inl rfl, rfl, trivial⟩, ⟨rfl, rfl⟩, trivial⟩ ⟨⟨⟨rfl, rfl⟩, rfl⟩, ⟨⟨rfl, rfl⟩, trivial⟩, rfl, trivial⟩) ?_
  rintro ⟨i, r_1, list_⟩ J1 he
  refine And.intro (fun hb => ?_) (fun hb => ?_)
  · have he := ok_t he hb
    obtain ⟨r6_, hr, he⟩ := ok_bind he
    refine ⟨r6_, hr, ?_⟩
    obtain ⟨r7_, hr, he⟩ := ok_bind he
    refine ⟨r7_, hr, ?_⟩
    have he := ok_rq he
    refine And.intro he.1 ?_
    have he := he.2
    have he := ok_rq he
    refine And.intro he.1 ?_
    have he := he.2
    obtain ⟨r8_, hr, he⟩ := ok_bind he
    refine ⟨r8_, hr, ?_⟩
    have he := ok_rq he
    refine And.intro he.1 ?_
    have he := he.2
    have he := ok_rq he
    refine And.intro he.1 ?_
    have he := he.2
    have he := ok_rq he
    refine And.intro he.1 ?_
    have he := he.2
    have he := ok_some he
    exact ⟨((i - (1:Int)), r8_.2, (list_ ++ [(r6_.2.2, (r7_ - r8_.1))])), he, (leads_ren [(10000000, 31)] (l := [(0, .c (.ptr 0 0)), (3, .c (.own 10000000 false)), (4, .c (.int .i64 (i - (1:Int))))]) (st' := [(0, .rc [.imm (.int .u8) r8_.2.1, .int .i64 r8_.2.2]), (10000000, .sl 33 (.pair (.sl (.pair (.int .i64) (.int .i64))) (.int .i64)) (list_ ++ [(r6_.2.2, (r7_ - r8_.1))]) (.deep true .no))]) rfl rfl ⟨⟨.inl rfl, rfl, trivial⟩, ⟨rfl, rfl⟩, trivial⟩ ⟨⟨⟨rfl, rfl⟩, rfl⟩, ⟨⟨rfl, rfl⟩, trivial⟩, rfl, trivial⟩)⟩
  · have he := ok_f he hb
    have he := ok_some he
    exact ⟨rfl, _, _, (leads_ren [(900, 10000000)] (l := [(2, .c (.own 900 false))]) (st' := [(0, .rc [.imm (.int .u8) r_1.1, .int .i64 r_1.2]), (900, .sl 33 (.pair (.sl (.pair (.int .i64) (.int .i64))) (.int .i64)) list_ (.deep true .no))]) rfl rfl ⟨⟨.inl rfl, rfl, trivial⟩, ⟨rfl, rfl⟩, trivial⟩ ⟨⟨⟨rfl, rfl⟩, trivial⟩, trivial⟩), he⟩

noncomputable def c_spec_l1Copy : Con := fun args st => match args, st with
  | [.agg [.imm (.pair (.int .i64) (.int .i64)) c__0, .int .i64 c__1]], [] => .opt (Int × (List (Int × Int))) (spec_l1Copy (c__0, c__1)) (fun r => .ret (.agg [.own 901 false, .int .i64 r.1]) [(900, .rc [.own 901 false, .int .i64 r.1]), (901, .sl 140 (.pair (.int .i64) (.int .i64)) r.2 .shallow)])
  | _, _ => .fail

noncomputable def C_spec_l1Copy : Cfg := { y := tys, n := 10, h := 0, tab := [], cut := [], hand := [], good := [], deep := [], sched := [(1, (.first 1 (.first 4 (.alt 0 (.alt 2 (.alt 3 (.alt 5 (.alt 6 (.alt 7 .done .stop) .stop) .stop) (.alt 5 (.alt 3 (.alt 6 (.alt 7 .done .stop) .stop) .stop) .stop)) (.alt 5 (.alt 2 (.alt 3 (.alt 6 (.alt 7 .done .stop) .stop) .stop) .stop) .stop)) (.alt 2 (.alt 0 (.alt 3 (.alt 5 (.alt 6 (.alt 7 .done .stop) .stop) .stop) (.alt 5 (.alt 3 (.alt 6 (.alt 7 .done .stop) .stop) .stop) .stop)) (.alt 5 (.alt 0 (.alt 3 (.alt 6 (.alt 7 .done .stop) .stop) .stop) .stop) .stop)) (.alt 5 (.alt 0 (.alt 2 (.alt 3 (.alt 6 (.alt 7 .done .stop) .stop) .stop) .stop) (.alt 2 (.alt 0 (.alt 3 (.alt 6 (.alt 7 .done .stop) .stop) .stop) .stop) .stop)) .stop))))))] }

theorem t_spec_l1Copy : TabOk Try.prog C_spec_l1Copy := tabOk_of (fun p h => by cases h)

theorem k_spec_l1Copy : Entry Try.prog 242 c_spec_l1Copy := by
  refine entry_by (C := C_spec_l1Copy) mixed tys_ok t_spec_l1Copy (fn := Try.f242) (c := bd Try.f242) (by kernel_rfl) (by kernel_rfl) (by kernel_rfl) (by kernel_rfl) ?_
  intro args st k he
  unfold c_spec_l1Copy at he
  split at he
  rotate_left
  · exact he.elim
  rename_i c__0 c__1
  have he : Ok (spec_l1Copy (c__0, c__1)) (fun r => k (.agg [.own 901 false, .int .i64 r.1]) [(900, .rc [.own 901 false, .int .i64 r.1]), (901, .sl 140 (.pair (.int .i64) (.int .i64)) r.2 .shallow)]) := he
  refine ⟨rfl, rfl, ?_⟩
  refine And.intro (by kernel_rfl) ?_
  have he := ok_rq he
  have hq1 := he.1
  have he := he.2
  refine And.intro ?_ (And.intro ?_ (And.intro ?_ (trivial)))
  · skip
    refine And.intro ?_ (And.intro ?_ (trivial))
    · skip
      refine And.intro ?_ (And.intro ?_ (trivial))
      · skip
        refine And.intro hq1 ?_
        refine And.intro ?_ trivial
        refine And.intro ?_ trivial
        refine And.intro ?_ trivial
        have he := ok_some he
        exact ⟨rfl, _, _, (leads_ren [(900, 2), (901, 6)] (l := [(2, .c (.ptr 900 0))]) (st' := [(900, .rc [.own 901 false, .int .i64 (c__0, c__1).2]), (901, .sl 140 (.pair (.int .i64) (.int .i64)) (([] : List (Int × Int)) ++ (c__0, c__1).1) .shallow)]) rfl rfl ⟨⟨⟨⟨rfl, rfl⟩, trivial⟩, rfl, trivial⟩, ⟨rfl, rfl⟩, trivial⟩ ⟨⟨⟨rfl, rfl⟩, rfl⟩, trivial⟩), he⟩
      · skip
        refine And.intro ?_ trivial
        refine And.intro hq1 ?_
        refine And.intro ?_ trivial
        refine And.intro ?_ trivial
        have he := ok_some he
        exact ⟨rfl, _, _, (leads_ren [(900, 2), (901, 6)] (l := [(2, .c (.ptr 900 0))]) (st' := [(900, .rc [.own 901 false, .int .i64 (c__0, c__1).2]), (901, .sl 140 (.pair (.int .i64) (.int .i64)) (([] : List (Int × Int)) ++ (c__0, c__1).1) .shallow)]) rfl rfl ⟨⟨⟨⟨rfl, rfl⟩, trivial⟩, rfl, trivial⟩, ⟨rfl, rfl⟩, trivial⟩ ⟨⟨⟨rfl, rfl⟩, rfl⟩, trivial⟩), he⟩
    · skip
      refine And.intro ?_ trivial
      refine And.intro ?_ trivial
      refine And.intro hq1 ?_
      refine And.intro ?_ trivial
      refine And.intro ?_ trivial
      have he := ok_some he
      exact ⟨rfl, _, _, (leads_ren [(900, 2), (901, 6)] (l := [(2, .c (.ptr 900 0))]) (st' := [(900, .rc [.own 901 false, .int .i64 (c__0, c__1).2]), (901, .sl 140 (.pair (.int .i64) (.int .i64)) (([] : List (Int × Int)) ++ (c__0, c__1).1) .shallow)]) rfl rfl ⟨⟨⟨⟨rfl, rfl⟩, trivial⟩, rfl, trivial⟩, ⟨rfl, rfl⟩, trivial⟩ ⟨⟨⟨rfl, rfl⟩, rfl⟩, trivial⟩), he⟩
  · skip
    refine And.intro ?_ (And.intro ?_ (trivial))
    · skip
      refine And.intro ?_ (And.intro ?_ (trivial))
      · skip
        refine And.intro hq1 ?_
        refine And.intro ?_ trivial
        refine And.intro ?_ trivial
        refine And.intro ?_ trivial
        have he := ok_some he
        exact ⟨rfl, _, _, (leads_ren [(900, 2), (901, 6)] (l := [(2, .c (.ptr 900 0))]) (st' := [(900, .rc [.own 901 false, .int .i64 (c__0, c__1).2]), (901, .sl 140 (.pair (.int .i64) (.int .i64)) (([] : List (Int × Int)) ++ (c__0, c__1).1) .shallow)]) rfl rfl ⟨⟨⟨⟨rfl, rfl⟩, trivial⟩, rfl, trivial⟩, ⟨rfl, rfl⟩, trivial⟩ ⟨⟨⟨rfl, rfl⟩, rfl⟩, trivial⟩), he⟩
      · skip
        refine And.intro ?_ trivial
        refine And.intro hq1 ?_
        refine And.intro ?_ trivial
        refine And.intro ?_ trivial
        have he := ok_some he
        exact ⟨rfl, _, _, (leads_ren [(900, 2), (901, 6)] (l := [(2, .c (.ptr 900 0))]) (st' := [(900, .rc [.own 901 false, .int .i64 (c__0, c__1).2]), (901, .sl 140 (.pair (.int .i64) (.int .i64)) (([] : List (Int × Int)) ++ (c__0, c__1).1) .shallow)]) rfl rfl ⟨⟨⟨⟨rfl, rfl⟩, trivial⟩, rfl, trivial⟩, ⟨rfl, rfl⟩, trivial⟩ ⟨⟨⟨rfl, rfl⟩, rfl⟩, trivial⟩), he⟩
    · skip
      refine And.intro ?_ trivial
      refine And.intro ?_ trivial
      refine And.intro hq1 ?_
      refine And.intro ?_ trivial
      refine And.intro ?_ trivial
      have he := ok_some he
      exact ⟨rfl, _, _, (leads_ren [(900, 2), (901, 6)] (l := [(2, .c (.ptr 900 0))]) (st' := [(900, .rc [.own 901 false, .int .i64 (c__0, c__1).2]), (901, .sl 140 (.pair (.int .i64) (.int .i64)) (([] : List (Int × Int)) ++ (c__0, c__1).1) .shallow)]) rfl rfl ⟨⟨⟨⟨rfl, rfl⟩, trivial⟩, rfl, trivial⟩, ⟨rfl, rfl⟩, trivial⟩ ⟨⟨⟨rfl, rfl⟩, rfl⟩, trivial⟩), he⟩
  · skip
    refine And.intro ?_ (And.intro ?_ (trivial))
    · skip
      refine And.intro ?_ trivial
      refine And.intro ?_ trivial
      refine And.intro hq1 ?_
      refine And.intro ?_ trivial
      refine And.intro ?_ trivial
      have he := ok_some he
      exact ⟨rfl, _, _, (leads_ren [(900, 2), (901, 6)] (l := [(2, .c (.ptr 900 0))]) (st' := [(900, .rc [.own 901 false, .int .i64 (c__0, c__1).2]), (901, .sl 140 (.pair (.int .i64) (.int .i64)) (([] : List (Int × Int)) ++ (c__0, c__1).1) .shallow)]) rfl rfl ⟨⟨⟨⟨rfl, rfl⟩, trivial⟩, rfl, trivial⟩, ⟨rfl, rfl⟩, trivial⟩ ⟨⟨⟨rfl, rfl⟩, rfl⟩, trivial⟩), he⟩
    · skip
      refine And.intro ?_ trivial
      refine And.intro ?_ trivial
      refine And.intro hq1 ?_
      refine And.intro ?_ trivial
      refine And.intro ?_ trivial
      have he := ok_some he
      exact ⟨rfl, _, _, (leads_ren [(900, 2), (901, 6)] (l := [(2, .c (.ptr 900 0))]) (st' := [(900, .rc [.own 901 false, .int .i64 (c__0, c__1).2]), (901, .sl 140 (.pair (.int .i64) (.int .i64)) (([] : List (Int × Int)) ++ (c__0, c__1).1) .shallow)]) rfl rfl ⟨⟨⟨⟨rfl, rfl⟩, trivial⟩, rfl, trivial⟩, ⟨rfl, rfl⟩, trivial⟩ ⟨⟨⟨rfl, rfl⟩, rfl⟩, trivial⟩), he⟩

noncomputable def c_spec_l1Mutate : Con := fun args st => match args, st with
  | [.c (.ptr 0 0), .agg [.imm (.pair (.int .i64) (.int .i64)) c__0, .int .i64 c__1]], [(0, .rc [.imm (.int .u8) r__0, .int .i64 r__1])] => .opt (((List Int) × Int) × Int × (List (Int × Int))) (spec_l1Mutate (c__0, c__1) (r__0, r__1)) (fun r => .ret (.agg [.own 901 false, .int .i64 r.2.1]) [(0, .rc [.imm (.int .u8) r.1.1, .int .i64 r.1.2]), (900, .rc [.own 901 false, .int .i64 r.2.1]), (901, .sl 140 (.pair (.int .i64) (.int .i64)) r.2.2 .shallow)])
  | _, _ => .fail

noncomputable def C_spec_l1Mutate : Cfg := { y := tys, n := 53, h := 1, tab := [(99, c_spec_l17Rd_num), (166, c_spec_l17Rd_pick), (242, c_spec_l1Copy)], cut := [], hand := [], good := [], deep := [], sched := [(8, (.first 0 (.first 2 (.alt 1 (.alt 3 (.alt 4 (.first 5 (.first 6 (.alt 7 .done .stop))) .stop) .stop) (.alt 3 (.alt 1 (.alt 4 (.first 5 (.first 6 (.alt 7 .done .stop))) .stop) (.alt 4 (.alt 1 (.first 5 (.first 6 (.alt 7 .done .stop))) .stop) .stop)) .stop))))), (11, (.first 0 (.first 2 (.first 3 (.first 4 (.alt 1 (.alt 5 (.alt 6 (.first 7 (.first 8 (.alt 9 .done .stop))) .stop) .stop) (.alt 5 (.alt 1 (.alt 6 (.first 7 (.first 8 (.alt 9 .done .stop))) .stop) (.alt 6 (.alt 1 (.first 7 (.first 8 (.alt 9 .done .stop))) .stop) .stop)) .stop)))))))] }

theorem t_spec_l1Mutate : TabOk Try.prog C_spec_l1Mutate := by
  refine tabOk_of ?_
  simp only [C_spec_l1Mutate, List.forall_mem_cons]
  exact ⟨k_spec_l17Rd_num, k_spec_l17Rd_pick, k_spec_l1Copy, fun p h => by cases h⟩

theorem k_spec_l1Mutate : Entry Try.prog 238 c_spec_l1Mutate := by
  refine entry_by (C := C_spec_l1Mutate) mixed tys_ok t_spec_l1Mutate (fn := Try.f238) (c := bd Try.f238) (by kernel_rfl) (by kernel_rfl) (by kernel_rfl) (by kernel_rfl) ?_
  intro args st k he
  unfold c_spec_l1Mutate at he
  split at he
  rotate_left
  · exact he.elim
  rename_i c__0 c__1 r__0 r__1
  have he : Ok (spec_l1Mutate (c__0, c__1) (r__0, r__1)) (fun r => k (.agg [.own 901 false, .int .i64 r.2.1]) [(0, .rc [.imm (.int .u8) r.1.1, .int .i64 r.1.2]), (900, .rc [.own 901 false, .int .i64 r.2.1]), (901, .sl 140 (.pair (.int .i64) (.int .i64)) r.2.2 .shallow)]) := he
  refine ⟨rfl, rfl, ?_⟩
  obtain ⟨r1_, hr, he⟩ := ok_bind he
  refine ⟨r1_, hr, ?_⟩
  obtain ⟨r2_, hr, he⟩ := ok_bind he
  refine ⟨r2_, hr, ?_⟩
  refine And.intro (fun hb => ?_) (fun hb => ?_)
  · have he := ok_t he hb
    obtain ⟨r3_, hr, he⟩ := ok_bind he
    refine ⟨r3_, hr, ?_⟩
    have he := ok_some he
    exact ⟨rfl, _, _, (leads_ren [(900, 4), (901, 9901)] (l := [(4, .c (.ptr 900 0))]) (st' := [(0, .rc [.imm (.int .u8) r3_.2.1, .int .i64 r3_.2.2]), (900, .rc [.own 901 false, .int .i64 r3_.1]), (901, .sl 140 (.pair (.int .i64) (.int .i64)) r1_.2 .shallow)]) rfl rfl ⟨⟨.inl rfl, rfl, trivial⟩, ⟨⟨⟨rfl, rfl⟩, trivial⟩, rfl, trivial⟩, ⟨rfl, rfl⟩, trivial⟩ ⟨⟨⟨rfl, rfl⟩, rfl⟩, trivial⟩), he⟩
  · have he := ok_f he hb
    refine And.intro (fun hb => ?_) (fun hb => ?_)
    · have he := ok_t he hb
      refine And.intro (fun hb => ?_) (fun hb => ?_)
      · have he := ok_t he hb
        refine And.intro (by kernel_rfl) ?_
        obtain ⟨r5_, hq1, he⟩ := ok_bind he
        have he := ok_rq he
        have hq2 := he.1
        have he := he.2
        refine And.intro ?_ (And.intro ?_ (trivial))
        · skip
          refine And.intro ?_ trivial
          refine And.intro ?_ trivial
          refine ⟨r5_, hq1, ?_⟩
          refine And.intro hq2 ?_
          refine And.intro ?_ trivial
          have he := ok_some he
          exact ⟨rfl, _, _, (leads_ren [(900, 4), (901, 9901)] (l := [(4, .c (.ptr 900 0))]) (st' := [(0, .rc [.imm (.int .u8) r5_.2.1, .int .i64 r5_.2.2]), (900, .rc [.own 901 false, .int .i64 r1_.1]), (901, .sl 140 (.pair (.int .i64) (.int .i64)) (r1_.2.set (0:Int).toNat (r5_.1, (r1_.2.getD (0:Int).toNat (0, 0)).2)) .shallow)]) rfl rfl ⟨⟨.inl rfl, rfl, trivial⟩, ⟨⟨⟨rfl, rfl⟩, trivial⟩, rfl, trivial⟩, ⟨rfl, rfl⟩, trivial⟩ ⟨⟨⟨rfl, rfl⟩, rfl⟩, trivial⟩), he⟩
        · skip
          refine And.intro ?_ (And.intro ?_ (trivial))
          · skip
            refine And.intro ?_ trivial
            refine ⟨r5_, hq1, ?_⟩
            refine And.intro hq2 ?_
            refine And.intro ?_ trivial
            have he := ok_some he
            exact ⟨rfl, _, _, (leads_ren [(900, 4), (901, 9901)] (l := [(4, .c (.ptr 900 0))]) (st' := [(0, .rc [.imm (.int .u8) r5_.2.1, .int .i64 r5_.2.2]), (900, .rc [.own 901 false, .int .i64 r1_.1]), (901, .sl 140 (.pair (.int .i64) (.int .i64)) (r1_.2.set (0:Int).toNat (r5_.1, (r1_.2.getD (0:Int).toNat (0, 0)).2)) .shallow)]) rfl rfl ⟨⟨.inl rfl, rfl, trivial⟩, ⟨⟨⟨rfl, rfl⟩, trivial⟩, rfl, trivial⟩, ⟨rfl, rfl⟩, trivial⟩ ⟨⟨⟨rfl, rfl⟩, rfl⟩, trivial⟩), he⟩
          · skip
            refine ⟨r5_, hq1, ?_⟩
            refine And.intro ?_ trivial
            refine And.intro hq2 ?_
            refine And.intro ?_ trivial
            have he := ok_some he
            exact ⟨rfl, _, _, (leads_ren [(900, 4), (901, 9901)] (l := [(4, .c (.ptr 900 0))]) (st' := [(0, .rc [.imm (.int .u8) r5_.2.1, .int .i64 r5_.2.2]), (900, .rc [.own 901 false, .int .i64 r1_.1]), (901, .sl 140 (.pair (.int .i64) (.int .i64)) (r1_.2.set (0:Int).toNat (r5_.1, (r1_.2.getD (0:Int).toNat (0, 0)).2)) .shallow)]) rfl rfl ⟨⟨.inl rfl, rfl, trivial⟩, ⟨⟨⟨rfl, rfl⟩, trivial⟩, rfl, trivial⟩, ⟨rfl, rfl⟩, trivial⟩ ⟨⟨⟨rfl, rfl⟩, rfl⟩, trivial⟩), he⟩
      · have he := ok_f he hb
        have he := ok_some he
        exact ⟨rfl, _, _, (leads_ren [(900, 4), (901, 9901)] (l := [(4, .c (.ptr 900 0))]) (st' := [(0, .rc [.imm (.int .u8) r2_.2.1, .int .i64 r2_.2.2]), (900, .rc [.own 901 false, .int .i64 r1_.1]), (901, .sl 140 (.pair (.int .i64) (.int .i64)) r1_.2 .shallow)]) rfl rfl ⟨⟨.inl rfl, rfl, trivial⟩, ⟨⟨⟨rfl, rfl⟩, trivial⟩, rfl, trivial⟩, ⟨rfl, rfl⟩, trivial⟩ ⟨⟨⟨rfl, rfl⟩, rfl⟩, trivial⟩), he⟩
    · have he := ok_f he hb
      refine And.intro (fun hb => ?_) (fun hb => ?_)
      · have he := ok_t he hb
        refine And.intro (fun hb => ?_) (fun hb => ?_)
        · have he := ok_t he hb
          refine And.intro (by kernel_rfl) ?_
          have he := ok_rq he
          refine And.intro he.1 ?_
          have he := he.2
          obtain ⟨r7_, hq1, he⟩ := ok_bind he
          have he := ok_rq he
          have hq2 := he.1
          have he := he.2
          refine And.intro ?_ (And.intro ?_ (trivial))
          · skip
            refine And.intro ?_ trivial
            refine And.intro ?_ trivial
            refine ⟨r7_, hq1, ?_⟩
            refine And.intro hq2 ?_
            refine And.intro ?_ trivial
            have he := ok_some he
            exact ⟨rfl, _, _, (leads_ren [(900, 4), (901, 9901)] (l := [(4, .c (.ptr 900 0))]) (st' := [(0, .rc [.imm (.int .u8) r7_.2.1, .int .i64 r7_.2.2]), (900, .rc [.own 901 false, .int .i64 r1_.1]), (901, .sl 140 (.pair (.int .i64) (.int .i64)) (r1_.2.set ((r1_.2.length:Int) - (1:Int)).toNat ((r1_.2.getD ((r1_.2.length:Int) - (1:Int)).toNat (0, 0)).1, r7_.1)) .shallow)]) rfl rfl ⟨⟨.inl rfl, rfl, trivial⟩, ⟨⟨⟨rfl, rfl⟩, trivial⟩, rfl, trivial⟩, ⟨rfl, rfl⟩, trivial⟩ ⟨⟨⟨rfl, rfl⟩, rfl⟩, trivial⟩), he⟩
          · skip
            refine And.intro ?_ (And.intro ?_ (trivial))
            · skip
              refine And.intro ?_ trivial
              refine ⟨r7_, hq1, ?_⟩
              refine And.intro hq2 ?_
              refine And.intro ?_ trivial
              have he := ok_some he
              exact ⟨rfl, _, _, (leads_ren [(900, 4), (901, 9901)] (l := [(4, .c (.ptr 900 0))]) (st' := [(0, .rc [.imm (.int .u8) r7_.2.1, .int .i64 r7_.2.2]), (900, .rc [.own 901 false, .int .i64 r1_.1]), (901, .sl 140 (.pair (.int .i64) (.int .i64)) (r1_.2.set ((r1_.2.length:Int) - (1:Int)).toNat ((r1_.2.getD ((r1_.2.length:Int) - (1:Int)).toNat (0, 0)).1, r7_.1)) .shallow)]) rfl rfl ⟨⟨.inl rfl, rfl, trivial⟩, ⟨⟨⟨rfl, rfl⟩, trivial⟩, rfl, trivial⟩, ⟨rfl, rfl⟩, trivial⟩ ⟨⟨⟨rfl, rfl⟩, rfl⟩, trivial⟩), he⟩
            · skip
              refine ⟨r7_, hq1, ?_⟩
              refine And.intro ?_ trivial
              refine And.intro hq2 ?_
              refine And.intro ?_ trivial
              have he := ok_some he
              exact ⟨rfl, _, _, (leads_ren [(900, 4), (901, 9901)] (l := [(4, .c (.ptr 900 0))]) (st' := [(0, .rc [.imm (.int .u8) r7_.2.1, .int .i64 r7_.2.2]), (900, .rc [.own 901 false, .int .i64 r1_.1]), (901, .sl 140 (.pair (.int .i64) (.int .i64)) (r1_.2.set ((r1_.2.length:Int) - (1:Int)).toNat ((r1_.2.getD ((r1_.2.length:Int) - (1:Int)).toNat (0, 0)).1, r7_.1)) .shallow)]) rfl rfl ⟨⟨.inl rfl, rfl, trivial⟩, ⟨⟨⟨rfl, rfl⟩, trivial⟩, rfl, trivial⟩, ⟨rfl, rfl⟩, trivial⟩ ⟨⟨⟨rfl, rfl⟩, rfl⟩, trivial⟩), he⟩
        · have he := ok_f he hb
          have he := ok_some he
          exact ⟨rfl, _, _, (leads_ren [(900, 4), (901, 9901)] (l := [(4, .c (.ptr 900 0))]) (st' := [(0, .rc [.imm (.int .u8) r2_.2.1, .int .i64 r2_.2.2]), (900, .rc [.own 901 false, .int .i64 r1_.1]), (901, .sl 140 (.pair (.int .i64) (.int .i64)) r1_.2 .shallow)]) rfl rfl ⟨⟨.inl rfl, rfl, trivial⟩, ⟨⟨⟨rfl, rfl⟩, trivial⟩, rfl, trivial⟩, ⟨rfl, rfl⟩, trivial⟩ ⟨⟨⟨rfl, rfl⟩, rfl⟩, trivial⟩), he⟩
      · have he := ok_f he hb
        refine And.intro (fun hb => ?_) (fun hb => ?_)
        · have he := ok_t he hb
          have he := ok_rq he
          refine And.intro he.1 ?_
          have he := he.2
          have he := ok_some he
          exact ⟨rfl, _, _, (leads_ren [(900, 4), (901, 50)] (l := [(4, .c (.ptr 900 0))]) (st' := [(0, .rc [.imm (.int .u8) r2_.2.1, .int .i64 r2_.2.2]), (900, .rc [.own 901 false, .int .i64 r1_.1]), (901, .sl 140 (.pair (.int .i64) (.int .i64)) (r1_.2 ++ [((1:Int), (1:Int))]) .shallow)]) rfl rfl ⟨⟨.inl rfl, rfl, trivial⟩, ⟨⟨⟨rfl, rfl⟩, trivial⟩, rfl, trivial⟩, ⟨rfl, rfl⟩, trivial⟩ ⟨⟨⟨rfl, rfl⟩, rfl⟩, trivial⟩), he⟩
        · have he := ok_f he hb
          have he := ok_some he
          exact ⟨rfl, _, _, (leads_ren [(900, 4), (901, 9901)] (l := [(4, .c (.ptr 900 0))]) (st' := [(0, .rc [.imm (.int .u8) r2_.2.1, .int .i64 r2_.2.2]), (900, .rc [.own 901 false, .int .i64 r1_.1]), (901, .sl 140 (.pair (.int .i64) (.int .i64)) r1_.2 .shallow)]) rfl rfl ⟨⟨.inl rfl, rfl, trivial⟩, ⟨⟨⟨rfl, rfl⟩, trivial⟩, rfl, trivial⟩, ⟨rfl, rfl⟩, trivial⟩ ⟨⟨⟨rfl, rfl⟩, rfl⟩, trivial⟩), he⟩

noncomputable def c_spec_l3Mutate : Con := fun args st => match args, st with
  | [.c (.ptr 0 0), .c (.imm (.pair (.sl (.pair (.int .i64) (.int .i64))) (.int .i64)) list_)], [(0, .rc [.imm (.int .u8) r__0, .int .i64 r__1])] => .opt (((List Int) × Int) × (List ((List (Int × Int)) × Int))) (spec_l3Mutate list_ (r__0, r__1)) (fun r => .ret (.c (.own 900 false)) [(0, .rc [.imm (.int .u8) r.1.1, .int .i64 r.1.2]), (900, .sl 33 (.pair (.sl (.pair (.int .i64) (.int .i64))) (.int .i64)) r.2 .shallow)])
  | _, _ => .fail

noncomputable def C_spec_l3Mutate : Cfg := { y := tys, n := 36, h := 1, tab := [(166, c_spec_l17Rd_pick), (238, c_spec_l1Mutate)], cut := [], hand := [], good := [], deep := [], sched := [] }

theorem t_spec_l3Mutate : TabOk Try.prog C_spec_l3Mutate := by
  refine tabOk_of ?_
  simp only [C_spec_l3Mutate, List.forall_mem_cons]
  exact ⟨k_spec_l17Rd_pick, k_spec_l1Mutate, fun p h => by cases h⟩

theorem k_spec_l3Mutate : Entry Try.prog 177 c_spec_l3Mutate := by
  refine entry_by (C := C_spec_l3Mutate) mixed tys_ok t_spec_l3Mutate (fn := Try.f177) (c := bd Try.f177) (by kernel_rfl) (by kernel_rfl) (by kernel_rfl) (by kernel_rfl) ?_
  intro args st k he
  unfold c_spec_l3Mutate at he
  split at he
  rotate_left
  · exact he.elim
  rename_i list_ r__0 r__1
  have he : Ok (spec_l3Mutate list_ (r__0, r__1)) (fun r => k (.c (.own 900 false)) [(0, .rc [.imm (.int .u8) r.1.1, .int .i64 r.1.2]), (900, .sl 33 (.pair (.sl (.pair (.int .i64) (.int .i64))) (.int .i64)) r.2 .shallow)]) := he
  refine ⟨rfl, rfl, ?_⟩
  have he := ok_rq he
  refine And.intro he.1 ?_
  have he := he.2
  refine And.intro (fun hb => ?_) (fun hb => ?_)
  · have he := ok_t he hb
    obtain ⟨r1_, hr, he⟩ := ok_bind he
    refine ⟨r1_, hr, ?_⟩
    refine And.intro (fun hb => ?_) (fun hb => ?_)
    · have he := ok_t he hb
      obtain ⟨r2_, hr, he⟩ := ok_bind he
      refine ⟨r2_, hr, ?_⟩
      have he := ok_rq he
      refine And.intro he.1 ?_
      have he := he.2
      obtain ⟨r3_, hr, he⟩ := ok_bind he
      refine ⟨r3_, hr, ?_⟩
      obtain ⟨r4_, hr, he⟩ := ok_bind he
      refine ⟨r4_, hr, ?_⟩
      obtain ⟨r5_, hr, he⟩ := ok_bind he
      refine ⟨r5_, hr, ?_⟩
      have he := ok_rq he
      refine And.intro he.1 ?_
      have he := he.2
      have he := ok_some he
      exact ⟨rfl, _, _, (leads_ren [(900, 9)] (l := [(4, .c (.own 900 false))]) (st' := [(0, .rc [.imm (.int .u8) r5_.1.1, .int .i64 r5_.1.2]), (900, .sl 33 (.pair (.sl (.pair (.int .i64) (.int .i64))) (.int .i64)) ((([] : List ((List (Int × Int)) × Int)) ++ list_).set r2_.1.toNat (r5_.2.2, r5_.2.1)) .shallow)]) rfl rfl ⟨⟨.inl rfl, rfl, trivial⟩, ⟨rfl, rfl⟩, trivial⟩ ⟨⟨⟨rfl, rfl⟩, trivial⟩, trivial⟩), he⟩
    · have he := ok_f he hb
      have he := ok_some he
      exact ⟨rfl, _, _, (leads_ren [(900, 9)] (l := [(4, .c (.own 900 false))]) (st' := [(0, .rc [.imm (.int .u8) r1_.2.1, .int .i64 r1_.2.2]), (900, .sl 33 (.pair (.sl (.pair (.int .i64) (.int .i64))) (.int .i64)) (([] : List ((List (Int × Int)) × Int)) ++ list_) .shallow)]) rfl rfl ⟨⟨.inl rfl, rfl, trivial⟩, ⟨rfl, rfl⟩, trivial⟩ ⟨⟨⟨rfl, rfl⟩, trivial⟩, trivial⟩), he⟩
  · have he := ok_f he hb
    have he := ok_some he
    exact ⟨rfl, _, _, (leads_ren [(900, 9)] (l := [(4, .c (.own 900 false))]) (st' := [(0, .rc [.imm (.int .u8) (r__0, r__1).1, .int .i64 (r__0, r__1).2]), (900, .sl 33 (.pair (.sl (.pair (.int .i64) (.int .i64))) (.int .i64)) (([] : List ((List (Int × Int)) × Int)) ++ list_) .shallow)]) rfl rfl ⟨⟨.inl rfl, rfl, trivial⟩, ⟨rfl, rfl⟩, trivial⟩ ⟨⟨⟨rfl, rfl⟩, trivial⟩, trivial⟩), he⟩

noncomputable def c_spec_l12Draw : Con := fun args st => match args, st with
  | [.c (.ptr 0 0)], [(0, .rc [.imm (.int .u8) r__0, .int .i64 r__1])] => .opt (((List Int) × Int) × (List Int)) (spec_l12Draw (r__0, r__1)) (fun r => .ret (.c (.own 900 false)) [(0, .rc [.imm (.int .u8) r.1.1, .int .i64 r.1.2]), (900, .sl 3 (.int .i64) r.2 .shallow)])
  | _, _ => .fail

noncomputable def C_spec_l12Draw : Cfg := { y := tys, n := 39, h := 1, tab := [(99, c_spec_l17Rd_num), (166, c_spec_l17Rd_pick)], cut := [7], hand := [], good := [], deep := [], sched := [] }

theorem t_spec_l12Draw : TabOk Try.prog C_spec_l12Draw := by
  refine tabOk_of ?_
  simp only [C_spec_l12Draw, List.forall_mem_cons]
  exact ⟨k_spec_l17Rd_num, k_spec_l17Rd_pick, fun p h => by cases h⟩

theorem k_spec_l12Draw : Entry Try.prog 236 c_spec_l12Draw := by
  refine entry_by (C := C_spec_l12Draw) mixed tys_ok t_spec_l12Draw (fn := Try.f236) (c := bd Try.f236) (by kernel_rfl) (by kernel_rfl) (by kernel_rfl) (by kernel_rfl) ?_
  intro args st k he
  unfold c_spec_l12Draw at he
  split at he
  rotate_left
  · exact he.elim
  rename_i r__0 r__1
  have he : Ok (spec_l12Draw (r__0, r__1)) (fun r => k (.c (.own 900 false)) [(0, .rc [.imm (.int .u8) r.1.1, .int .i64 r.1.2]), (900, .sl 3 (.int .i64) r.2 .shallow)]) := he
  refine ⟨rfl, rfl, ?_⟩
  refine seq_model mixed tys_ok t_spec_l12Draw (S := ((List Int) × Int) × (List Int)) (I := (fun (r_2, out1) => (envOf [(0, .c (.ptr 0 0)), (3, .c (.own 10001000 false))], [(0, .rc [.imm (.int .u8) r_2.1, .int .i64 r_2.2]), (10001000, .sl 3 (.int .i64) out1 .shallow)]))) (B := fun s => Ok (spec_l12Draw_j1 s) (fun r => k (.c (.own 900 false)) [(0, .rc [.imm (.int .u8) r.1.1, .int .i64 r.1.2]), (900, .sl 3 (.int .i64) r.2 .shallow)])) ?_ ?_
  · rintro ⟨r_2, out1⟩ he
    obtain ⟨r3_, hr, he⟩ := ok_bind he
    refine ⟨r3_, hr, ?_⟩
    refine And.intro (fun hb => ?_) (fun hb => ?_)
    · have he := ok_t he hb
      obtain ⟨r4_, hr, he⟩ := ok_bind he
      refine ⟨r4_, hr, ?_⟩
      have he := ok_rq he
      refine And.intro he.1 ?_
      have he := he.2
      have he := ok_some he
      exact ⟨rfl, _, _, (leads_ren [(900, 31)] (l := [(2, .c (.own 900 false))]) (st' := [(0, .rc [.imm (.int .u8) r4_.2.1, .int .i64 r4_.2.2]), (900, .sl 3 (.int .i64) (out1 ++ [r4_.1]) .shallow)]) rfl rfl ⟨⟨.inl rfl, rfl, trivial⟩, ⟨rfl, rfl⟩, trivial⟩ ⟨⟨⟨rfl, rfl⟩, trivial⟩, trivial⟩), he⟩
    · have he := ok_f he hb
      refine And.intro (fun hb => ?_) (fun hb => ?_)
      · have he := ok_t he hb
        have he := ok_some he
        exact ⟨rfl, _, _, (leads_ren [(900, 34)] (l := [(2, .c (.own 900 false))]) (st' := [(0, .rc [.imm (.int .u8) r3_.2.1, .int .i64 r3_.2.2]), (900, .sl 3 (.int .i64) [(1:Int), (2:Int), (3:Int), (4:Int), (5:Int)] .shallow)]) rfl rfl ⟨⟨.inl rfl, rfl, trivial⟩, ⟨rfl, rfl⟩, trivial⟩ ⟨⟨⟨rfl, rfl⟩, trivial⟩, trivial⟩), he⟩
      · have he := ok_f he hb
        refine And.intro (fun hb => ?_) (fun hb => ?_)
        · have he := ok_t he hb
          have he := ok_some he
          exact ⟨rfl, _, _, (leads_ren [(900, 37)] (l := [(2, .c (.own 900 false))]) (st' := [(0, .rc [.imm (.int .u8) r3_.2.1, .int .i64 r3_.2.2]), (900, .sl 3 (.int .i64) [(2:Int), (4:Int), (6:Int), (12:Int)] .shallow)]) rfl rfl ⟨⟨.inl rfl, rfl, trivial⟩, ⟨rfl, rfl⟩, trivial⟩ ⟨⟨⟨rfl, rfl⟩, trivial⟩, trivial⟩), he⟩
        · have he := ok_f he hb
          have he := ok_some he
          exact ⟨rfl, _, _, (leads_ren [(900, 10001000)] (l := [(2, .c (.own 900 false))]) (st' := [(0, .rc [.imm (.int .u8) r3_.2.1, .int .i64 r3_.2.2]), (900, .sl 3 (.int .i64) out1 .shallow)]) rfl rfl ⟨⟨.inl rfl, rfl, trivial⟩, ⟨rfl, rfl⟩, trivial⟩ ⟨⟨⟨rfl, rfl⟩, trivial⟩, trivial⟩), he⟩
  · skip
    refine loop_model mixed tys_ok t_spec_l12Draw (S := Int × ((List Int) × Int) × (List Int)) (I := (fun (v, r_1, out) => (envOf [(0, .c (.ptr 0 0)), (3, .c (.own 10000000 false)), (4, .c (.int .i64 v))], [(0, .rc [.imm (.int .u8) r_1.1, .int .i64 r_1.2]), (10000000, .sl 3 (.int .i64) out .shallow)]))) (f := spec_l12Draw_l1) (K := (fun r => k (.c (.own 900 false)) [(0, .rc [.imm (.int .u8) r.1.1, .int .i64 r.1.2]), (900, .sl 3 (.int .i64) r.2 .shallow)])) he (leads_ren [(10000000, 5)] (l := [(0, .c (.ptr 0 0)), (3, .c (.own 10000000 false)), (4, .c (.int .i64 (1:Int)))]) (st' := [(0, .rc [.imm (.int .u8) (r__0, r__1).1, .int .i64 (r__0, r__1).2]), (10000000, .sl 3 (.int .i64) ([] : List Int) .shallow)]) rfl rfl ⟨⟨.inl rfl, rfl, trivial⟩, ⟨rfl, rfl⟩, trivial⟩ ⟨⟨⟨rfl, rfl⟩, rfl⟩, ⟨⟨rfl, rfl⟩, trivial⟩, rfl, trivial⟩) ?_
    rintro ⟨v, r_1, out⟩ J1 he
    refine And.intro (fun hb => ?_) (fun hb => ?_)
    · have he := ok_t he hb
      obtain ⟨r2_, hr, he⟩ := ok_bind he
      refine ⟨r2_, hr, ?_⟩
      refine And.intro (fun hb => ?_) (fun hb => ?_)
      · have he := ok_t he hb
        refine And.intro (fun hb => ?_) (fun hb => ?_)
        · have he := ok_t he hb
          have he := ok_rq he
          refine And.intro he.1 ?_
          have he := he.2
          have he := ok_rq he
          refine And.intro he.1 ?_
          have he := he.2
          have he := ok_some he
          exact ⟨((v + (1:Int)), r2_.2, (out ++ [v])), he, (leads_ren [(10000000, 21)] (l := [(0, .c (.ptr 0 0)), (3, .c (.own 10000000 false)), (4, .c (.int .i64 (v + (1:Int))))]) (st' := [(0, .rc [.imm (.int .u8) r2_.2.1, .int .i64 r2_.2.2]), (10000000, .sl 3 (.int .i64) (out ++ [v]) .shallow)]) rfl rfl ⟨⟨.inl rfl, rfl, trivial⟩, ⟨rfl, rfl⟩, trivial⟩ ⟨⟨⟨rfl, rfl⟩, rfl⟩, ⟨⟨rfl, rfl⟩, trivial⟩, rfl, trivial⟩)⟩
        · have he := ok_f he hb
          have he := ok_rq he
          refine And.intro he.1 ?_
          have he := he.2
          have he := ok_some he
          exact ⟨((v + (1:Int)), r2_.2, out), he, (leads_ren [] (l := [(0, .c (.ptr 0 0)), (3, .c (.own 10000000 false)), (4, .c (.int .i64 (v + (1:Int))))]) (st' := [(0, .rc [.imm (.int .u8) r2_.2.1, .int .i64 r2_.2.2]), (10000000, .sl 3 (.int .i64) out .shallow)]) rfl rfl ⟨⟨.inl rfl, rfl, trivial⟩, ⟨rfl, rfl⟩, trivial⟩ ⟨⟨⟨rfl, rfl⟩, rfl⟩, ⟨⟨rfl, rfl⟩, trivial⟩, rfl, trivial⟩)⟩
      · have he := ok_f he hb
        have he := ok_rq he
        refine And.intro he.1 ?_
        have he := he.2
        have he := ok_some he
        exact ⟨((v + (1:Int)), r2_.2, out), he, (leads_ren [] (l := [(0, .c (.ptr 0 0)), (3, .c (.own 10000000 false)), (4, .c (.int .i64 (v + (1:Int))))]) (st' := [(0, .rc [.imm (.int .u8) r2_.2.1, .int .i64 r2_.2.2]), (10000000, .sl 3 (.int .i64) out .shallow)]) rfl rfl ⟨⟨.inl rfl, rfl, trivial⟩, ⟨rfl, rfl⟩, trivial⟩ ⟨⟨⟨rfl, rfl⟩, rfl⟩, ⟨⟨rfl, rfl⟩, trivial⟩, rfl, trivial⟩)⟩
    · have he := ok_f he hb
      exact ⟨(r_1, out), ok_up he, (leads_ren [(10001000, 10000000)] (l := [(0, .c (.ptr 0 0)), (3, .c (.own 10001000 false))]) (st' := [(0, .rc [.imm (.int .u8) r_1.1, .int .i64 r_1.2]), (10001000, .sl 3 (.int .i64) out .shallow)]) rfl rfl ⟨⟨.inl rfl, rfl, trivial⟩, ⟨rfl, rfl⟩, trivial⟩ ⟨⟨⟨rfl, rfl⟩, rfl⟩, ⟨⟨rfl, rfl⟩, trivial⟩, trivial⟩)⟩

noncomputable def c_spec_l12Signed : Con := fun args st => match args, st with
  | [.c (.ptr 0 0)], [(0, .rc [.imm (.int .u8) r__0, .int .i64 r__1])] => .opt (((List Int) × Int) × (List Int)) (spec_l12Signed (r__0, r__1)) (fun r => .ret (.c (.own 900 false)) [(0, .rc [.imm (.int .u8) r.1.1, .int .i64 r.1.2]), (900, .sl 3 (.int .i64) r.2 .shallow)])
  | _, _ => .fail

noncomputable def C_spec_l12Signed : Cfg := { y := tys, n := 25, h := 1, tab := [(166, c_spec_l17Rd_pick), (236, c_spec_l12Draw)], cut := [], hand := [], good := [], deep := [], sched := [] }

theorem t_spec_l12Signed : TabOk Try.prog C_spec_l12Signed := by
  refine tabOk_of ?_
  simp only [C_spec_l12Signed, List.forall_mem_cons]
  exact ⟨k_spec_l17Rd_pick, k_spec_l12Draw, fun p h => by cases h⟩

theorem k_spec_l12Signed : Entry Try.prog 169 c_spec_l12Signed := by
  refine entry_by (C := C_spec_l12Signed) mixed tys_ok t_spec_l12Signed (fn := Try.f169) (c := bd Try.f169) (by kernel_rfl) (by kernel_rfl) (by kernel_rfl) (by kernel_rfl) ?_
  intro args st k he
  unfold c_spec_l12Signed at he
  split at he
  rotate_left
  · exact he.elim
  rename_i r__0 r__1
  have he : Ok (spec_l12Signed (r__0, r__1)) (fun r => k (.c (.own 900 false)) [(0, .rc [.imm (.int .u8) r.1.1, .int .i64 r.1.2]), (900, .sl 3 (.int .i64) r.2 .shallow)]) := he
  refine ⟨rfl, rfl, ?_⟩
  obtain ⟨r1_, hr, he⟩ := ok_bind he
  refine ⟨r1_, hr, ?_⟩
  refine loop_model mixed tys_ok t_spec_l12Signed (S := Int × ((List Int) × Int) × (List Int)) (I := (fun (i, r_1, out) => (envOf [(0, .c (.ptr 0 0)), (3, .c (.own 10000000 false)), (4, .c (.int .i64 i))], [(0, .rc [.imm (.int .u8) r_1.1, .int .i64 r_1.2]), (10000000, .sl 3 (.int .i64) out .shallow)]))) (f := spec_l12Signed_l1) (K := (fun r => k (.c (.own 900 false)) [(0, .rc [.imm (.int .u8) r.1.1, .int .i64 r.1.2]), (900, .sl 3 (.int .i64) r.2 .shallow)])) he (leads_ren [(10000000, 7900)] (l := [(0, .c (.ptr 0 0)), (3, .c (.own 10000000 false)), (4, .c (.int .i64 (0:Int)))]) (st' := [(0, .rc [.imm (.int .u8) r1_.1.1, .int .i64 r1_.1.2]), (10000000, .sl 3 (.int .i64) r1_.2 .shallow)]) rfl rfl ⟨⟨.inl rfl, rfl, trivial⟩, ⟨rfl, rfl⟩, trivial⟩ ⟨⟨⟨rfl, rfl⟩, rfl⟩, ⟨⟨rfl, rfl⟩, trivial⟩, rfl, trivial⟩) ?_
  rintro ⟨i, r_1, out⟩ J1 he
  refine And.intro (fun hb => ?_) (fun hb => ?_)
  · have he := ok_t he hb
    obtain ⟨r3_, hr, he⟩ := ok_bind he
    refine ⟨r3_, hr, ?_⟩
    refine And.intro (fun hb => ?_) (fun hb => ?_)
    · have he := ok_t he hb
      have he := ok_rq he
      refine And.intro he.1 ?_
      have he := he.2
      have he := ok_rq he
      refine And.intro he.1 ?_
      have he := he.2
      have he := ok_rq he
      refine And.intro he.1 ?_
      have he := he.2
      have he := ok_rq he
      refine And.intro he.1 ?_
      have he := he.2
      have he := ok_some he
      exact ⟨((i + (1:Int)), r3_.2, (out.set i.toNat (0 - (out.getD i.toNat 0)))), he, (leads_ren [] (l := [(0, .c (.ptr 0 0)), (3, .c (.own 10000000 false)), (4, .c (.int .i64 (i + (1:Int))))]) (st' := [(0, .rc [.imm (.int .u8) r3_.2.1, .int .i64 r3_.2.2]), (10000000, .sl 3 (.int .i64) (out.set i.toNat (0 - (out.getD i.toNat 0))) .shallow)]) rfl rfl ⟨⟨.inl rfl, rfl, trivial⟩, ⟨rfl, rfl⟩, trivial⟩ ⟨⟨⟨rfl, rfl⟩, rfl⟩, ⟨⟨rfl, rfl⟩, trivial⟩, rfl, trivial⟩)⟩
    · have he := ok_f he hb
      have he := ok_rq he
      refine And.intro he.1 ?_
      have he := he.2
      have he := ok_some he
      exact ⟨((i + (1:Int)), r3_.2, out), he, (leads_ren [] (l := [(0, .c (.ptr 0 0)), (3, .c (.own 10000000 false)), (4, .c (.int .i64 (i + (1:Int))))]) (st' := [(0, .rc [.imm (.int .u8) r3_.2.1, .int .i64 r3_.2.2]), (10000000, .sl 3 (.int .i64) out .shallow)]) rfl rfl ⟨⟨.inl rfl, rfl, trivial⟩, ⟨rfl, rfl⟩, trivial⟩ ⟨⟨⟨rfl, rfl⟩, rfl⟩, ⟨⟨rfl, rfl⟩, trivial⟩, rfl, trivial⟩)⟩
  · have he := ok_f he hb
    have he := ok_some he
    exact ⟨rfl, _, _, (leads_ren [(900, 10000000)] (l := [(2, .c (.own 900 false))]) (st' := [(0, .rc [.imm (.int .u8) r_1.1, .int .i64 r_1.2]), (900, .sl 3 (.int .i64) out .shallow)]) rfl rfl ⟨⟨.inl rfl, rfl, trivial⟩, ⟨rfl, rfl⟩, trivial⟩ ⟨⟨⟨rfl, rfl⟩, trivial⟩, trivial⟩), he⟩

noncomputable def c_spec_DrawCubeProblem : Con := fun args st => match args, st with
  | [.c (.imm (.int .u8) code)], [] => .opt ((List ((List (Int × Int)) × Int)) × (List Int)) (spec_DrawCubeProblem code) (fun r => .ret (.tup [.c (.own 900 false), .c (.own 901 false)]) [(900, .sl 33 (.pair (.sl (.pair (.int .i64) (.int .i64))) (.int .i64)) r.1 .shallow), (901, .sl 3 (.int .i64) r.2 .shallow)])
  | _, _ => .fail

noncomputable def C_spec_DrawCubeProblem : Cfg := { y := tys, n := 15, h := 0, tab := [(94, c_spec_l17Open), (169, c_spec_l12Signed), (177, c_spec_l3Mutate), (178, c_spec_l5Hard)], cut := [], hand := [], good := [], deep := [], sched := [] }

theorem t_spec_DrawCubeProblem : TabOk Try.prog C_spec_DrawCubeProblem := by
  refine tabOk_of ?_
  simp only [C_spec_DrawCubeProblem, List.forall_mem_cons]
  exact ⟨k_spec_l17Open, k_spec_l12Signed, k_spec_l3Mutate, k_spec_l5Hard, fun p h => by cases h⟩

theorem k_spec_DrawCubeProblem : Entry Try.prog 71 c_spec_DrawCubeProblem := by
  refine entry_by (C := C_spec_DrawCubeProblem) mixed tys_ok t_spec_DrawCubeProblem (fn := Try.f71) (c := bd Try.f71) (by kernel_rfl) (by kernel_rfl) (by kernel_rfl) (by kernel_rfl) ?_
  intro args st k he
  unfold c_spec_DrawCubeProblem at he
  split at he
  rotate_left
  · exact he.elim
  rename_i code
  have he : Ok (spec_DrawCubeProblem code) (fun r => k (.tup [.c (.own 900 false), .c (.own 901 false)]) [(900, .sl 33 (.pair (.sl (.pair (.int .i64) (.int .i64))) (.int .i64)) r.1 .shallow), (901, .sl 3 (.int .i64) r.2 .shallow)]) := he
  refine ⟨rfl, rfl, ?_⟩
  obtain ⟨r1_, hr, he⟩ := ok_bind he
  refine ⟨r1_, hr, ?_⟩
  obtain ⟨r2_, hr, he⟩ := ok_bind he
  refine ⟨r2_, hr, ?_⟩
  obtain ⟨r3_, hr, he⟩ := ok_bind he
  refine ⟨r3_, hr, ?_⟩
  obtain ⟨r4_, hr, he⟩ := ok_bind he
  refine ⟨r4_, hr, ?_⟩
  have he := ok_some he
  exact ⟨rfl, _, _, (leads_ren [(900, 12900), (901, 15900)] (l := [(2, .c (.own 900 false)), (3, .c (.own 901 false))]) (st' := [(900, .sl 33 (.pair (.sl (.pair (.int .i64) (.int .i64))) (.int .i64)) r3_.2 .shallow), (901, .sl 3 (.int .i64) r4_.2 .shallow)]) rfl rfl ⟨⟨rfl, rfl⟩, ⟨rfl, rfl⟩, trivial⟩ ⟨⟨⟨rfl, rfl⟩, trivial⟩, ⟨⟨rfl, rfl⟩, trivial⟩, trivial⟩), he⟩

noncomputable def c_impl_within : Con := fun args st => match args, st with
  | [.c (.int .i64 n), .c (.int .i64 low), .c (.int .i64 high)], [] => .opt (Bool) (impl_within n low high) (fun r => .ret (.c (.bool r)) [])
  | _, _ => .fail

noncomputable def C_impl_within : Cfg := { y := tys, n := 15, h := 0, tab := [], cut := [], hand := [], good := [], deep := [], sched := [] }

theorem t_impl_within : TabOk Try.prog C_impl_within := tabOk_of (fun p h => by cases h)

theorem k_impl_within : Entry Try.prog 101 c_impl_within := by
  refine entry_by (C := C_impl_within) mixed tys_ok t_impl_within (fn := Try.f101) (c := bd Try.f101) (by kernel_rfl) (by kernel_rfl) (by kernel_rfl) (by kernel_rfl) ?_
  intro args st k he
  unfold c_impl_within at he
  split at he
  rotate_left
  · exact he.elim
  rename_i n low high
  have he : Ok (impl_within n low high) (fun r => k (.c (.bool r)) []) := he
  refine ⟨rfl, rfl, ?_⟩
  refine And.intro (fun hb => ?_) (fun hb => ?_)
  · have he := ok_t he hb
    have he := ok_some he
    exact ⟨rfl, _, _, Leads.refl _ _, he⟩
  · have he := ok_f he hb
    have he := ok_some he
    exact ⟨rfl, _, _, Leads.refl _ _, he⟩

noncomputable def c_impl_isLiteral : Con := fun args st => match args, st with
  | [.c (.int .i64 l)], [] => .opt (Bool) (impl_isLiteral l) (fun r => .ret (.c (.bool r)) [])
  | _, _ => .fail

noncomputable def C_impl_isLiteral : Cfg := { y := tys, n := 9, h := 0, tab := [(101, c_impl_within)], cut := [], hand := [], good := [], deep := [], sched := [] }

theorem t_impl_isLiteral : TabOk Try.prog C_impl_isLiteral := by
  refine tabOk_of ?_
  simp only [C_impl_isLiteral, List.forall_mem_cons]
  exact ⟨k_impl_within, fun p h => by cases h⟩

theorem k_impl_isLiteral : Entry Try.prog 110 c_impl_isLiteral := by
  refine entry_by (C := C_impl_isLiteral) mixed tys_ok t_impl_isLiteral (fn := Try.f110) (c := bd Try.f110) (by kernel_rfl) (by kernel_rfl) (by kernel_rfl) (by kernel_rfl) ?_
  intro args st k he
  unfold c_impl_isLiteral at he
  split at he
  rotate_left
  · exact he.elim
  rename_i l
  have he : Ok (impl_isLiteral l) (fun r => k (.c (.bool r)) []) := he
  refine ⟨rfl, rfl, ?_⟩
  refine And.intro (fun hb => ?_) (fun hb => ?_)
  · have he := ok_t he hb
    obtain ⟨r1_, hr, he⟩ := ok_bind he
    refine ⟨r1_, hr, ?_⟩
    have he := ok_some he
    exact ⟨rfl, _, _, Leads.refl _ _, he⟩
  · have he := ok_f he hb
    have he := ok_some he
    exact ⟨rfl, _, _, Leads.refl _ _, he⟩

noncomputable def c_impl_variableOf : Con := fun args st => match args, st with
  | [.c (.int .i64 l)], [] => .opt (Int) (impl_variableOf l) (fun r => .ret (.c (.int .i64 r)) [])
  | _, _ => .fail

noncomputable def C_impl_variableOf : Cfg := { y := tys, n := 7, h := 0, tab := [], cut := [], hand := [], good := [], deep := [], sched := [] }

theorem t_impl_variableOf : TabOk Try.prog C_impl_variableOf := tabOk_of (fun p h => by cases h)

theorem k_impl_variableOf : Entry Try.prog 111 c_impl_variableOf := by
  refine entry_by (C := C_impl_variableOf) mixed tys_ok t_impl_variableOf (fn := Try.f111) (c := bd Try.f111) (by kernel_rfl) (by kernel_rfl) (by kernel_rfl) (by kernel_rfl) ?_
  intro args st k he
  unfold c_impl_variableOf at he
  split at he
  rotate_left
  · exact he.elim
  rename_i l
  have he : Ok (impl_variableOf l) (fun r => k (.c (.int .i64 r)) []) := he
  refine ⟨rfl, rfl, ?_⟩
  have he := ok_rq he
  refine And.intro he.1 ?_
  have he := he.2
  have he := ok_some he
  exact ⟨rfl, _, _, Leads.refl _ _, he⟩

noncomputable def c_impl_ConstraintValid : Con := fun args st => match args, st with
  | [.agg [.imm (.pair (.int .i64) (.int .i64)) c__0, .int .i64 c__1]], [] => .opt (Bool) (impl_ConstraintValid (c__0, c__1)) (fun r => .ret (.c (.bool r)) [])
  | _, _ => .fail

noncomputable def C_impl_ConstraintValid : Cfg := { y := tys, n := 37, h := 0, tab := [(101, c_impl_within), (110, c_impl_isLiteral), (111, c_impl_variableOf)], cut := [], hand := [], good := [], deep := [], sched := [] }

theorem t_impl_ConstraintValid : TabOk Try.prog C_impl_ConstraintValid := by
  refine tabOk_of ?_
  simp only [C_impl_ConstraintValid, List.forall_mem_cons]
  exact ⟨k_impl_within, k_impl_isLiteral, k_impl_variableOf, fun p h => by cases h⟩

theorem k_impl_ConstraintValid : Entry Try.prog 22 c_impl_ConstraintValid := by
  refine entry_by (C := C_impl_ConstraintValid) mixed tys_ok t_impl_ConstraintValid (fn := Try.f22) (c := bd Try.f22) (by kernel_rfl) (by kernel_rfl) (by kernel_rfl) (by kernel_rfl) ?_
  intro args st k he
  unfold c_impl_ConstraintValid at he
  split at he
  rotate_left
  · exact he.elim
  rename_i c__0 c__1
  have he : Ok (impl_ConstraintValid (c__0, c__1)) (fun r => k (.c (.bool r)) []) := he
  refine ⟨rfl, rfl, ?_⟩
  refine loop_model mixed tys_ok t_impl_ConstraintValid (S := Int × Int) (I := (fun (before, i) => (envOf [(1, .c (.ptr 10000000 0)), (3, .c (.int .i64 before)), (7, .c (.imm (.pair (.int .i64) (.int .i64)) (c__0, c__1).1)), (8, .c (.int .i64 ((c__0, c__1).1.length:Int))), (9, .c (.int .i64 i))], [(10000000, .rc [.imm (.pair (.int .i64) (.int .i64)) (c__0, c__1).1, .int .i64 (c__0, c__1).2])]))) (f := impl_ConstraintValid_l1 (c__0, c__1)) (K := (fun r => k (.c (.bool r)) [])) he (leads_ren [(10000000, 1)] (l := [(1, .c (.ptr 10000000 0)), (3, .c (.int .i64 (0:Int))), (7, .c (.imm (.pair (.int .i64) (.int .i64)) (c__0, c__1).1)), (8, .c (.int .i64 ((c__0, c__1).1.length:Int))), (9, .c (.int .i64 (0:Int)))]) (st' := [(10000000, .rc [.imm (.pair (.int .i64) (.int .i64)) (c__0, c__1).1, .int .i64 (c__0, c__1).2])]) rfl rfl ⟨⟨.inl rfl, rfl, trivial⟩, trivial⟩ ⟨⟨⟨rfl, rfl⟩, rfl⟩, rfl, .inl rfl, rfl, rfl, trivial⟩) ?_
  rintro ⟨before, i⟩ J1 he
  refine And.intro (fun hb => ?_) (fun hb => ?_)
  · have he := ok_t he hb
    have he := ok_rq he
    refine And.intro he.1 ?_
    have he := he.2
    obtain ⟨r1_, hr, he⟩ := ok_bind he
    refine ⟨r1_, hr, ?_⟩
    refine And.intro (fun hb => ?_) (fun hb => ?_)
    · have he := ok_f he hb
      obtain ⟨r2_, hr, he⟩ := ok_bind he
      refine ⟨r2_, hr, ?_⟩
      refine And.intro (fun hb => ?_) (fun hb => ?_)
      · have he := ok_f he hb
        obtain ⟨r3_, hr, he⟩ := ok_bind he
        refine ⟨r3_, hr, ?_⟩
        refine And.intro (fun hb => ?_) (fun hb => ?_)
        · have he := ok_t he hb
          have he := ok_some he
          exact ⟨rfl, _, _, (leads_ren [] (l := [(2, .c (.bool false))]) (st' := []) rfl rfl trivial ⟨.inr rfl, trivial⟩), he⟩
        · have he := ok_f he hb
          obtain ⟨r4_, hr, he⟩ := ok_bind he
          refine ⟨r4_, hr, ?_⟩
          have he := ok_rq he
          refine And.intro he.1 ?_
          have he := he.2
          have he := ok_some he
          exact ⟨(r4_, (i + (1:Int))), he, (leads_ren [] (l := [(1, .c (.ptr 10000000 0)), (3, .c (.int .i64 r4_)), (7, .c (.imm (.pair (.int .i64) (.int .i64)) (c__0, c__1).1)), (8, .c (.int .i64 ((c__0, c__1).1.length:Int))), (9, .c (.int .i64 (i + (1:Int))))]) (st' := [(10000000, .rc [.imm (.pair (.int .i64) (.int .i64)) (c__0, c__1).1, .int .i64 (c__0, c__1).2])]) rfl rfl ⟨⟨.inl rfl, rfl, trivial⟩, trivial⟩ ⟨⟨⟨rfl, rfl⟩, rfl⟩, rfl, .inl rfl, rfl, rfl, trivial⟩)⟩
      · have he := ok_t he hb
        have he := ok_some he
        exact ⟨rfl, _, _, (leads_ren [] (l := [(2, .c (.bool false))]) (st' := []) rfl rfl trivial ⟨.inr rfl, trivial⟩), he⟩
    · have he := ok_t he hb
      have he := ok_some he
      exact ⟨rfl, _, _, (leads_ren [] (l := [(2, .c (.bool false))]) (st' := []) rfl rfl trivial ⟨.inr rfl, trivial⟩), he⟩
  · have he := ok_f he hb
    obtain ⟨r5_, hr, he⟩ := ok_bind he
    refine ⟨r5_, hr, ?_⟩
    have he := ok_some he
    exact ⟨rfl, _, _, (leads_ren [] (l := [(2, .c (.bool r5_))]) (st' := []) rfl rfl trivial ⟨.inl rfl, trivial⟩), he⟩

noncomputable def c_impl_allValid_1 : Con := fun args st => match args, st with
  | [.agg [.imm (.pair (.int .i64) (.int .i64)) c__0, .int .i64 c__1]], [] => .opt (Bool) (impl_allValid_1 (c__0, c__1)) (fun r => .ret (.c (.bool r)) [])
  | _, _ => .fail

noncomputable def C_impl_allValid_1 : Cfg := { y := tys, n := 6, h := 0, tab := [(22, c_impl_ConstraintValid)], cut := [], hand := [], good := [], deep := [], sched := [] }

theorem t_impl_allValid_1 : TabOk Try.prog C_impl_allValid_1 := by
  refine tabOk_of ?_
  simp only [C_impl_allValid_1, List.forall_mem_cons]
  exact ⟨k_impl_ConstraintValid, fun p h => by cases h⟩

theorem k_impl_allValid_1 : Entry Try.prog 271 c_impl_allValid_1 := by
  refine entry_by (C := C_impl_allValid_1) mixed tys_ok t_impl_allValid_1 (fn := Try.f271) (c := bd Try.f271) (by kernel_rfl) (by kernel_rfl) (by kernel_rfl) (by kernel_rfl) ?_
  intro args st k he
  unfold c_impl_allValid_1 at he
  split at he
  rotate_left
  · exact he.elim
  rename_i c__0 c__1
  have he : Ok (impl_allValid_1 (c__0, c__1)) (fun r => k (.c (.bool r)) []) := he
  refine ⟨rfl, rfl, ?_⟩
  obtain ⟨r1_, hr, he⟩ := ok_bind he
  refine ⟨r1_, hr, ?_⟩
  have he := ok_some he
  exact ⟨rfl, _, _, (leads_ren [] (l := [(2, .c (.bool (!r1_)))]) (st' := []) rfl rfl trivial ⟨.inl rfl, trivial⟩), he⟩

noncomputable def c_slices_IndexFunc_impl_Constraint__impl_allValid_1 : Con := fun args st => match args, st with
  | [.c (.imm (.pair (.sl (.pair (.int .i64) (.int .i64))) (.int .i64)) s_), .c (.fn 271 [])], [] => .opt (Int) (slices_IndexFunc_impl_Constraint__impl_allValid_1 s_) (fun r => .ret (.c (.int .i64 r)) [])
  | _, _ => .fail

noncomputable def C_slices_IndexFunc_impl_Constraint__impl_allValid_1 : Cfg := { y := tys, n := 19, h := 0, tab := [(271, c_impl_allValid_1)], cut := [], hand := [], good := [], deep := [], sched := [] }

theorem t_slices_IndexFunc_impl_Constraint__impl_allValid_1 : TabOk Try.prog C_slices_IndexFunc_impl_Constraint__impl_allValid_1 := by
  refine tabOk_of ?_
  simp only [C_slices_IndexFunc_impl_Constraint__impl_allValid_1, List.forall_mem_cons]
  exact ⟨k_impl_allValid_1, fun p h => by cases h⟩

theorem k_slices_IndexFunc_impl_Constraint__impl_allValid_1 : Entry Try.prog 275 c_slices_IndexFunc_impl_Constraint__impl_allValid_1 := by
  refine entry_by (C := C_slices_IndexFunc_impl_Constraint__impl_allValid_1) mixed tys_ok t_slices_IndexFunc_impl_Constraint__impl_allValid_1 (fn := Try.f275) (c := bd Try.f275) (by kernel_rfl) (by kernel_rfl) (by kernel_rfl) (by kernel_rfl) ?_
  intro args st k he
  unfold c_slices_IndexFunc_impl_Constraint__impl_allValid_1 at he
  split at he
  rotate_left
  · exact he.elim
  rename_i s_
  have he : Ok (slices_IndexFunc_impl_Constraint__impl_allValid_1 s_) (fun r => k (.c (.int .i64 r)) []) := he
  refine ⟨rfl, rfl, ?_⟩
  refine loop_model mixed tys_ok t_slices_IndexFunc_impl_Constraint__impl_allValid_1 (S := Int) (I := (fun i => (envOf [(0, .c (.imm (.pair (.sl (.pair (.int .i64) (.int .i64))) (.int .i64)) s_)), (1, .c (.fn 271 [])), (7, .c (.int .i64 (s_.length:Int))), (8, .c (.int .i64 i))], []))) (f := slices_IndexFunc_impl_Constraint__impl_allValid_1_l1 s_) (K := (fun r => k (.c (.int .i64 r)) [])) he (leads_ren [] (l := [(0, .c (.imm (.pair (.sl (.pair (.int .i64) (.int .i64))) (.int .i64)) s_)), (1, .c (.fn 271 [])), (7, .c (.int .i64 (s_.length:Int))), (8, .c (.int .i64 (0:Int)))]) (st' := []) rfl rfl trivial ⟨.inl rfl, ⟨rfl, trivial⟩, rfl, rfl, trivial⟩) ?_
  rintro i J1 he
  refine And.intro (fun hb => ?_) (fun hb => ?_)
  · have he := ok_t he hb
    have he := ok_rq he
    refine And.intro he.1 ?_
    have he := he.2
    obtain ⟨r1_, hr, he⟩ := ok_bind he
    refine ⟨r1_, hr, ?_⟩
    refine And.intro (fun hb => ?_) (fun hb => ?_)
    · have he := ok_t he hb
      have he := ok_some he
      exact ⟨rfl, _, _, Leads.refl _ _, he⟩
    · have he := ok_f he hb
      have he := ok_rq he
      refine And.intro he.1 ?_
      have he := he.2
      have he := ok_some he
      exact ⟨(i + (1:Int)), he, (leads_ren [] (l := [(0, .c (.imm (.pair (.sl (.pair (.int .i64) (.int .i64))) (.int .i64)) s_)), (1, .c (.fn 271 [])), (7, .c (.int .i64 (s_.length:Int))), (8, .c (.int .i64 (i + (1:Int))))]) (st' := []) rfl rfl trivial ⟨.inl rfl, ⟨rfl, trivial⟩, rfl, rfl, trivial⟩)⟩
  · have he := ok_f he hb
    have he := ok_some he
    exact ⟨rfl, _, _, Leads.refl _ _, he⟩

noncomputable def c_slices_ContainsFunc_impl_Constraint__impl_allValid_1 : Con := fun args st => match args, st with
  | [.c (.imm (.pair (.sl (.pair (.int .i64) (.int .i64))) (.int .i64)) s_), .c (.fn 271 [])], [] => .opt (Bool) (slices_ContainsFunc_impl_Constraint__impl_allValid_1 s_) (fun r => .ret (.c (.bool r)) [])
  | _, _ => .fail

noncomputable def C_slices_ContainsFunc_impl_Constraint__impl_allValid_1 : Cfg := { y := tys, n := 9, h := 0, tab := [(275, c_slices_IndexFunc_impl_Constraint__impl_allValid_1)], cut := [], hand := [], good := [], deep := [], sched := [] }

theorem t_slices_ContainsFunc_impl_Constraint__impl_allValid_1 : TabOk Try.prog C_slices_ContainsFunc_impl_Constraint__impl_allValid_1 := by
  refine tabOk_of ?_
  simp only [C_slices_ContainsFunc_impl_Constraint__impl_allValid_1, List.forall_mem_cons]
  exact ⟨k_slices_IndexFunc_impl_Constraint__impl_allValid_1, fun p h => by cases h⟩

theorem k_slices_ContainsFunc_impl_Constraint__impl_allValid_1 : Entry Try.prog 246 c_slices_ContainsFunc_impl_Constraint__impl_allValid_1 := by
  refine entry_by (C := C_slices_ContainsFunc_impl_Constraint__impl_allValid_1) mixed tys_ok t_slices_ContainsFunc_impl_Constraint__impl_allValid_1 (fn := Try.f246) (c := bd Try.f246) (by kernel_rfl) (by kernel_rfl) (by kernel_rfl) (by kernel_rfl) ?_
  intro args st k he
  unfold c_slices_ContainsFunc_impl_Constraint__impl_allValid_1 at he
  split at he
  rotate_left
  · exact he.elim
  rename_i s_
  have he : Ok (slices_ContainsFunc_impl_Constraint__impl_allValid_1 s_) (fun r => k (.c (.bool r)) []) := he
  refine ⟨rfl, rfl, ?_⟩
  obtain ⟨r1_, hr, he⟩ := ok_bind he
  refine ⟨r1_, hr, ?_⟩
  have he := ok_some he
  exact ⟨rfl, _, _, Leads.refl _ _, he⟩

end Go.AE.Y
