/-
  Walks: each function keeps the contract that its model gives. No conditions.
-/
import Derived.Test.YtaeeiddjpigemaaGreatR7Tab
import Derived.Test.YtaeeiddjpigemaaGreatR7M
namespace Go.AE.Y
open Go Go.AE Go.Proofs
set_option linter.unusedVariables false
set_option maxHeartbeats 2000000
set_option maxRecDepth 100000

noncomputable def c_spec_l17Open : Con := fun args st => match args, st with
  | [.c (.imm (.int .u8) code)], [] => .opt (D1_) (spec_l17Open code) (fun r => .ret (.c (.ptr 900 0)) [(900, .rc [.imm (.int .u8) r.1, .int .i64 r.2])])
  | _, _ => .fail

noncomputable def C_spec_l17Open : Cfg := { y := tys, n := 11, h := 0, tab := [], cut := [3], hand := [], good := [], deep := [], sched := [] }

theorem t_spec_l17Open : TabOk Tryz.prog C_spec_l17Open := tabOk_of (fun p h => by cases h)

theorem k_spec_l17Open : Entry Tryz.prog 50 c_spec_l17Open := by
 refine entry_by (C := C_spec_l17Open) mixed tys_ok t_spec_l17Open (fn := Tryz.f50) (c := bd Tryz.f50) (by kernel_rfl) (by kernel_rfl) (by kernel_rfl) (by kernel_rfl) ?_
 intro args st k he
 unfold c_spec_l17Open at he
 split at he
 rotate_left
 ·exact he.elim
 rename_i code
 have he : Ok (spec_l17Open code) (fun r => k (.c (.ptr 900 0)) [(900, .rc [.imm (.int .u8) r.1, .int .i64 r.2])]) := he
 refine ⟨rfl, rfl, ?_⟩
 refine seq_model mixed tys_ok t_spec_l17Open (S := (List Int)) (I := (fun code1 => (envOf [(0, .c (.imm (.int .u8) code1))], []))) (B := fun s => Ok (spec_l17Open_j1 s) (fun r => k (.c (.ptr 900 0)) [(900, .rc [.imm (.int .u8) r.1, .int .i64 r.2])])) ?_ ?_
 ·rintro code1 he
  have he := ok_some he
  exact ⟨rfl, _, _, (leads_ren [(900, 10)] (l := [(2, .c (.ptr 900 0))]) (st' := [(900, .rc [.imm (.int .u8) code1, .int .i64 (0:Int)])]) rfl rfl ⟨⟨.inl rfl, rfl, trivial⟩, trivial⟩ ⟨⟨⟨rfl, rfl⟩, rfl⟩, trivial⟩), he⟩
 ·skip
  refine go_if he (fun he => ?_) fun he => ?_
  ·refine go_rq he fun he => ?_
   exact ⟨(code.take (2000:Int).toNat), he, (leads_ren [] rfl rfl trivial ⟨.inl rfl, trivial⟩)⟩
  ·exact ⟨code, he, (leads_ren [] rfl rfl trivial ⟨.inl rfl, trivial⟩)⟩

noncomputable def c_spec_l17Rd_pick : Con := fun args st => match args, st with
  | [.c (.ptr 0 0), .c (.int .i64 a1)], [(0, .rc [.imm (.int .u8) o0_0, .int .i64 o0_1])] => .opt (Int × D1_) (spec_l17Rd_pick a1 (o0_0, o0_1)) (fun r => .ret (.c (.int .i64 r.1)) [(0, .rc [.imm (.int .u8) r.2.1, .int .i64 r.2.2])])
  | _, _ => .fail

noncomputable def C_spec_l17Rd_pick : Cfg := { y := tys, n := 99, h := 1, tab := [], cut := [], hand := [], good := [], deep := [], sched := [] }

theorem t_spec_l17Rd_pick : TabOk Tryz.prog C_spec_l17Rd_pick := tabOk_of (fun p h => by cases h)

theorem k_spec_l17Rd_pick : Entry Tryz.prog 87 c_spec_l17Rd_pick := by
 refine entry_by (C := C_spec_l17Rd_pick) mixed tys_ok t_spec_l17Rd_pick (fn := Tryz.f87) (c := bd Tryz.f87) (by kernel_rfl) (by kernel_rfl) (by kernel_rfl) (by kernel_rfl) ?_
 intro args st k he
 unfold c_spec_l17Rd_pick at he
 split at he
 rotate_left
 ·exact he.elim
 rename_i a1 o0_0 o0_1
 have he : Ok (spec_l17Rd_pick a1 (o0_0, o0_1)) (fun r => k (.c (.int .i64 r.1)) [(0, .rc [.imm (.int .u8) r.2.1, .int .i64 r.2.2])]) := he
 refine ⟨rfl, rfl, ?_⟩
 refine go_rq he fun he => ?_
 refine go_if2 he (fun he => ?_) fun he => ?_
 ·refine go_if he (fun he => ?_) fun he => ?_
  ·have he := ok_some he
   exact ⟨rfl, _, _, (leads_ren [] (l := [(4, .c (.int .i64 (0:Int)))]) (st' := [(0, .rc [.imm (.int .u8) (o0_0, o0_1).1, .int .i64 ((o0_0, o0_1).2 + (1:Int))])]) rfl rfl ⟨⟨.inl rfl, rfl, trivial⟩, trivial⟩ ⟨rfl, trivial⟩), he⟩
  ·refine go_rq he fun he => ?_
   refine go_if he (fun he => ?_) fun he => ?_
   ·refine go_rq he fun he => ?_
    refine fun _ => ?_
    refine go_rq he fun he => ?_
    refine go_rq he fun he => ?_
    have he := ok_some he
    exact ⟨rfl, _, _, (leads_ren [] (l := [(4, .c (.int .i64 (((o0_0, o0_1).1.getD (((o0_0, o0_1).2 + (1:Int)) - (1:Int)).toNat 0) % a1)))]) (st' := [(0, .rc [.imm (.int .u8) (o0_0, o0_1).1, .int .i64 ((o0_0, o0_1).2 + (1:Int))])]) rfl rfl ⟨⟨.inl rfl, rfl, trivial⟩, trivial⟩ ⟨rfl, trivial⟩), he⟩
   ·refine And.intro (by kernel_rfl) ?_
    refine go_rq he fun he => ?_
    refine go_rq he fun he => ?_
    refine fun _ => ?_
    refine go_rq he fun he => ?_
    refine go_rq he fun he => ?_
    refine go_rq he fun he => ?_
    refine go_rq he fun he => ?_
    refine go_rq he fun he => ?_
    refine go_rq he fun he => ?_
    refine fun _ => ?_
    refine go_rq he fun he => ?_
    refine go_rq he fun he => ?_
    refine go_rq he fun he => ?_
    refine go_rq he fun he => ?_
    refine go_rq he fun he => ?_
    refine go_rq he fun he => ?_
    refine go_rq he fun he => ?_
    refine go_rq he fun he => ?_
    refine go_rq he fun he => ?_
    refine go_rq he fun he => ?_
    refine go_rq he fun he => ?_
    have he := ok_some he
    exact ⟨rfl, _, _, (leads_ren [] (l := [(4, .c (.int .i64 (((((((((o0_0, o0_1).1.getD ((((o0_0, o0_1).2 + (1:Int)) - (1:Int)) % ((o0_0, o0_1).1.length:Int)).toNat 0) * (131:Int)) + (((o0_0, o0_1).1.getD ((((((o0_0, o0_1).2 + (1:Int)) - (1:Int)) * (7:Int)) + (3:Int)) % ((o0_0, o0_1).1.length:Int)).toNat 0) * (1117:Int))) + ((((o0_0, o0_1).2 + (1:Int)) - (1:Int)) * (29:Int))) + (((((o0_0, o0_1).2 + (1:Int)) - (1:Int)) / ((o0_0, o0_1).1.length:Int)) * (53:Int))).toNat ^^^ (((((((o0_0, o0_1).1.getD ((((o0_0, o0_1).2 + (1:Int)) - (1:Int)) % ((o0_0, o0_1).1.length:Int)).toNat 0) * (131:Int)) + (((o0_0, o0_1).1.getD ((((((o0_0, o0_1).2 + (1:Int)) - (1:Int)) * (7:Int)) + (3:Int)) % ((o0_0, o0_1).1.length:Int)).toNat 0) * (1117:Int))) + ((((o0_0, o0_1).2 + (1:Int)) - (1:Int)) * (29:Int))) + (((((o0_0, o0_1).2 + (1:Int)) - (1:Int)) / ((o0_0, o0_1).1.length:Int)) * (53:Int))) / (64:Int)).toNat : Nat) : Int) % a1)))]) (st' := [(0, .rc [.imm (.int .u8) (o0_0, o0_1).1, .int .i64 ((o0_0, o0_1).2 + (1:Int))])]) rfl rfl ⟨⟨.inl rfl, rfl, trivial⟩, trivial⟩ ⟨rfl, trivial⟩), he⟩
 ·have he := ok_some he
  exact ⟨rfl, _, _, (leads_ren [] (l := [(4, .c (.int .i64 (0:Int)))]) (st' := [(0, .rc [.imm (.int .u8) (o0_0, o0_1).1, .int .i64 ((o0_0, o0_1).2 + (1:Int))])]) rfl rfl ⟨⟨.inl rfl, rfl, trivial⟩, trivial⟩ ⟨rfl, trivial⟩), he⟩

noncomputable def c_spec_l17Rd_num : Con := fun args st => match args, st with
  | [.c (.ptr 0 0), .c (.imm (.int .i64) list_)], [(0, .rc [.imm (.int .u8) r__0, .int .i64 r__1])] => .opt (Int × D1_) (spec_l17Rd_num list_ (r__0, r__1)) (fun r => .ret (.c (.int .i64 r.1)) [(0, .rc [.imm (.int .u8) r.2.1, .int .i64 r.2.2])])
  | _, _ => .fail

noncomputable def C_spec_l17Rd_num : Cfg := { y := tys, n := 12, h := 1, tab := [(87, c_spec_l17Rd_pick)], cut := [], hand := [], good := [], deep := [], sched := [] }

theorem t_spec_l17Rd_num : TabOk Tryz.prog C_spec_l17Rd_num := by
  refine tabOk_of ?_
  simp only [C_spec_l17Rd_num, List.forall_mem_cons]
  exact ⟨k_spec_l17Rd_pick, fun p h => by cases h⟩

theorem k_spec_l17Rd_num : Entry Tryz.prog 54 c_spec_l17Rd_num := by
 refine entry_by (C := C_spec_l17Rd_num) mixed tys_ok t_spec_l17Rd_num (fn := Tryz.f54) (c := bd Tryz.f54) (by kernel_rfl) (by kernel_rfl) (by kernel_rfl) (by kernel_rfl) ?_
 intro args st k he
 unfold c_spec_l17Rd_num at he
 split at he
 rotate_left
 ·exact he.elim
 rename_i list_ r__0 r__1
 have he : Ok (spec_l17Rd_num list_ (r__0, r__1)) (fun r => k (.c (.int .i64 r.1)) [(0, .rc [.imm (.int .u8) r.2.1, .int .i64 r.2.2])]) := he
 refine ⟨rfl, rfl, ?_⟩
 refine go_bind he fun r1_ he => ?_
 refine go_rq he fun he => ?_
 have he := ok_some he
 exact ⟨rfl, _, _, (leads_ren [] (l := [(4, .c (.int .i64 (list_.getD r1_.1.toNat 0)))]) (st' := [(0, .rc [.imm (.int .u8) r1_.2.1, .int .i64 r1_.2.2])]) rfl rfl ⟨⟨.inl rfl, rfl, trivial⟩, trivial⟩ ⟨rfl, trivial⟩), he⟩

noncomputable def c_spec_l1Total : Con := fun args st => match args, st with
  | [.agg [.imm (.pair (.int .i64) (.int .i64)) c__0, .int .i64 c__1]], [] => .opt (Int) (spec_l1Total (c__0, c__1)) (fun r => .ret (.c (.int .i64 r)) [])
  | _, _ => .fail

noncomputable def C_spec_l1Total : Cfg := { y := tys, n := 21, h := 0, tab := [], cut := [], hand := [], good := [], deep := [], sched := [] }

theorem t_spec_l1Total : TabOk Tryz.prog C_spec_l1Total := tabOk_of (fun p h => by cases h)

theorem k_spec_l1Total : Entry Tryz.prog 216 c_spec_l1Total := by
 refine entry_by (C := C_spec_l1Total) mixed tys_ok t_spec_l1Total (fn := Tryz.f216) (c := bd Tryz.f216) (by kernel_rfl) (by kernel_rfl) (by kernel_rfl) (by kernel_rfl) ?_
 intro args st k he
 unfold c_spec_l1Total at he
 split at he
 rotate_left
 ·exact he.elim
 rename_i c__0 c__1
 have he : Ok (spec_l1Total (c__0, c__1)) (fun r => k (.c (.int .i64 r)) []) := he
 refine ⟨rfl, rfl, ?_⟩
 refine loop_model mixed tys_ok t_spec_l1Total (S := Int × Int) (I := (fun (n, i) => (envOf [(1, .c (.ptr 10000000 0)), (3, .c (.int .i64 n)), (4, .c (.int .i64 i))], [(10000000, .rc [.imm y2_ (c__0, c__1).1, .int .i64 (c__0, c__1).2])]))) (f := spec_l1Total_l1 (c__0, c__1)) (K := (fun r => k (.c (.int .i64 r)) [])) he (leads_ren [(10000000, 1)] rfl rfl ⟨⟨.inl rfl, rfl, trivial⟩, trivial⟩ ⟨⟨⟨rfl, rfl⟩, rfl⟩, rfl, rfl, trivial⟩) ?_
 rintro ⟨n, i⟩ J1 he
 refine go_if he (fun he => ?_) fun he => ?_
 ·refine go_rq he fun he => ?_
  refine go_rq he fun he => ?_
  refine go_rq he fun he => ?_
  have he := ok_some he
  exact ⟨((n + ((c__0, c__1).1.getD i.toNat (0, 0)).1), (i + (1:Int))), he, (leads_ren [] rfl rfl ⟨⟨.inl rfl, rfl, trivial⟩, trivial⟩ ⟨⟨⟨rfl, rfl⟩, rfl⟩, rfl, rfl, trivial⟩)⟩
 ·have he := ok_some he
  exact ⟨rfl, _, _, (leads_ren [] (l := [(2, .c (.int .i64 n))]) (st' := []) rfl rfl trivial ⟨rfl, trivial⟩), he⟩

noncomputable def c_spec_l1Draw : Con := fun args st => match args, st with
  | [.c (.ptr 0 0), .c (.int .i64 most)], [(0, .rc [.imm (.int .u8) r__0, .int .i64 r__1])] => .opt (D1_ × Int × (List D2_)) (spec_l1Draw most (r__0, r__1)) (fun r => .ret (.agg [.own 901 false, .int .i64 r.2.1]) [(0, .rc [.imm (.int .u8) r.1.1, .int .i64 r.1.2]), (900, .rc [.own 901 false, .int .i64 r.2.1]), (901, .sl 155 y2_ r.2.2 .shallow)])
  | _, _ => .fail

noncomputable def C_spec_l1Draw : Cfg := { y := tys, n := 50, h := 1, tab := [(54, c_spec_l17Rd_num), (87, c_spec_l17Rd_pick), (216, c_spec_l1Total)], cut := [9, 10], hand := [], good := [], deep := [], sched := [] }

theorem t_spec_l1Draw : TabOk Tryz.prog C_spec_l1Draw := by
  refine tabOk_of ?_
  simp only [C_spec_l1Draw, List.forall_mem_cons]
  exact ⟨k_spec_l17Rd_num, k_spec_l17Rd_pick, k_spec_l1Total, fun p h => by cases h⟩

theorem k_spec_l1Draw : Entry Tryz.prog 227 c_spec_l1Draw := by
 refine entry_by (C := C_spec_l1Draw) mixed tys_ok t_spec_l1Draw (fn := Tryz.f227) (c := bd Tryz.f227) (by kernel_rfl) (by kernel_rfl) (by kernel_rfl) (by kernel_rfl) ?_
 intro args st k he
 unfold c_spec_l1Draw at he
 split at he
 rotate_left
 ·exact he.elim
 rename_i most r__0 r__1
 have he : Ok (spec_l1Draw most (r__0, r__1)) (fun r => k (.agg [.own 901 false, .int .i64 r.2.1]) [(0, .rc [.imm (.int .u8) r.1.1, .int .i64 r.1.2]), (900, .rc [.own 901 false, .int .i64 r.2.1]), (901, .sl 155 y2_ r.2.2 .shallow)]) := he
 refine ⟨rfl, rfl, ?_⟩
 refine seq_model mixed tys_ok t_spec_l1Draw (S := D1_ × (List D2_)) (I := (fun (r_4, c_01) => (envOf [(0, .c (.ptr 0 0)), (4, .c (.ptr 10003000 0)), (5, .c (.ptr 10003001 0))], [(0, .rc [.imm (.int .u8) r_4.1, .int .i64 r_4.2]), (10003000, .rc [.nil, .int .i64 (0:Int)]), (10003001, .rc [.own 10003002 false, .int .i64 (0:Int)]), (10003002, .sl 155 y2_ c_01 .shallow)]))) (B := fun s => Ok (spec_l1Draw_j1 s) (fun r => k (.agg [.own 901 false, .int .i64 r.2.1]) [(0, .rc [.imm (.int .u8) r.1.1, .int .i64 r.1.2]), (900, .rc [.own 901 false, .int .i64 r.2.1]), (901, .sl 155 y2_ r.2.2 .shallow)])) ?_ ?_
 ·rintro ⟨r_4, c_01⟩ he
  refine go_bind he fun r7_ he => ?_
  refine go_bind he fun r8_ he => ?_
  refine go_bind he fun r9_ he => ?_
  refine go_if he (fun he => ?_) fun he => ?_
  ·refine go_rq he fun he => ?_
   refine go_bind he fun r10_ he => ?_
   have he := ok_some he
   exact ⟨rfl, _, _, (leads_ren [(900, 10003000), (901, 10003002)] (l := [(4, .c (.ptr 900 0))]) (st' := [(0, .rc [.imm (.int .u8) r10_.2.1, .int .i64 r10_.2.2]), (900, .rc [.own 901 false, .int .i64 r10_.1]), (901, .sl 155 y2_ c_01 .shallow)]) rfl rfl ⟨⟨.inl rfl, rfl, trivial⟩, ⟨⟨⟨rfl, rfl⟩, trivial⟩, rfl, trivial⟩, ⟨rfl, rfl⟩, trivial⟩ ⟨⟨⟨rfl, rfl⟩, rfl⟩, trivial⟩), he⟩
  ·have he := ok_some he
   exact ⟨rfl, _, _, (leads_ren [(900, 10003000), (901, 10003002)] (l := [(4, .c (.ptr 900 0))]) (st' := [(0, .rc [.imm (.int .u8) r9_.2.1, .int .i64 r9_.2.2]), (900, .rc [.own 901 false, .int .i64 r8_.1]), (901, .sl 155 y2_ c_01 .shallow)]) rfl rfl ⟨⟨.inl rfl, rfl, trivial⟩, ⟨⟨⟨rfl, rfl⟩, trivial⟩, rfl, trivial⟩, ⟨rfl, rfl⟩, trivial⟩ ⟨⟨⟨rfl, rfl⟩, rfl⟩, trivial⟩), he⟩
 ·skip
  refine loop_model mixed tys_ok t_spec_l1Draw (S := Int × D1_ × (List D2_)) (I := (fun (v, r_2, c_0) => (envOf [(0, .c (.ptr 0 0)), (1, .c (.int .i64 most)), (4, .c (.ptr 10000000 0)), (5, .c (.ptr 10000001 0)), (6, .c (.int .i64 v))], [(0, .rc [.imm (.int .u8) r_2.1, .int .i64 r_2.2]), (10000000, .rc [.nil, .int .i64 (0:Int)]), (10000001, .rc [.own 10000002 false, .int .i64 (0:Int)]), (10000002, .sl 155 y2_ c_0 .shallow)]))) (f := spec_l1Draw_l1 most) (K := (fun r => k (.agg [.own 901 false, .int .i64 r.2.1]) [(0, .rc [.imm (.int .u8) r.1.1, .int .i64 r.1.2]), (900, .rc [.own 901 false, .int .i64 r.2.1]), (901, .sl 155 y2_ r.2.2 .shallow)])) he (leads_ren [(10000000, 4), (10000001, 5)] rfl rfl ⟨⟨.inl rfl, rfl, trivial⟩, ⟨rfl, rfl, trivial⟩, ⟨⟨rfl, trivial⟩, rfl, trivial⟩, trivial, trivial⟩ ⟨⟨⟨rfl, rfl⟩, rfl⟩, rfl, ⟨⟨rfl, rfl⟩, rfl⟩, ⟨⟨rfl, rfl⟩, rfl⟩, rfl, trivial⟩) ?_
  rintro ⟨v, r_2, c_0⟩ J1 he
  refine go_if he (fun he => ?_) fun he => ?_
  ·refine go_bind he fun r4_ he => ?_
   refine go_if he (fun he => ?_) fun he => ?_
   ·refine go_bind he fun r5_ he => ?_
    refine seq_model mixed tys_ok t_spec_l1Draw (S := D1_ × D2_) (I := (fun (r_3, t_1) => (envOf [(0, .c (.ptr 0 0)), (1, .c (.int .i64 most)), (4, .c (.ptr 10002000 0)), (5, .c (.ptr 10002001 0)), (6, .c (.int .i64 v)), (7, .c (.ptr 10002002 0))], [(0, .rc [.imm (.int .u8) r_3.1, .int .i64 r_3.2]), (10002000, .rc [.nil, .int .i64 (0:Int)]), (10002001, .rc [.own 10002003 false, .int .i64 (0:Int)]), (10002002, .rc [.int .i64 t_1.1, .int .i64 t_1.2]), (10002003, .sl 155 y2_ c_0 .shallow)]))) (B := fun s => Ok (spec_l1Draw_j2 v c_0 s) (LK J1 (fun r => k (.agg [.own 901 false, .int .i64 r.2.1]) [(0, .rc [.imm (.int .u8) r.1.1, .int .i64 r.1.2]), (900, .rc [.own 901 false, .int .i64 r.2.1]), (901, .sl 155 y2_ r.2.2 .shallow)]))) ?_ ?_
    ·rintro ⟨r_3, t_1⟩ he
     refine go_rq he fun he => ?_
     refine go_rq he fun he => ?_
     have he := ok_some he
     exact ⟨((v + (1:Int)), r_3, (c_0 ++ [t_1])), he, (leads_ren [(10000000, 10002000), (10000001, 10002001), (10000002, 33)] rfl rfl ⟨⟨.inl rfl, rfl, trivial⟩, ⟨rfl, rfl, trivial⟩, ⟨⟨⟨rfl, rfl⟩, trivial⟩, rfl, trivial⟩, ⟨rfl, rfl⟩, trivial⟩ ⟨⟨⟨rfl, rfl⟩, rfl⟩, rfl, ⟨⟨rfl, rfl⟩, rfl⟩, ⟨⟨rfl, rfl⟩, rfl⟩, rfl, trivial⟩)⟩
    ·skip
     refine go_bind he fun r6_ he => ?_
     refine go_if he (fun he => ?_) fun he => ?_
     ·refine go_rq he fun he => ?_
      exact ⟨(r6_.2, (r5_.1, (0 - v))), he, (leads_ren [(10002000, 10000000), (10002001, 10000001), (10002002, 7), (10002003, 10000002)] rfl rfl ⟨⟨.inl rfl, rfl, trivial⟩, ⟨rfl, rfl, trivial⟩, ⟨⟨⟨rfl, rfl⟩, trivial⟩, rfl, trivial⟩, ⟨rfl, rfl, trivial⟩, ⟨rfl, rfl⟩, trivial⟩ ⟨⟨⟨rfl, rfl⟩, rfl⟩, rfl, ⟨⟨rfl, rfl⟩, rfl⟩, ⟨⟨rfl, rfl⟩, rfl⟩, rfl, ⟨⟨rfl, rfl⟩, rfl⟩, trivial⟩)⟩
     ·exact ⟨(r6_.2, (r5_.1, v)), he, (leads_ren [(10002000, 10000000), (10002001, 10000001), (10002002, 7), (10002003, 10000002)] rfl rfl ⟨⟨.inl rfl, rfl, trivial⟩, ⟨rfl, rfl, trivial⟩, ⟨⟨⟨rfl, rfl⟩, trivial⟩, rfl, trivial⟩, ⟨rfl, rfl, trivial⟩, ⟨rfl, rfl⟩, trivial⟩ ⟨⟨⟨rfl, rfl⟩, rfl⟩, rfl, ⟨⟨rfl, rfl⟩, rfl⟩, ⟨⟨rfl, rfl⟩, rfl⟩, rfl, ⟨⟨rfl, rfl⟩, rfl⟩, trivial⟩)⟩
   ·refine go_rq he fun he => ?_
    have he := ok_some he
    exact ⟨((v + (1:Int)), r4_.2, c_0), he, (leads_ren [] rfl rfl ⟨⟨.inl rfl, rfl, trivial⟩, ⟨rfl, rfl, trivial⟩, ⟨⟨⟨rfl, rfl⟩, trivial⟩, rfl, trivial⟩, ⟨rfl, rfl⟩, trivial⟩ ⟨⟨⟨rfl, rfl⟩, rfl⟩, rfl, ⟨⟨rfl, rfl⟩, rfl⟩, ⟨⟨rfl, rfl⟩, rfl⟩, rfl, trivial⟩)⟩
  ·exact ⟨(r_2, c_0), ok_up he, (leads_ren [(10003000, 10000000), (10003001, 10000001), (10003002, 10000002)] rfl rfl ⟨⟨.inl rfl, rfl, trivial⟩, ⟨rfl, rfl, trivial⟩, ⟨⟨⟨rfl, rfl⟩, trivial⟩, rfl, trivial⟩, ⟨rfl, rfl⟩, trivial⟩ ⟨⟨⟨rfl, rfl⟩, rfl⟩, ⟨⟨rfl, rfl⟩, rfl⟩, ⟨⟨rfl, rfl⟩, rfl⟩, trivial⟩)⟩

noncomputable def c_spec_l3Problem : Con := fun args st => match args, st with
  | [.c (.ptr 0 0)], [(0, .rc [.imm (.int .u8) r__0, .int .i64 r__1])] => .opt (D1_ × (List D3_)) (spec_l3Problem (r__0, r__1)) (fun r => .ret (.c (.own 900 false)) [(0, .rc [.imm (.int .u8) r.1.1, .int .i64 r.1.2]), (900, .sl 89 y3_ r.2 (.deep true .no))])
  | _, _ => .fail

noncomputable def C_spec_l3Problem : Cfg := { y := tys, n := 24, h := 1, tab := [(54, c_spec_l17Rd_num), (227, c_spec_l1Draw)], cut := [], hand := [], good := [], deep := [6, 21], sched := [] }

theorem t_spec_l3Problem : TabOk Tryz.prog C_spec_l3Problem := by
  refine tabOk_of ?_
  simp only [C_spec_l3Problem, List.forall_mem_cons]
  exact ⟨k_spec_l17Rd_num, k_spec_l1Draw, fun p h => by cases h⟩

theorem k_spec_l3Problem : Entry Tryz.prog 219 c_spec_l3Problem := by
 refine entry_by (C := C_spec_l3Problem) mixed tys_ok t_spec_l3Problem (fn := Tryz.f219) (c := bd Tryz.f219) (by kernel_rfl) (by kernel_rfl) (by kernel_rfl) (by kernel_rfl) ?_
 intro args st k he
 unfold c_spec_l3Problem at he
 split at he
 rotate_left
 ·exact he.elim
 rename_i r__0 r__1
 have he : Ok (spec_l3Problem (r__0, r__1)) (fun r => k (.c (.own 900 false)) [(0, .rc [.imm (.int .u8) r.1.1, .int .i64 r.1.2]), (900, .sl 89 y3_ r.2 (.deep true .no))]) := he
 refine ⟨rfl, rfl, ?_⟩
 refine go_bind he fun r1_ he => ?_
 refine go_bind he fun r2_ he => ?_
 refine loop_model mixed tys_ok t_spec_l3Problem (S := Int × D1_ × (List D3_)) (I := (fun (i, r_1, out) => (envOf [(0, .c (.ptr 0 0)), (3, .c (.own 10000000 false)), (4, .c (.int .i64 r1_.1)), (5, .c (.int .i64 i))], [(0, .rc [.imm (.int .u8) r_1.1, .int .i64 r_1.2]), (10000000, .sl 89 y3_ out (.deep true .no))]))) (f := spec_l3Problem_l1 r1_) (K := (fun r => k (.c (.own 900 false)) [(0, .rc [.imm (.int .u8) r.1.1, .int .i64 r.1.2]), (900, .sl 89 y3_ r.2 (.deep true .no))])) he (leads_ren [(10000000, 6)] rfl rfl ⟨⟨.inl rfl, rfl, trivial⟩, ⟨rfl, rfl⟩, trivial⟩ ⟨⟨⟨rfl, rfl⟩, rfl⟩, ⟨⟨rfl, rfl⟩, trivial⟩, rfl, rfl, trivial⟩) ?_
 rintro ⟨i, r_1, out⟩ J1 he
 refine go_if he (fun he => ?_) fun he => ?_
 ·refine go_bind he fun r4_ he => ?_
  refine go_rq he fun he => ?_
  refine go_rq he fun he => ?_
  have he := ok_some he
  exact ⟨((i - (1:Int)), r4_.1, (out ++ [(r4_.2.2, r4_.2.1)])), he, (leads_ren [(10000000, 22)] rfl rfl ⟨⟨.inl rfl, rfl, trivial⟩, ⟨rfl, rfl⟩, trivial⟩ ⟨⟨⟨rfl, rfl⟩, rfl⟩, ⟨⟨rfl, rfl⟩, trivial⟩, rfl, rfl, trivial⟩)⟩
 ·have he := ok_some he
  exact ⟨rfl, _, _, (leads_ren [(900, 10000000)] (l := [(2, .c (.own 900 false))]) (st' := [(0, .rc [.imm (.int .u8) r_1.1, .int .i64 r_1.2]), (900, .sl 89 y3_ out (.deep true .no))]) rfl rfl ⟨⟨.inl rfl, rfl, trivial⟩, ⟨rfl, rfl⟩, trivial⟩ ⟨⟨⟨rfl, rfl⟩, trivial⟩, trivial⟩), he⟩

noncomputable def c_spec_l4Step : Con := fun args st => match args, st with
  | [.c (.ptr 0 0), .c (.int .i64 n)], [(0, .rc [.imm (.int .u8) r__0, .int .i64 r__1])] => .opt (D1_ × Int × Int × Int × Int × (List D2_)) (spec_l4Step n (r__0, r__1)) (fun r => .ret (.agg [.int .i64 r.2.1, .int .i64 r.2.2.1, .int .i64 r.2.2.2.1, .own 901 false, .int .i64 r.2.2.2.2.1]) [(0, .rc [.imm (.int .u8) r.1.1, .int .i64 r.1.2]), (900, .rc [.int .i64 r.2.1, .int .i64 r.2.2.1, .int .i64 r.2.2.2.1, .own 901 false, .int .i64 r.2.2.2.2.1]), (901, .sl 155 y2_ r.2.2.2.2.2 .shallow)])
  | _, _ => .fail

noncomputable def C_spec_l4Step : Cfg := { y := tys, n := 53, h := 1, tab := [(54, c_spec_l17Rd_num), (87, c_spec_l17Rd_pick), (227, c_spec_l1Draw)], cut := [], hand := [], good := [], deep := [], sched := [] }

theorem t_spec_l4Step : TabOk Tryz.prog C_spec_l4Step := by
  refine tabOk_of ?_
  simp only [C_spec_l4Step, List.forall_mem_cons]
  exact ⟨k_spec_l17Rd_num, k_spec_l17Rd_pick, k_spec_l1Draw, fun p h => by cases h⟩

theorem k_spec_l4Step : Entry Tryz.prog 256 c_spec_l4Step := by
 refine entry_by (C := C_spec_l4Step) mixed tys_ok t_spec_l4Step (fn := Tryz.f256) (c := bd Tryz.f256) (by kernel_rfl) (by kernel_rfl) (by kernel_rfl) (by kernel_rfl) ?_
 intro args st k he
 unfold c_spec_l4Step at he
 split at he
 rotate_left
 ·exact he.elim
 rename_i n r__0 r__1
 have he : Ok (spec_l4Step n (r__0, r__1)) (fun r => k (.agg [.int .i64 r.2.1, .int .i64 r.2.2.1, .int .i64 r.2.2.2.1, .own 901 false, .int .i64 r.2.2.2.2.1]) [(0, .rc [.imm (.int .u8) r.1.1, .int .i64 r.1.2]), (900, .rc [.int .i64 r.2.1, .int .i64 r.2.2.1, .int .i64 r.2.2.2.1, .own 901 false, .int .i64 r.2.2.2.2.1]), (901, .sl 155 y2_ r.2.2.2.2.2 .shallow)]) := he
 refine ⟨rfl, rfl, ?_⟩
 refine go_bind he fun r1_ he => ?_
 refine go_if he (fun he => ?_) fun he => ?_
 ·refine go_bind he fun r2_ he => ?_
  have he := ok_some he
  exact ⟨rfl, _, _, (leads_ren [(900, 4)] (l := [(4, .c (.ptr 900 0))]) (st' := [(0, .rc [.imm (.int .u8) r2_.2.1, .int .i64 r2_.2.2]), (900, .rc [.int .i64 r1_.1, .int .i64 r2_.1, .int .i64 (0:Int), .own 901 false, .int .i64 (0:Int)]), (901, .sl 155 y2_ ([] : List D2_) .shallow)]) rfl rfl ⟨⟨.inl rfl, rfl, trivial⟩, ⟨rfl, rfl, rfl, ⟨rfl, trivial⟩, rfl, trivial⟩, trivial, trivial⟩ ⟨⟨⟨rfl, rfl⟩, rfl⟩, trivial⟩), he⟩
 ·refine go_if he (fun he => ?_) fun he => ?_
  ·refine go_bind he fun r3_ he => ?_
   have he := ok_some he
   exact ⟨rfl, _, _, (leads_ren [(900, 4), (901, 23901)] (l := [(4, .c (.ptr 900 0))]) (st' := [(0, .rc [.imm (.int .u8) r3_.1.1, .int .i64 r3_.1.2]), (900, .rc [.int .i64 r1_.1, .int .i64 (0:Int), .int .i64 (0:Int), .own 901 false, .int .i64 r3_.2.1]), (901, .sl 155 y2_ r3_.2.2 .shallow)]) rfl rfl ⟨⟨.inl rfl, rfl, trivial⟩, ⟨rfl, rfl, rfl, ⟨⟨rfl, rfl⟩, trivial⟩, rfl, trivial⟩, ⟨rfl, rfl⟩, trivial⟩ ⟨⟨⟨rfl, rfl⟩, rfl⟩, trivial⟩), he⟩
  ·refine go_rq he fun he => ?_
   refine go_bind he fun r4_ he => ?_
   refine go_if he (fun he => ?_) fun he => ?_
   ·refine go_rq he fun he => ?_
    refine go_bind he fun r5_ he => ?_
    have he := ok_some he
    exact ⟨rfl, _, _, (leads_ren [(900, 4)] (l := [(4, .c (.ptr 900 0))]) (st' := [(0, .rc [.imm (.int .u8) r5_.2.1, .int .i64 r5_.2.2]), (900, .rc [.int .i64 r1_.1, .int .i64 r4_.1, .int .i64 r5_.1, .own 901 false, .int .i64 (0:Int)]), (901, .sl 155 y2_ ([] : List D2_) .shallow)]) rfl rfl ⟨⟨.inl rfl, rfl, trivial⟩, ⟨rfl, rfl, rfl, ⟨rfl, trivial⟩, rfl, trivial⟩, trivial, trivial⟩ ⟨⟨⟨rfl, rfl⟩, rfl⟩, trivial⟩), he⟩
   ·refine go_if he (fun he => ?_) fun he => ?_
    ·refine go_bind he fun r6_ he => ?_
     have he := ok_some he
     exact ⟨rfl, _, _, (leads_ren [(900, 4)] (l := [(4, .c (.ptr 900 0))]) (st' := [(0, .rc [.imm (.int .u8) r6_.2.1, .int .i64 r6_.2.2]), (900, .rc [.int .i64 r1_.1, .int .i64 r4_.1, .int .i64 r6_.1, .own 901 false, .int .i64 (0:Int)]), (901, .sl 155 y2_ ([] : List D2_) .shallow)]) rfl rfl ⟨⟨.inl rfl, rfl, trivial⟩, ⟨rfl, rfl, rfl, ⟨rfl, trivial⟩, rfl, trivial⟩, trivial, trivial⟩ ⟨⟨⟨rfl, rfl⟩, rfl⟩, trivial⟩), he⟩
    ·refine go_if he (fun he => ?_) fun he => ?_
     ·refine go_bind he fun r7_ he => ?_
      have he := ok_some he
      exact ⟨rfl, _, _, (leads_ren [(900, 4)] (l := [(4, .c (.ptr 900 0))]) (st' := [(0, .rc [.imm (.int .u8) r7_.2.1, .int .i64 r7_.2.2]), (900, .rc [.int .i64 r1_.1, .int .i64 r4_.1, .int .i64 r7_.1, .own 901 false, .int .i64 (0:Int)]), (901, .sl 155 y2_ ([] : List D2_) .shallow)]) rfl rfl ⟨⟨.inl rfl, rfl, trivial⟩, ⟨rfl, rfl, rfl, ⟨rfl, trivial⟩, rfl, trivial⟩, trivial, trivial⟩ ⟨⟨⟨rfl, rfl⟩, rfl⟩, trivial⟩), he⟩
     ·refine go_if he (fun he => ?_) fun he => ?_
      ·refine go_bind he fun r8_ he => ?_
       refine go_rq he fun he => ?_
       have he := ok_some he
       exact ⟨rfl, _, _, (leads_ren [(900, 4)] (l := [(4, .c (.ptr 900 0))]) (st' := [(0, .rc [.imm (.int .u8) r8_.2.1, .int .i64 r8_.2.2]), (900, .rc [.int .i64 r1_.1, .int .i64 r4_.1, .int .i64 ((1:Int) + r8_.1), .own 901 false, .int .i64 (0:Int)]), (901, .sl 155 y2_ ([] : List D2_) .shallow)]) rfl rfl ⟨⟨.inl rfl, rfl, trivial⟩, ⟨rfl, rfl, rfl, ⟨rfl, trivial⟩, rfl, trivial⟩, trivial, trivial⟩ ⟨⟨⟨rfl, rfl⟩, rfl⟩, trivial⟩), he⟩
      ·have he := ok_some he
       exact ⟨rfl, _, _, (leads_ren [(900, 4)] (l := [(4, .c (.ptr 900 0))]) (st' := [(0, .rc [.imm (.int .u8) r4_.2.1, .int .i64 r4_.2.2]), (900, .rc [.int .i64 r1_.1, .int .i64 r4_.1, .int .i64 (0:Int), .own 901 false, .int .i64 (0:Int)]), (901, .sl 155 y2_ ([] : List D2_) .shallow)]) rfl rfl ⟨⟨.inl rfl, rfl, trivial⟩, ⟨rfl, rfl, rfl, ⟨rfl, trivial⟩, rfl, trivial⟩, trivial, trivial⟩ ⟨⟨⟨rfl, rfl⟩, rfl⟩, trivial⟩), he⟩

noncomputable def c_spec_l1Lit : Con := fun args st => match args, st with
  | [.c (.int .i64 n)], [] => .opt (Bool) (spec_l1Lit n) (fun r => .ret (.c (.bool r)) [])
  | _, _ => .fail

noncomputable def C_spec_l1Lit : Cfg := { y := tys, n := 13, h := 0, tab := [], cut := [], hand := [], good := [], deep := [], sched := [] }

theorem t_spec_l1Lit : TabOk Tryz.prog C_spec_l1Lit := tabOk_of (fun p h => by cases h)

theorem k_spec_l1Lit : Entry Tryz.prog 228 c_spec_l1Lit := by
 refine entry_by (C := C_spec_l1Lit) mixed tys_ok t_spec_l1Lit (fn := Tryz.f228) (c := bd Tryz.f228) (by kernel_rfl) (by kernel_rfl) (by kernel_rfl) (by kernel_rfl) ?_
 intro args st k he
 unfold c_spec_l1Lit at he
 split at he
 rotate_left
 ·exact he.elim
 rename_i n
 have he : Ok (spec_l1Lit n) (fun r => k (.c (.bool r)) []) := he
 refine ⟨rfl, rfl, ?_⟩
 refine go_if he (fun he => ?_) fun he => ?_
 ·refine go_if he (fun he => ?_) fun he => ?_
  ·have he := ok_some he
   exact ⟨rfl, _, _, Leads.refl _ _, he⟩
  ·have he := ok_some he
   exact ⟨rfl, _, _, Leads.refl _ _, he⟩
 ·have he := ok_some he
  exact ⟨rfl, _, _, Leads.refl _ _, he⟩

noncomputable def c_spec_l1Abs : Con := fun args st => match args, st with
  | [.c (.int .i64 n)], [] => .opt (Int) (spec_l1Abs n) (fun r => .ret (.c (.int .i64 r)) [])
  | _, _ => .fail

noncomputable def C_spec_l1Abs : Cfg := { y := tys, n := 8, h := 0, tab := [], cut := [], hand := [], good := [], deep := [], sched := [] }

theorem t_spec_l1Abs : TabOk Tryz.prog C_spec_l1Abs := tabOk_of (fun p h => by cases h)

theorem k_spec_l1Abs : Entry Tryz.prog 229 c_spec_l1Abs := by
 refine entry_by (C := C_spec_l1Abs) mixed tys_ok t_spec_l1Abs (fn := Tryz.f229) (c := bd Tryz.f229) (by kernel_rfl) (by kernel_rfl) (by kernel_rfl) (by kernel_rfl) ?_
 intro args st k he
 unfold c_spec_l1Abs at he
 split at he
 rotate_left
 ·exact he.elim
 rename_i n
 have he : Ok (spec_l1Abs n) (fun r => k (.c (.int .i64 r)) []) := he
 refine ⟨rfl, rfl, ?_⟩
 refine go_if he (fun he => ?_) fun he => ?_
 ·refine go_rq he fun he => ?_
  have he := ok_some he
  exact ⟨rfl, _, _, Leads.refl _ _, he⟩
 ·have he := ok_some he
  exact ⟨rfl, _, _, Leads.refl _ _, he⟩

noncomputable def c_spec_ConstraintValid : Con := fun args st => match args, st with
  | [.agg [.imm (.pair (.int .i64) (.int .i64)) c__0, .int .i64 c__1]], [] => .opt (Bool) (spec_ConstraintValid (c__0, c__1)) (fun r => .ret (.c (.bool r)) [])
  | _, _ => .fail

noncomputable def C_spec_ConstraintValid : Cfg := { y := tys, n := 57, h := 0, tab := [(228, c_spec_l1Lit), (229, c_spec_l1Abs)], cut := [], hand := [], good := [], deep := [], sched := [(5, (.first 0 (.alt 1 (.alt 2 (.first 3 (.first 4 (.first 5 (.alt 6 (.first 7 (.first 8 (.first 9 (.first 10 (.alt 11 (.first 12 (.first 13 (.first 14 (.first 15 (.first 16 (.first 17 (.first 18 (.first 20 (.first 21 (.first 26 (.alt 19 (.first 22 (.first 23 (.first 24 (.alt 25 (.alt 27 (.alt 28 (.first 29 (.first 30 (.first 31 .done))) .stop) .stop) (.alt 27 (.alt 25 (.alt 28 (.first 29 (.first 30 (.first 31 .done))) .stop) .stop) .stop))))) (.alt 27 (.alt 19 (.first 22 (.first 23 (.first 24 (.alt 25 (.alt 28 (.first 29 (.first 30 (.first 31 .done))) .stop) .stop)))) .stop) .stop)))))))))))) .stop))))) .stop)))) .stop) .stop)))] }

theorem t_spec_ConstraintValid : TabOk Tryz.prog C_spec_ConstraintValid := by
  refine tabOk_of ?_
  simp only [C_spec_ConstraintValid, List.forall_mem_cons]
  exact ⟨k_spec_l1Lit, k_spec_l1Abs, fun p h => by cases h⟩

theorem k_spec_ConstraintValid : Entry Tryz.prog 168 c_spec_ConstraintValid := by
 refine entry_by (C := C_spec_ConstraintValid) mixed tys_ok t_spec_ConstraintValid (fn := Tryz.f168) (c := bd Tryz.f168) (by kernel_rfl) (by kernel_rfl) (by kernel_rfl) (by kernel_rfl) ?_
 intro args st k he
 unfold c_spec_ConstraintValid at he
 split at he
 rotate_left
 ·exact he.elim
 rename_i c__0 c__1
 have he : Ok (spec_ConstraintValid (c__0, c__1)) (fun r => k (.c (.bool r)) []) := he
 refine ⟨rfl, rfl, ?_⟩
 refine loop_model mixed tys_ok t_spec_ConstraintValid (S := Int) (I := (fun i => (envOf [(1, .c (.ptr 10000000 0)), (3, .c (.int .i64 i))], [(10000000, .rc [.imm y2_ (c__0, c__1).1, .int .i64 (c__0, c__1).2])]))) (f := spec_ConstraintValid_l1 (c__0, c__1)) (K := (fun r => k (.c (.bool r)) [])) he (leads_ren [(10000000, 1)] rfl rfl ⟨⟨.inl rfl, rfl, trivial⟩, trivial⟩ ⟨⟨⟨rfl, rfl⟩, rfl⟩, rfl, trivial⟩) ?_
 rintro i J1 he
 refine go_if he (fun he => ?_) fun he => ?_
 ·refine go_rq he fun he => ?_
  refine And.intro (by kernel_rfl) ?_
  refine And.intro ?_ trivial
  refine And.intro ?_ trivial
  refine go_bind he fun r4_ he => ?_
  refine go_if2 he (fun he => ?_) fun he => ?_
  ·refine And.intro ?_ trivial
   refine go_if2 he (fun he => ?_) fun he => ?_
   ·refine And.intro ?_ trivial
    refine go_if2 he (fun he => ?_) fun he => ?_
    ·refine go_if he (fun he => ?_) fun he => ?_
     ·refine go_rq he fun he => ?_
      have he := ok_rq he
      have hq1 := he.1
      have he := he.2
      obtain ⟨r5_, hq2, he⟩ := ok_bind he
      obtain ⟨r6_, hq3, he⟩ := ok_bind he
      refine And.intro ?_ (And.intro ?_ (trivial))
      ·skip
       refine And.intro hq1 ?_
       refine And.intro ?_ (And.intro ?_ (trivial))
       ·skip
        refine ⟨r5_, hq2, ?_⟩
        refine And.intro ?_ trivial
        refine And.intro ?_ trivial
        refine ⟨r6_, hq3, ?_⟩
        refine go_if he (fun he => ?_) fun he => ?_
        ·have he := ok_some he
         exact ⟨rfl, _, _, (leads_ren [] (l := [(2, .c (.bool false))]) (st' := []) rfl rfl trivial ⟨.inr rfl, trivial⟩), he⟩
        ·refine go_rq he fun he => ?_
         have he := ok_some he
         exact ⟨(i + (1:Int)), he, (leads_ren [] rfl rfl ⟨⟨.inl rfl, rfl, trivial⟩, trivial⟩ ⟨⟨⟨rfl, rfl⟩, rfl⟩, rfl, trivial⟩)⟩
       ·skip
        refine And.intro ?_ trivial
        refine ⟨r5_, hq2, ?_⟩
        refine And.intro ?_ trivial
        refine ⟨r6_, hq3, ?_⟩
        refine go_if he (fun he => ?_) fun he => ?_
        ·have he := ok_some he
         exact ⟨rfl, _, _, (leads_ren [] (l := [(2, .c (.bool false))]) (st' := []) rfl rfl trivial ⟨.inr rfl, trivial⟩), he⟩
        ·refine go_rq he fun he => ?_
         have he := ok_some he
         exact ⟨(i + (1:Int)), he, (leads_ren [] rfl rfl ⟨⟨.inl rfl, rfl, trivial⟩, trivial⟩ ⟨⟨⟨rfl, rfl⟩, rfl⟩, rfl, trivial⟩)⟩
      ·skip
       refine And.intro ?_ trivial
       refine And.intro hq1 ?_
       refine And.intro ?_ trivial
       refine ⟨r5_, hq2, ?_⟩
       refine And.intro ?_ trivial
       refine ⟨r6_, hq3, ?_⟩
       refine go_if he (fun he => ?_) fun he => ?_
       ·have he := ok_some he
        exact ⟨rfl, _, _, (leads_ren [] (l := [(2, .c (.bool false))]) (st' := []) rfl rfl trivial ⟨.inr rfl, trivial⟩), he⟩
       ·refine go_rq he fun he => ?_
        have he := ok_some he
        exact ⟨(i + (1:Int)), he, (leads_ren [] rfl rfl ⟨⟨.inl rfl, rfl, trivial⟩, trivial⟩ ⟨⟨⟨rfl, rfl⟩, rfl⟩, rfl, trivial⟩)⟩
     ·refine And.intro ?_ (And.intro ?_ (trivial))
      ·skip
       refine And.intro ?_ (And.intro ?_ (trivial))
       ·skip
        refine And.intro ?_ trivial
        refine And.intro ?_ trivial
        refine go_rq he fun he => ?_
        have he := ok_some he
        exact ⟨(i + (1:Int)), he, (leads_ren [] rfl rfl ⟨⟨.inl rfl, rfl, trivial⟩, trivial⟩ ⟨⟨⟨rfl, rfl⟩, rfl⟩, rfl, trivial⟩)⟩
       ·skip
        refine And.intro ?_ trivial
        refine And.intro ?_ trivial
        refine go_rq he fun he => ?_
        have he := ok_some he
        exact ⟨(i + (1:Int)), he, (leads_ren [] rfl rfl ⟨⟨.inl rfl, rfl, trivial⟩, trivial⟩ ⟨⟨⟨rfl, rfl⟩, rfl⟩, rfl, trivial⟩)⟩
      ·skip
       refine And.intro ?_ trivial
       refine And.intro ?_ trivial
       refine And.intro ?_ trivial
       refine go_rq he fun he => ?_
       have he := ok_some he
       exact ⟨(i + (1:Int)), he, (leads_ren [] rfl rfl ⟨⟨.inl rfl, rfl, trivial⟩, trivial⟩ ⟨⟨⟨rfl, rfl⟩, rfl⟩, rfl, trivial⟩)⟩
    ·refine And.intro ?_ (And.intro ?_ (trivial))
     ·skip
      refine And.intro ?_ (And.intro ?_ (trivial))
      ·skip
       refine And.intro ?_ trivial
       refine And.intro ?_ trivial
       have he := ok_some he
       exact ⟨rfl, _, _, (leads_ren [] (l := [(2, .c (.bool false))]) (st' := []) rfl rfl trivial ⟨.inr rfl, trivial⟩), he⟩
      ·skip
       refine And.intro ?_ trivial
       refine And.intro ?_ trivial
       have he := ok_some he
       exact ⟨rfl, _, _, (leads_ren [] (l := [(2, .c (.bool false))]) (st' := []) rfl rfl trivial ⟨.inr rfl, trivial⟩), he⟩
     ·skip
      refine And.intro ?_ trivial
      refine And.intro ?_ trivial
      refine And.intro ?_ trivial
      have he := ok_some he
      exact ⟨rfl, _, _, (leads_ren [] (l := [(2, .c (.bool false))]) (st' := []) rfl rfl trivial ⟨.inr rfl, trivial⟩), he⟩
   ·refine And.intro ?_ trivial
    refine And.intro ?_ (And.intro ?_ (trivial))
    ·skip
     refine And.intro ?_ (And.intro ?_ (trivial))
     ·skip
      refine And.intro ?_ trivial
      refine And.intro ?_ trivial
      have he := ok_some he
      exact ⟨rfl, _, _, (leads_ren [] (l := [(2, .c (.bool false))]) (st' := []) rfl rfl trivial ⟨.inr rfl, trivial⟩), he⟩
     ·skip
      refine And.intro ?_ trivial
      refine And.intro ?_ trivial
      have he := ok_some he
      exact ⟨rfl, _, _, (leads_ren [] (l := [(2, .c (.bool false))]) (st' := []) rfl rfl trivial ⟨.inr rfl, trivial⟩), he⟩
    ·skip
     refine And.intro ?_ trivial
     refine And.intro ?_ trivial
     refine And.intro ?_ trivial
     have he := ok_some he
     exact ⟨rfl, _, _, (leads_ren [] (l := [(2, .c (.bool false))]) (st' := []) rfl rfl trivial ⟨.inr rfl, trivial⟩), he⟩
  ·refine And.intro ?_ trivial
   refine And.intro ?_ trivial
   refine And.intro ?_ (And.intro ?_ (trivial))
   ·skip
    refine And.intro ?_ (And.intro ?_ (trivial))
    ·skip
     refine And.intro ?_ trivial
     refine And.intro ?_ trivial
     have he := ok_some he
     exact ⟨rfl, _, _, (leads_ren [] (l := [(2, .c (.bool false))]) (st' := []) rfl rfl trivial ⟨.inr rfl, trivial⟩), he⟩
    ·skip
     refine And.intro ?_ trivial
     refine And.intro ?_ trivial
     have he := ok_some he
     exact ⟨rfl, _, _, (leads_ren [] (l := [(2, .c (.bool false))]) (st' := []) rfl rfl trivial ⟨.inr rfl, trivial⟩), he⟩
   ·skip
    refine And.intro ?_ trivial
    refine And.intro ?_ trivial
    refine And.intro ?_ trivial
    have he := ok_some he
    exact ⟨rfl, _, _, (leads_ren [] (l := [(2, .c (.bool false))]) (st' := []) rfl rfl trivial ⟨.inr rfl, trivial⟩), he⟩
 ·refine go_if he (fun he => ?_) fun he => ?_
  ·have he := ok_some he
   exact ⟨rfl, _, _, (leads_ren [] (l := [(2, .c (.bool (decide ((c__0, c__1).2 ≤ (20000:Int)))))]) (st' := []) rfl rfl trivial ⟨.inl rfl, trivial⟩), he⟩
  ·have he := ok_some he
   exact ⟨rfl, _, _, (leads_ren [] (l := [(2, .c (.bool false))]) (st' := []) rfl rfl trivial ⟨.inr rfl, trivial⟩), he⟩

noncomputable def c_spec_ProblemValid : Con := fun args st => match args, st with
  | [.c (.imm (.pair (.sl (.pair (.int .i64) (.int .i64))) (.int .i64)) list_)], [] => .opt (Bool) (spec_ProblemValid list_) (fun r => .ret (.c (.bool r)) [])
  | _, _ => .fail

noncomputable def C_spec_ProblemValid : Cfg := { y := tys, n := 19, h := 0, tab := [(168, c_spec_ConstraintValid)], cut := [], hand := [], good := [], deep := [], sched := [] }

theorem t_spec_ProblemValid : TabOk Tryz.prog C_spec_ProblemValid := by
  refine tabOk_of ?_
  simp only [C_spec_ProblemValid, List.forall_mem_cons]
  exact ⟨k_spec_ConstraintValid, fun p h => by cases h⟩

theorem k_spec_ProblemValid : Entry Tryz.prog 109 c_spec_ProblemValid := by
 refine entry_by (C := C_spec_ProblemValid) mixed tys_ok t_spec_ProblemValid (fn := Tryz.f109) (c := bd Tryz.f109) (by kernel_rfl) (by kernel_rfl) (by kernel_rfl) (by kernel_rfl) ?_
 intro args st k he
 unfold c_spec_ProblemValid at he
 split at he
 rotate_left
 ·exact he.elim
 rename_i list_
 have he : Ok (spec_ProblemValid list_) (fun r => k (.c (.bool r)) []) := he
 refine ⟨rfl, rfl, ?_⟩
 refine loop_model mixed tys_ok t_spec_ProblemValid (S := Int) (I := (fun i => (envOf [(0, .c (.imm y3_ list_)), (3, .c (.int .i64 i))], []))) (f := spec_ProblemValid_l1 list_) (K := (fun r => k (.c (.bool r)) [])) he (leads_ren [] rfl rfl trivial ⟨.inl rfl, rfl, trivial⟩) ?_
 rintro i J1 he
 refine go_if he (fun he => ?_) fun he => ?_
 ·refine go_rq he fun he => ?_
  refine go_bind he fun r1_ he => ?_
  refine go_if he (fun he => ?_) fun he => ?_
  ·have he := ok_some he
   exact ⟨rfl, _, _, Leads.refl _ _, he⟩
  ·refine go_rq he fun he => ?_
   have he := ok_some he
   exact ⟨(i + (1:Int)), he, (leads_ren [] rfl rfl trivial ⟨.inl rfl, rfl, trivial⟩)⟩
 ·have he := ok_some he
  exact ⟨rfl, _, _, Leads.refl _ _, he⟩

noncomputable def c_spec_l4Fits : Con := fun args st => match args, st with
  | [.c (.imm (.pair (.sl (.pair (.int .i64) (.int .i64))) (.int .i64)) list_), .c (.imm (.pair (.int .i64) (.pair (.int .i64) (.pair (.int .i64) (.pair (.sl (.pair (.int .i64) (.int .i64))) (.int .i64))))) steps)], [] => .opt (Bool) (spec_l4Fits list_ steps) (fun r => .ret (.c (.bool r)) [])
  | _, _ => .fail

noncomputable def C_spec_l4Fits : Cfg := { y := tys, n := 12, h := 0, tab := [(109, c_spec_ProblemValid)], cut := [], hand := [], good := [], deep := [], sched := [] }

theorem t_spec_l4Fits : TabOk Tryz.prog C_spec_l4Fits := by
  refine tabOk_of ?_
  simp only [C_spec_l4Fits, List.forall_mem_cons]
  exact ⟨k_spec_ProblemValid, fun p h => by cases h⟩

theorem k_spec_l4Fits : Entry Tryz.prog 146 c_spec_l4Fits := by
 refine entry_by (C := C_spec_l4Fits) mixed tys_ok t_spec_l4Fits (fn := Tryz.f146) (c := bd Tryz.f146) (by kernel_rfl) (by kernel_rfl) (by kernel_rfl) (by kernel_rfl) ?_
 intro args st k he
 unfold c_spec_l4Fits at he
 split at he
 rotate_left
 ·exact he.elim
 rename_i list_ steps
 have he : Ok (spec_l4Fits list_ steps) (fun r => k (.c (.bool r)) []) := he
 refine ⟨rfl, rfl, ?_⟩
 refine go_bind he fun r1_ he => ?_
 refine go_if he (fun he => ?_) fun he => ?_
 ·have he := ok_some he
  exact ⟨rfl, _, _, Leads.refl _ _, he⟩
 ·have he := ok_some he
  exact ⟨rfl, _, _, Leads.refl _ _, he⟩

noncomputable def c_spec_l4Parts : Con := fun args st => match args, st with
  | [.agg [.int .i64 s__0, .int .i64 s__1, .int .i64 s__2, .imm (.pair (.int .i64) (.int .i64)) s__3, .int .i64 s__4]], [] => .opt (Bool) (spec_l4Parts (s__0, (s__1, (s__2, (s__3, s__4))))) (fun r => .ret (.c (.bool r)) [])
  | _, _ => .fail

noncomputable def C_spec_l4Parts : Cfg := { y := tys, n := 43, h := 0, tab := [], cut := [], hand := [], good := [], deep := [], sched := [] }

theorem t_spec_l4Parts : TabOk Tryz.prog C_spec_l4Parts := tabOk_of (fun p h => by cases h)

theorem k_spec_l4Parts : Entry Tryz.prog 150 c_spec_l4Parts := by
 refine entry_by (C := C_spec_l4Parts) mixed tys_ok t_spec_l4Parts (fn := Tryz.f150) (c := bd Tryz.f150) (by kernel_rfl) (by kernel_rfl) (by kernel_rfl) (by kernel_rfl) ?_
 intro args st k he
 unfold c_spec_l4Parts at he
 split at he
 rotate_left
 ·exact he.elim
 rename_i s__0 s__1 s__2 s__3 s__4
 have he : Ok (spec_l4Parts (s__0, (s__1, (s__2, (s__3, s__4))))) (fun r => k (.c (.bool r)) []) := he
 refine ⟨rfl, rfl, ?_⟩
 refine go_if he (fun he => ?_) fun he => ?_
 ·refine go_if he (fun he => ?_) fun he => ?_
  ·have he := ok_some he
   exact ⟨rfl, _, _, (leads_ren [] (l := [(2, .c (.bool ((s__0, (s__1, (s__2, (s__3, s__4)))).2.2.2.2 == (0:Int))))]) (st' := []) rfl rfl trivial ⟨.inl rfl, trivial⟩), he⟩
  ·refine go_if he (fun he => ?_) fun he => ?_
   ·have he := ok_some he
    exact ⟨rfl, _, _, (leads_ren [] (l := [(2, .c (.bool ((s__0, (s__1, (s__2, (s__3, s__4)))).2.2.2.2 == (0:Int))))]) (st' := []) rfl rfl trivial ⟨.inl rfl, trivial⟩), he⟩
   ·refine go_if he (fun he => ?_) fun he => ?_
    ·have he := ok_some he
     exact ⟨rfl, _, _, (leads_ren [] (l := [(2, .c (.bool ((s__0, (s__1, (s__2, (s__3, s__4)))).2.2.2.2 == (0:Int))))]) (st' := []) rfl rfl trivial ⟨.inl rfl, trivial⟩), he⟩
    ·refine go_if he (fun he => ?_) fun he => ?_
     ·have he := ok_some he
      exact ⟨rfl, _, _, (leads_ren [] (l := [(2, .c (.bool ((s__0, (s__1, (s__2, (s__3, s__4)))).2.2.2.2 == (0:Int))))]) (st' := []) rfl rfl trivial ⟨.inl rfl, trivial⟩), he⟩
     ·refine go_if he (fun he => ?_) fun he => ?_
      ·refine go_if he (fun he => ?_) fun he => ?_
       ·have he := ok_some he
        exact ⟨rfl, _, _, (leads_ren [] (l := [(2, .c (.bool ((s__0, (s__1, (s__2, (s__3, s__4)))).2.2.1 == (0:Int))))]) (st' := []) rfl rfl trivial ⟨.inl rfl, trivial⟩), he⟩
       ·have he := ok_some he
        exact ⟨rfl, _, _, (leads_ren [] (l := [(2, .c (.bool false))]) (st' := []) rfl rfl trivial ⟨.inr rfl, trivial⟩), he⟩
      ·refine go_if he (fun he => ?_) fun he => ?_
       ·refine go_if he (fun he => ?_) fun he => ?_
        ·have he := ok_some he
         exact ⟨rfl, _, _, (leads_ren [] (l := [(2, .c (.bool ((s__0, (s__1, (s__2, (s__3, s__4)))).2.2.1 == (0:Int))))]) (st' := []) rfl rfl trivial ⟨.inl rfl, trivial⟩), he⟩
        ·have he := ok_some he
         exact ⟨rfl, _, _, (leads_ren [] (l := [(2, .c (.bool false))]) (st' := []) rfl rfl trivial ⟨.inr rfl, trivial⟩), he⟩
       ·refine go_if he (fun he => ?_) fun he => ?_
        ·refine go_if he (fun he => ?_) fun he => ?_
         ·have he := ok_some he
          exact ⟨rfl, _, _, (leads_ren [] (l := [(2, .c (.bool ((s__0, (s__1, (s__2, (s__3, s__4)))).2.2.1 == (0:Int))))]) (st' := []) rfl rfl trivial ⟨.inl rfl, trivial⟩), he⟩
         ·have he := ok_some he
          exact ⟨rfl, _, _, (leads_ren [] (l := [(2, .c (.bool false))]) (st' := []) rfl rfl trivial ⟨.inr rfl, trivial⟩), he⟩
        ·refine go_if he (fun he => ?_) fun he => ?_
         ·refine go_if he (fun he => ?_) fun he => ?_
          ·have he := ok_some he
           exact ⟨rfl, _, _, (leads_ren [] (l := [(2, .c (.bool ((s__0, (s__1, (s__2, (s__3, s__4)))).2.2.1 == (0:Int))))]) (st' := []) rfl rfl trivial ⟨.inl rfl, trivial⟩), he⟩
          ·have he := ok_some he
           exact ⟨rfl, _, _, (leads_ren [] (l := [(2, .c (.bool false))]) (st' := []) rfl rfl trivial ⟨.inr rfl, trivial⟩), he⟩
         ·have he := ok_some he
          exact ⟨rfl, _, _, (leads_ren [] (l := [(2, .c (.bool false))]) (st' := []) rfl rfl trivial ⟨.inr rfl, trivial⟩), he⟩
 ·refine go_if he (fun he => ?_) fun he => ?_
  ·have he := ok_some he
   exact ⟨rfl, _, _, (leads_ren [] (l := [(2, .c (.bool false))]) (st' := []) rfl rfl trivial ⟨.inr rfl, trivial⟩), he⟩
  ·refine go_if he (fun he => ?_) fun he => ?_
   ·have he := ok_some he
    exact ⟨rfl, _, _, (leads_ren [] (l := [(2, .c (.bool false))]) (st' := []) rfl rfl trivial ⟨.inr rfl, trivial⟩), he⟩
   ·refine go_if he (fun he => ?_) fun he => ?_
    ·have he := ok_some he
     exact ⟨rfl, _, _, (leads_ren [] (l := [(2, .c (.bool false))]) (st' := []) rfl rfl trivial ⟨.inr rfl, trivial⟩), he⟩
    ·refine go_if he (fun he => ?_) fun he => ?_
     ·have he := ok_some he
      exact ⟨rfl, _, _, (leads_ren [] (l := [(2, .c (.bool false))]) (st' := []) rfl rfl trivial ⟨.inr rfl, trivial⟩), he⟩
     ·refine go_if he (fun he => ?_) fun he => ?_
      ·have he := ok_some he
       exact ⟨rfl, _, _, (leads_ren [] (l := [(2, .c (.bool false))]) (st' := []) rfl rfl trivial ⟨.inr rfl, trivial⟩), he⟩
      ·refine go_if he (fun he => ?_) fun he => ?_
       ·have he := ok_some he
        exact ⟨rfl, _, _, (leads_ren [] (l := [(2, .c (.bool false))]) (st' := []) rfl rfl trivial ⟨.inr rfl, trivial⟩), he⟩
       ·refine go_if he (fun he => ?_) fun he => ?_
        ·have he := ok_some he
         exact ⟨rfl, _, _, (leads_ren [] (l := [(2, .c (.bool false))]) (st' := []) rfl rfl trivial ⟨.inr rfl, trivial⟩), he⟩
        ·refine go_if he (fun he => ?_) fun he => ?_
         ·refine go_if he (fun he => ?_) fun he => ?_
          ·have he := ok_some he
           exact ⟨rfl, _, _, (leads_ren [] (l := [(2, .c (.bool ((s__0, (s__1, (s__2, (s__3, s__4)))).2.2.1 == (0:Int))))]) (st' := []) rfl rfl trivial ⟨.inl rfl, trivial⟩), he⟩
          ·have he := ok_some he
           exact ⟨rfl, _, _, (leads_ren [] (l := [(2, .c (.bool false))]) (st' := []) rfl rfl trivial ⟨.inr rfl, trivial⟩), he⟩
         ·have he := ok_some he
          exact ⟨rfl, _, _, (leads_ren [] (l := [(2, .c (.bool false))]) (st' := []) rfl rfl trivial ⟨.inr rfl, trivial⟩), he⟩

noncomputable def c_spec_l4Live : Con := fun args st => match args, st with
  | [.agg [.imm (.pair (.sl (.pair (.int .i64) (.int .i64))) (.int .i64)) d_0, .imm .bool d_1], .c (.int .i64 k_)], [] => .opt (Bool) (spec_l4Live (d_0, d_1) k_) (fun r => .ret (.c (.bool r)) [])
  | _, _ => .fail

noncomputable def C_spec_l4Live : Cfg := { y := tys, n := 22, h := 0, tab := [], cut := [], hand := [], good := [], deep := [], sched := [] }

theorem t_spec_l4Live : TabOk Tryz.prog C_spec_l4Live := tabOk_of (fun p h => by cases h)

theorem k_spec_l4Live : Entry Tryz.prog 151 c_spec_l4Live := by
 refine entry_by (C := C_spec_l4Live) mixed tys_ok t_spec_l4Live (fn := Tryz.f151) (c := bd Tryz.f151) (by kernel_rfl) (by kernel_rfl) (by kernel_rfl) (by kernel_rfl) ?_
 intro args st k he
 unfold c_spec_l4Live at he
 split at he
 rotate_left
 ·exact he.elim
 rename_i d_0 d_1 k_
 have he : Ok (spec_l4Live (d_0, d_1) k_) (fun r => k (.c (.bool r)) []) := he
 refine ⟨rfl, rfl, ?_⟩
 refine go_if he (fun he => ?_) fun he => ?_
 ·refine go_if he (fun he => ?_) fun he => ?_
  ·refine go_rq he fun he => ?_
   have he := ok_some he
   exact ⟨rfl, _, _, (leads_ren [] (l := [(4, .c (.bool (!((d_0, d_1).2.getD k_.toNat false))))]) (st' := []) rfl rfl trivial ⟨.inl rfl, trivial⟩), he⟩
  ·have he := ok_some he
   exact ⟨rfl, _, _, (leads_ren [] (l := [(4, .c (.bool false))]) (st' := []) rfl rfl trivial ⟨.inr rfl, trivial⟩), he⟩
 ·have he := ok_some he
  exact ⟨rfl, _, _, (leads_ren [] (l := [(4, .c (.bool false))]) (st' := []) rfl rfl trivial ⟨.inr rfl, trivial⟩), he⟩

noncomputable def c_spec_LiteralAxiom : Con := fun args st => match args, st with
  | [.c (.int .i64 lit)], [] => .opt (Bool × Int × (List D2_)) (spec_LiteralAxiom lit) (fun r => .ret (.tup [.agg [.own 901 false, .int .i64 r.2.1], .c (.bool r.1)]) [(900, .rc [.own 901 false, .int .i64 r.2.1]), (901, .sl 155 y2_ r.2.2 .shallow)])
  | _, _ => .fail

noncomputable def C_spec_LiteralAxiom : Cfg := { y := tys, n := 12, h := 0, tab := [(228, c_spec_l1Lit)], cut := [], hand := [], good := [], deep := [], sched := [] }

theorem t_spec_LiteralAxiom : TabOk Tryz.prog C_spec_LiteralAxiom := by
  refine tabOk_of ?_
  simp only [C_spec_LiteralAxiom, List.forall_mem_cons]
  exact ⟨k_spec_l1Lit, fun p h => by cases h⟩

theorem k_spec_LiteralAxiom : Entry Tryz.prog 208 c_spec_LiteralAxiom := by
 refine entry_by (C := C_spec_LiteralAxiom) mixed tys_ok t_spec_LiteralAxiom (fn := Tryz.f208) (c := bd Tryz.f208) (by kernel_rfl) (by kernel_rfl) (by kernel_rfl) (by kernel_rfl) ?_
 intro args st k he
 unfold c_spec_LiteralAxiom at he
 split at he
 rotate_left
 ·exact he.elim
 rename_i lit
 have he : Ok (spec_LiteralAxiom lit) (fun r => k (.tup [.agg [.own 901 false, .int .i64 r.2.1], .c (.bool r.1)]) [(900, .rc [.own 901 false, .int .i64 r.2.1]), (901, .sl 155 y2_ r.2.2 .shallow)]) := he
 refine ⟨rfl, rfl, ?_⟩
 refine go_bind he fun r1_ he => ?_
 refine go_if he (fun he => ?_) fun he => ?_
 ·have he := ok_some he
  exact ⟨rfl, _, _, (leads_ren [(900, 2)] (l := [(2, .c (.ptr 900 0)), (3, .c (.bool false))]) (st' := [(900, .rc [.own 901 false, .int .i64 (0:Int)]), (901, .sl 155 y2_ ([] : List D2_) .shallow)]) rfl rfl ⟨⟨⟨rfl, trivial⟩, rfl, trivial⟩, trivial, trivial⟩ ⟨⟨⟨rfl, rfl⟩, rfl⟩, .inr rfl, trivial⟩), he⟩
 ·have he := ok_some he
  exact ⟨rfl, _, _, (leads_ren [(900, 2), (901, 10)] (l := [(2, .c (.ptr 900 0)), (3, .c (.bool true))]) (st' := [(900, .rc [.own 901 false, .int .i64 (0:Int)]), (901, .sl 155 y2_ [((1:Int), lit)] .shallow)]) rfl rfl ⟨⟨⟨⟨rfl, rfl⟩, trivial⟩, rfl, trivial⟩, ⟨rfl, rfl⟩, trivial⟩ ⟨⟨⟨rfl, rfl⟩, rfl⟩, .inr rfl, trivial⟩), he⟩

noncomputable def c_spec_l1Copy : Con := fun args st => match args, st with
  | [.agg [.imm (.pair (.int .i64) (.int .i64)) c__0, .int .i64 c__1]], [] => .opt (Int × (List D2_)) (spec_l1Copy (c__0, c__1)) (fun r => .ret (.agg [.own 901 false, .int .i64 r.1]) [(900, .rc [.own 901 false, .int .i64 r.1]), (901, .sl 155 y2_ r.2 .shallow)])
  | _, _ => .fail

noncomputable def C_spec_l1Copy : Cfg := { y := tys, n := 10, h := 0, tab := [], cut := [], hand := [], good := [], deep := [], sched := [(1, (.first 1 (.first 4 (.alt 0 (.alt 2 (.alt 3 (.alt 5 (.alt 6 (.alt 7 .done .stop) .stop) .stop) (.alt 5 (.alt 3 (.alt 6 (.alt 7 .done .stop) .stop) .stop) .stop)) (.alt 5 (.alt 2 (.alt 3 (.alt 6 (.alt 7 .done .stop) .stop) .stop) .stop) .stop)) (.alt 2 (.alt 0 (.alt 3 (.alt 5 (.alt 6 (.alt 7 .done .stop) .stop) .stop) (.alt 5 (.alt 3 (.alt 6 (.alt 7 .done .stop) .stop) .stop) .stop)) (.alt 5 (.alt 0 (.alt 3 (.alt 6 (.alt 7 .done .stop) .stop) .stop) .stop) .stop)) (.alt 5 (.alt 0 (.alt 2 (.alt 3 (.alt 6 (.alt 7 .done .stop) .stop) .stop) .stop) (.alt 2 (.alt 0 (.alt 3 (.alt 6 (.alt 7 .done .stop) .stop) .stop) .stop) .stop)) .stop))))))] }

theorem t_spec_l1Copy : TabOk Tryz.prog C_spec_l1Copy := tabOk_of (fun p h => by cases h)

theorem k_spec_l1Copy : Entry Tryz.prog 136 c_spec_l1Copy := by
 refine entry_by (C := C_spec_l1Copy) mixed tys_ok t_spec_l1Copy (fn := Tryz.f136) (c := bd Tryz.f136) (by kernel_rfl) (by kernel_rfl) (by kernel_rfl) (by kernel_rfl) ?_
 intro args st k he
 unfold c_spec_l1Copy at he
 split at he
 rotate_left
 ·exact he.elim
 rename_i c__0 c__1
 have he : Ok (spec_l1Copy (c__0, c__1)) (fun r => k (.agg [.own 901 false, .int .i64 r.1]) [(900, .rc [.own 901 false, .int .i64 r.1]), (901, .sl 155 y2_ r.2 .shallow)]) := he
 refine ⟨rfl, rfl, ?_⟩
 refine And.intro (by kernel_rfl) ?_
 have he := ok_rq he
 have hq1 := he.1
 have he := he.2
 refine And.intro ?_ (And.intro ?_ (And.intro ?_ (trivial)))
 ·skip
  refine And.intro ?_ (And.intro ?_ (trivial))
  ·skip
   refine And.intro ?_ (And.intro ?_ (trivial))
   ·skip
    refine And.intro hq1 ?_
    refine And.intro ?_ trivial
    refine And.intro ?_ trivial
    refine And.intro ?_ trivial
    have he := ok_some he
    exact ⟨rfl, _, _, (leads_ren [(900, 2), (901, 6)] (l := [(2, .c (.ptr 900 0))]) (st' := [(900, .rc [.own 901 false, .int .i64 (c__0, c__1).2]), (901, .sl 155 y2_ (([] : List D2_) ++ (c__0, c__1).1) .shallow)]) rfl rfl ⟨⟨⟨⟨rfl, rfl⟩, trivial⟩, rfl, trivial⟩, ⟨rfl, rfl⟩, trivial⟩ ⟨⟨⟨rfl, rfl⟩, rfl⟩, trivial⟩), he⟩
   ·skip
    refine And.intro ?_ trivial
    refine And.intro hq1 ?_
    refine And.intro ?_ trivial
    refine And.intro ?_ trivial
    have he := ok_some he
    exact ⟨rfl, _, _, (leads_ren [(900, 2), (901, 6)] (l := [(2, .c (.ptr 900 0))]) (st' := [(900, .rc [.own 901 false, .int .i64 (c__0, c__1).2]), (901, .sl 155 y2_ (([] : List D2_) ++ (c__0, c__1).1) .shallow)]) rfl rfl ⟨⟨⟨⟨rfl, rfl⟩, trivial⟩, rfl, trivial⟩, ⟨rfl, rfl⟩, trivial⟩ ⟨⟨⟨rfl, rfl⟩, rfl⟩, trivial⟩), he⟩
  ·skip
   refine And.intro ?_ trivial
   refine And.intro ?_ trivial
   refine And.intro hq1 ?_
   refine And.intro ?_ trivial
   refine And.intro ?_ trivial
   have he := ok_some he
   exact ⟨rfl, _, _, (leads_ren [(900, 2), (901, 6)] (l := [(2, .c (.ptr 900 0))]) (st' := [(900, .rc [.own 901 false, .int .i64 (c__0, c__1).2]), (901, .sl 155 y2_ (([] : List D2_) ++ (c__0, c__1).1) .shallow)]) rfl rfl ⟨⟨⟨⟨rfl, rfl⟩, trivial⟩, rfl, trivial⟩, ⟨rfl, rfl⟩, trivial⟩ ⟨⟨⟨rfl, rfl⟩, rfl⟩, trivial⟩), he⟩
 ·skip
  refine And.intro ?_ (And.intro ?_ (trivial))
  ·skip
   refine And.intro ?_ (And.intro ?_ (trivial))
   ·skip
    refine And.intro hq1 ?_
    refine And.intro ?_ trivial
    refine And.intro ?_ trivial
    refine And.intro ?_ trivial
    have he := ok_some he
    exact ⟨rfl, _, _, (leads_ren [(900, 2), (901, 6)] (l := [(2, .c (.ptr 900 0))]) (st' := [(900, .rc [.own 901 false, .int .i64 (c__0, c__1).2]), (901, .sl 155 y2_ (([] : List D2_) ++ (c__0, c__1).1) .shallow)]) rfl rfl ⟨⟨⟨⟨rfl, rfl⟩, trivial⟩, rfl, trivial⟩, ⟨rfl, rfl⟩, trivial⟩ ⟨⟨⟨rfl, rfl⟩, rfl⟩, trivial⟩), he⟩
   ·skip
    refine And.intro ?_ trivial
    refine And.intro hq1 ?_
    refine And.intro ?_ trivial
    refine And.intro ?_ trivial
    have he := ok_some he
    exact ⟨rfl, _, _, (leads_ren [(900, 2), (901, 6)] (l := [(2, .c (.ptr 900 0))]) (st' := [(900, .rc [.own 901 false, .int .i64 (c__0, c__1).2]), (901, .sl 155 y2_ (([] : List D2_) ++ (c__0, c__1).1) .shallow)]) rfl rfl ⟨⟨⟨⟨rfl, rfl⟩, trivial⟩, rfl, trivial⟩, ⟨rfl, rfl⟩, trivial⟩ ⟨⟨⟨rfl, rfl⟩, rfl⟩, trivial⟩), he⟩
  ·skip
   refine And.intro ?_ trivial
   refine And.intro ?_ trivial
   refine And.intro hq1 ?_
   refine And.intro ?_ trivial
   refine And.intro ?_ trivial
   have he := ok_some he
   exact ⟨rfl, _, _, (leads_ren [(900, 2), (901, 6)] (l := [(2, .c (.ptr 900 0))]) (st' := [(900, .rc [.own 901 false, .int .i64 (c__0, c__1).2]), (901, .sl 155 y2_ (([] : List D2_) ++ (c__0, c__1).1) .shallow)]) rfl rfl ⟨⟨⟨⟨rfl, rfl⟩, trivial⟩, rfl, trivial⟩, ⟨rfl, rfl⟩, trivial⟩ ⟨⟨⟨rfl, rfl⟩, rfl⟩, trivial⟩), he⟩
 ·skip
  refine And.intro ?_ (And.intro ?_ (trivial))
  ·skip
   refine And.intro ?_ trivial
   refine And.intro ?_ trivial
   refine And.intro hq1 ?_
   refine And.intro ?_ trivial
   refine And.intro ?_ trivial
   have he := ok_some he
   exact ⟨rfl, _, _, (leads_ren [(900, 2), (901, 6)] (l := [(2, .c (.ptr 900 0))]) (st' := [(900, .rc [.own 901 false, .int .i64 (c__0, c__1).2]), (901, .sl 155 y2_ (([] : List D2_) ++ (c__0, c__1).1) .shallow)]) rfl rfl ⟨⟨⟨⟨rfl, rfl⟩, trivial⟩, rfl, trivial⟩, ⟨rfl, rfl⟩, trivial⟩ ⟨⟨⟨rfl, rfl⟩, rfl⟩, trivial⟩), he⟩
  ·skip
   refine And.intro ?_ trivial
   refine And.intro ?_ trivial
   refine And.intro hq1 ?_
   refine And.intro ?_ trivial
   refine And.intro ?_ trivial
   have he := ok_some he
   exact ⟨rfl, _, _, (leads_ren [(900, 2), (901, 6)] (l := [(2, .c (.ptr 900 0))]) (st' := [(900, .rc [.own 901 false, .int .i64 (c__0, c__1).2]), (901, .sl 155 y2_ (([] : List D2_) ++ (c__0, c__1).1) .shallow)]) rfl rfl ⟨⟨⟨⟨rfl, rfl⟩, trivial⟩, rfl, trivial⟩, ⟨rfl, rfl⟩, trivial⟩ ⟨⟨⟨rfl, rfl⟩, rfl⟩, trivial⟩), he⟩

noncomputable def c_spec_l4Kept : Con := fun args st => match args, st with
  | [.agg [.imm (.pair (.sl (.pair (.int .i64) (.int .i64))) (.int .i64)) d_0, .imm .bool d_1]], [] => .opt ((List D3_)) (spec_l4Kept (d_0, d_1)) (fun r => .ret (.c (.own 900 false)) [(900, .sl 89 y3_ r .shallow)])
  | _, _ => .fail

noncomputable def C_spec_l4Kept : Cfg := { y := tys, n := 28, h := 0, tab := [], cut := [], hand := [], good := [], deep := [], sched := [] }

theorem t_spec_l4Kept : TabOk Tryz.prog C_spec_l4Kept := tabOk_of (fun p h => by cases h)

theorem k_spec_l4Kept : Entry Tryz.prog 210 c_spec_l4Kept := by
 refine entry_by (C := C_spec_l4Kept) mixed tys_ok t_spec_l4Kept (fn := Tryz.f210) (c := bd Tryz.f210) (by kernel_rfl) (by kernel_rfl) (by kernel_rfl) (by kernel_rfl) ?_
 intro args st k he
 unfold c_spec_l4Kept at he
 split at he
 rotate_left
 ·exact he.elim
 rename_i d_0 d_1
 have he : Ok (spec_l4Kept (d_0, d_1)) (fun r => k (.c (.own 900 false)) [(900, .sl 89 y3_ r .shallow)]) := he
 refine ⟨rfl, rfl, ?_⟩
 refine loop_model mixed tys_ok t_spec_l4Kept (S := Int × (List D3_)) (I := (fun (i, out) => (envOf [(1, .c (.ptr 10000000 0)), (3, .c (.own 10000001 false)), (4, .c (.int .i64 i))], [(10000000, .rc [.imm y3_ (d_0, d_1).1, .imm .bool (d_0, d_1).2]), (10000001, .sl 89 y3_ out .shallow)]))) (f := spec_l4Kept_l1 (d_0, d_1)) (K := (fun r => k (.c (.own 900 false)) [(900, .sl 89 y3_ r .shallow)])) he (leads_ren [(10000000, 1), (10000001, 5)] rfl rfl ⟨⟨.inl rfl, .inl rfl, trivial⟩, ⟨rfl, rfl⟩, trivial⟩ ⟨⟨⟨rfl, rfl⟩, rfl⟩, ⟨⟨rfl, rfl⟩, trivial⟩, rfl, trivial⟩) ?_
 rintro ⟨i, out⟩ J1 he
 refine go_if he (fun he => ?_) fun he => ?_
 ·refine go_rq he fun he => ?_
  refine go_if he (fun he => ?_) fun he => ?_
  ·refine go_rq he fun he => ?_
   refine go_rq he fun he => ?_
   refine go_rq he fun he => ?_
   have he := ok_some he
   exact ⟨((i + (1:Int)), (out ++ [((d_0, d_1).1.getD i.toNat ([], 0))])), he, (leads_ren [(10000001, 26)] rfl rfl ⟨⟨.inl rfl, .inl rfl, trivial⟩, ⟨rfl, rfl⟩, trivial⟩ ⟨⟨⟨rfl, rfl⟩, rfl⟩, ⟨⟨rfl, rfl⟩, trivial⟩, rfl, trivial⟩)⟩
  ·refine go_rq he fun he => ?_
   have he := ok_some he
   exact ⟨((i + (1:Int)), out), he, (leads_ren [] rfl rfl ⟨⟨.inl rfl, .inl rfl, trivial⟩, ⟨rfl, rfl⟩, trivial⟩ ⟨⟨⟨rfl, rfl⟩, rfl⟩, ⟨⟨rfl, rfl⟩, trivial⟩, rfl, trivial⟩)⟩
 ·have he := ok_some he
  exact ⟨rfl, _, _, (leads_ren [(900, 10000001)] (l := [(2, .c (.own 900 false))]) (st' := [(900, .sl 89 y3_ out .shallow)]) rfl rfl ⟨⟨rfl, rfl⟩, trivial⟩ ⟨⟨⟨rfl, rfl⟩, trivial⟩, trivial⟩), he⟩

noncomputable def c_spec_NegateConstraint : Con := fun args st => match args, st with
  | [.agg [.imm (.pair (.int .i64) (.int .i64)) c__0, .int .i64 c__1]], [] => .opt (Bool × Int × (List D2_)) (spec_NegateConstraint (c__0, c__1)) (fun r => .ret (.tup [.agg [.own 901 false, .int .i64 r.2.1], .c (.bool r.1)]) [(900, .rc [.own 901 false, .int .i64 r.2.1]), (901, .sl 155 y2_ r.2.2 .shallow)])
  | _, _ => .fail

noncomputable def C_spec_NegateConstraint : Cfg := { y := tys, n := 48, h := 0, tab := [(168, c_spec_ConstraintValid), (216, c_spec_l1Total)], cut := [1, 4, 8], hand := [], good := [], deep := [], sched := [(3, (.first 0 (.first 2 (.first 3 (.alt 1 (.first 4 (.first 5 (.alt 6 (.alt 7 (.alt 8 .done .stop) .stop) (.alt 7 (.alt 6 (.alt 8 .done .stop) .stop) .stop)))) (.alt 7 (.alt 1 (.first 4 (.first 5 (.alt 6 (.alt 8 .done .stop) .stop))) .stop) .stop)))))), (7, (.first 0 (.first 2 (.first 3 (.first 4 (.first 5 (.first 6 (.first 7 (.first 8 (.first 9 (.first 10 (.first 11 (.first 12 (.first 13 (.first 14 (.alt 1 (.alt 15 (.alt 16 (.alt 17 (.first 18 (.alt 19 .done .stop)) .stop) .stop) .stop) (.alt 15 (.alt 1 (.alt 16 (.alt 17 (.first 18 (.alt 19 .done .stop)) .stop) .stop) (.alt 16 (.alt 1 (.alt 17 (.first 18 (.alt 19 .done .stop)) .stop) .stop) .stop)) .stop)))))))))))))))))] }

theorem t_spec_NegateConstraint : TabOk Tryz.prog C_spec_NegateConstraint := by
  refine tabOk_of ?_
  simp only [C_spec_NegateConstraint, List.forall_mem_cons]
  exact ⟨k_spec_ConstraintValid, k_spec_l1Total, fun p h => by cases h⟩

theorem k_spec_NegateConstraint : Entry Tryz.prog 252 c_spec_NegateConstraint := by
 refine entry_by (C := C_spec_NegateConstraint) mixed tys_ok t_spec_NegateConstraint (fn := Tryz.f252) (c := bd Tryz.f252) (by kernel_rfl) (by kernel_rfl) (by kernel_rfl) (by kernel_rfl) ?_
 intro args st k he
 unfold c_spec_NegateConstraint at he
 split at he
 rotate_left
 ·exact he.elim
 rename_i c__0 c__1
 have he : Ok (spec_NegateConstraint (c__0, c__1)) (fun r => k (.tup [.agg [.own 901 false, .int .i64 r.2.1], .c (.bool r.1)]) [(900, .rc [.own 901 false, .int .i64 r.2.1]), (901, .sl 155 y2_ r.2.2 .shallow)]) := he
 refine ⟨rfl, rfl, ?_⟩
 refine seq_model mixed tys_ok t_spec_NegateConstraint (S := Unit) (I := (fun _ => (envOf [(1, .c (.iptr y3_ (c__0, c__1) 0)), (2, .c (.ptr 10000000 0))], [(10000000, .rc [.nil, .int .i64 (0:Int)])]))) (B := fun s => Ok (spec_NegateConstraint_j1 (c__0, c__1) s) (fun r => k (.tup [.agg [.own 901 false, .int .i64 r.2.1], .c (.bool r.1)]) [(900, .rc [.own 901 false, .int .i64 r.2.1]), (901, .sl 155 y2_ r.2.2 .shallow)])) ?_ ?_
 ·rintro ⟨⟩ he
  refine go_bind he fun r1_ he => ?_
  refine go_if he (fun he => ?_) fun he => ?_
  ·have he := ok_some he
   exact ⟨rfl, _, _, (leads_ren [(900, 10000000)] (l := [(2, .c (.ptr 900 0)), (3, .c (.bool false))]) (st' := [(900, .rc [.own 901 false, .int .i64 (0:Int)]), (901, .sl 155 y2_ ([] : List D2_) .shallow)]) rfl rfl ⟨⟨⟨rfl, trivial⟩, rfl, trivial⟩, trivial, trivial⟩ ⟨⟨⟨rfl, rfl⟩, rfl⟩, .inr rfl, trivial⟩), he⟩
  ·refine seq_model mixed tys_ok t_spec_NegateConstraint (S := Int) (I := (fun out_1 => (envOf [(1, .c (.iptr y3_ (c__0, c__1) 0)), (2, .c (.ptr 10001000 0)), (4, .c (.ptr 10001001 0))], [(10001000, .rc [.nil, .int .i64 (0:Int)]), (10001001, .rc [.nil, .int .i64 out_1])]))) (B := fun s => Ok (spec_NegateConstraint_j2 (c__0, c__1) s) (fun r => k (.tup [.agg [.own 901 false, .int .i64 r.2.1], .c (.bool r.1)]) [(900, .rc [.own 901 false, .int .i64 r.2.1]), (901, .sl 155 y2_ r.2.2 .shallow)])) ?_ ?_
   ·rintro out_1 he
    refine seq_model mixed tys_ok t_spec_NegateConstraint (S := (List D2_)) (I := (fun out_01 => (envOf [(2, .c (.ptr 10003000 0)), (4, .c (.ptr 10003001 0))], [(10003000, .rc [.nil, .int .i64 (0:Int)]), (10003001, .rc [.own 10003002 false, .int .i64 out_1]), (10003002, .sl 155 y2_ out_01 .shallow)]))) (B := fun s => Ok (spec_NegateConstraint_j3 out_1 s) (fun r => k (.tup [.agg [.own 901 false, .int .i64 r.2.1], .c (.bool r.1)]) [(900, .rc [.own 901 false, .int .i64 r.2.1]), (901, .sl 155 y2_ r.2.2 .shallow)])) ?_ ?_
    ·rintro out_01 he
     refine go_if he (fun he => ?_) fun he => ?_
     ·have he := ok_some he
      exact ⟨rfl, _, _, (leads_ren [(900, 10003000), (901, 10003002)] (l := [(2, .c (.ptr 900 0)), (3, .c (.bool true))]) (st' := [(900, .rc [.own 901 false, .int .i64 (0:Int)]), (901, .sl 155 y2_ out_01 .shallow)]) rfl rfl ⟨⟨⟨⟨rfl, rfl⟩, trivial⟩, rfl, trivial⟩, ⟨rfl, rfl⟩, trivial⟩ ⟨⟨⟨rfl, rfl⟩, rfl⟩, .inr rfl, trivial⟩), he⟩
     ·have he := ok_some he
      exact ⟨rfl, _, _, (leads_ren [(900, 10003000), (901, 10003002)] (l := [(2, .c (.ptr 900 0)), (3, .c (.bool true))]) (st' := [(900, .rc [.own 901 false, .int .i64 out_1]), (901, .sl 155 y2_ out_01 .shallow)]) rfl rfl ⟨⟨⟨⟨rfl, rfl⟩, trivial⟩, rfl, trivial⟩, ⟨rfl, rfl⟩, trivial⟩ ⟨⟨⟨rfl, rfl⟩, rfl⟩, .inr rfl, trivial⟩), he⟩
    ·skip
     refine loop_model mixed tys_ok t_spec_NegateConstraint (S := Int × (List D2_)) (I := (fun (i, out_0) => (envOf [(1, .c (.iptr y3_ (c__0, c__1) 0)), (2, .c (.ptr 10002000 0)), (4, .c (.ptr 10002001 0)), (5, .c (.int .i64 i))], [(10002000, .rc [.nil, .int .i64 (0:Int)]), (10002001, .rc [.own 10002002 false, .int .i64 out_1]), (10002002, .sl 155 y2_ out_0 .shallow)]))) (f := spec_NegateConstraint_l1 (c__0, c__1) out_1) (K := (fun r => k (.tup [.agg [.own 901 false, .int .i64 r.2.1], .c (.bool r.1)]) [(900, .rc [.own 901 false, .int .i64 r.2.1]), (901, .sl 155 y2_ r.2.2 .shallow)])) he (leads_ren [(10002000, 10001000), (10002001, 10001001)] rfl rfl ⟨⟨rfl, rfl, trivial⟩, ⟨⟨rfl, trivial⟩, rfl, trivial⟩, trivial, trivial⟩ ⟨.inl rfl, ⟨⟨rfl, rfl⟩, rfl⟩, ⟨⟨rfl, rfl⟩, rfl⟩, rfl, trivial⟩) ?_
     rintro ⟨i, out_0⟩ J1 he
     refine go_if he (fun he => ?_) fun he => ?_
     ·refine And.intro (by kernel_rfl) ?_
      refine go_rq he fun he => ?_
      refine go_rq he fun he => ?_
      refine go_rq he fun he => ?_
      have he := ok_rq he
      have hq1 := he.1
      have he := he.2
      refine And.intro ?_ (And.intro ?_ (trivial))
      ·skip
       refine And.intro ?_ trivial
       refine And.intro ?_ trivial
       refine And.intro ?_ trivial
       refine And.intro hq1 ?_
       refine And.intro ?_ trivial
       refine go_rq he fun he => ?_
       have he := ok_some he
       exact ⟨((i + (1:Int)), (out_0 ++ [(((c__0, c__1).1.getD i.toNat (0, 0)).1, (0 - ((c__0, c__1).1.getD i.toNat (0, 0)).2))])), he, (leads_ren [(10002002, 41)] rfl rfl ⟨⟨rfl, rfl, trivial⟩, ⟨⟨⟨rfl, rfl⟩, trivial⟩, rfl, trivial⟩, ⟨rfl, rfl⟩, trivial⟩ ⟨.inl rfl, ⟨⟨rfl, rfl⟩, rfl⟩, ⟨⟨rfl, rfl⟩, rfl⟩, rfl, trivial⟩)⟩
      ·skip
       refine And.intro ?_ (And.intro ?_ (trivial))
       ·skip
        refine And.intro ?_ trivial
        refine And.intro ?_ trivial
        refine And.intro hq1 ?_
        refine And.intro ?_ trivial
        refine go_rq he fun he => ?_
        have he := ok_some he
        exact ⟨((i + (1:Int)), (out_0 ++ [(((c__0, c__1).1.getD i.toNat (0, 0)).1, (0 - ((c__0, c__1).1.getD i.toNat (0, 0)).2))])), he, (leads_ren [(10002002, 41)] rfl rfl ⟨⟨rfl, rfl, trivial⟩, ⟨⟨⟨rfl, rfl⟩, trivial⟩, rfl, trivial⟩, ⟨rfl, rfl⟩, trivial⟩ ⟨.inl rfl, ⟨⟨rfl, rfl⟩, rfl⟩, ⟨⟨rfl, rfl⟩, rfl⟩, rfl, trivial⟩)⟩
       ·skip
        refine And.intro ?_ trivial
        refine And.intro ?_ trivial
        refine And.intro hq1 ?_
        refine And.intro ?_ trivial
        refine go_rq he fun he => ?_
        have he := ok_some he
        exact ⟨((i + (1:Int)), (out_0 ++ [(((c__0, c__1).1.getD i.toNat (0, 0)).1, (0 - ((c__0, c__1).1.getD i.toNat (0, 0)).2))])), he, (leads_ren [(10002002, 41)] rfl rfl ⟨⟨rfl, rfl, trivial⟩, ⟨⟨⟨rfl, rfl⟩, trivial⟩, rfl, trivial⟩, ⟨rfl, rfl⟩, trivial⟩ ⟨.inl rfl, ⟨⟨rfl, rfl⟩, rfl⟩, ⟨⟨rfl, rfl⟩, rfl⟩, rfl, trivial⟩)⟩
     ·exact ⟨out_0, ok_up he, (leads_ren [(10003000, 10002000), (10003001, 10002001), (10003002, 10002002)] rfl rfl ⟨⟨rfl, rfl, trivial⟩, ⟨⟨⟨rfl, rfl⟩, trivial⟩, rfl, trivial⟩, ⟨rfl, rfl⟩, trivial⟩ ⟨⟨⟨rfl, rfl⟩, rfl⟩, ⟨⟨rfl, rfl⟩, rfl⟩, trivial⟩)⟩
   ·skip
    refine And.intro (by kernel_rfl) ?_
    obtain ⟨r3_, hq1, he⟩ := ok_bind he
    have he := ok_rq he
    have hq2 := he.1
    have he := he.2
    have he := ok_rq he
    have hq3 := he.1
    have he := he.2
    refine And.intro ?_ (And.intro ?_ (trivial))
    ·skip
     refine ⟨r3_, hq1, ?_⟩
     refine And.intro hq2 ?_
     refine And.intro hq3 ?_
     refine And.intro ?_ (And.intro ?_ (trivial))
     ·skip
      refine And.intro ?_ trivial
      refine And.intro ?_ trivial
      exact ⟨((r3_ - (c__0, c__1).2) + (1:Int)), he, (leads_ren [(10001000, 10000000), (10001001, 4)] rfl rfl ⟨⟨rfl, rfl, trivial⟩, ⟨rfl, rfl, trivial⟩, trivial⟩ ⟨.inl rfl, ⟨⟨rfl, rfl⟩, rfl⟩, ⟨⟨rfl, rfl⟩, rfl⟩, trivial⟩)⟩
     ·skip
      refine And.intro ?_ trivial
      refine And.intro ?_ trivial
      exact ⟨((r3_ - (c__0, c__1).2) + (1:Int)), he, (leads_ren [(10001000, 10000000), (10001001, 4)] rfl rfl ⟨⟨rfl, rfl, trivial⟩, ⟨rfl, rfl, trivial⟩, trivial⟩ ⟨.inl rfl, ⟨⟨rfl, rfl⟩, rfl⟩, ⟨⟨rfl, rfl⟩, rfl⟩, trivial⟩)⟩
    ·skip
     refine And.intro ?_ trivial
     refine ⟨r3_, hq1, ?_⟩
     refine And.intro hq2 ?_
     refine And.intro hq3 ?_
     refine And.intro ?_ trivial
     refine And.intro ?_ trivial
     exact ⟨((r3_ - (c__0, c__1).2) + (1:Int)), he, (leads_ren [(10001000, 10000000), (10001001, 4)] rfl rfl ⟨⟨rfl, rfl, trivial⟩, ⟨rfl, rfl, trivial⟩, trivial⟩ ⟨.inl rfl, ⟨⟨rfl, rfl⟩, rfl⟩, ⟨⟨rfl, rfl⟩, rfl⟩, trivial⟩)⟩
 ·skip
  exact ⟨(), he, (leads_ren [(10000000, 2)] rfl rfl ⟨⟨rfl, rfl, trivial⟩, trivial⟩ ⟨.inr ⟨1, rfl, ⟨rfl, by repeat (first | exact trivial | refine And.intro trivial ?_)⟩, rfl⟩, ⟨⟨rfl, rfl⟩, rfl⟩, trivial⟩)⟩

noncomputable def c_spec_l3State : Con := fun args st => match args, st with
  | [.c (.imm (.int .i64) p), .c (.int .i64 lit)], [] => .opt (Int) (spec_l3State p lit) (fun r => .ret (.c (.int .i64 r)) [])
  | _, _ => .fail

noncomputable def C_spec_l3State : Cfg := { y := tys, n := 19, h := 0, tab := [], cut := [], hand := [], good := [], deep := [], sched := [] }

theorem t_spec_l3State : TabOk Tryz.prog C_spec_l3State := tabOk_of (fun p h => by cases h)

theorem k_spec_l3State : Entry Tryz.prog 288 c_spec_l3State := by
 refine entry_by (C := C_spec_l3State) mixed tys_ok t_spec_l3State (fn := Tryz.f288) (c := bd Tryz.f288) (by kernel_rfl) (by kernel_rfl) (by kernel_rfl) (by kernel_rfl) ?_
 intro args st k he
 unfold c_spec_l3State at he
 split at he
 rotate_left
 ·exact he.elim
 rename_i p lit
 have he : Ok (spec_l3State p lit) (fun r => k (.c (.int .i64 r)) []) := he
 refine ⟨rfl, rfl, ?_⟩
 refine go_if he (fun he => ?_) fun he => ?_
 ·refine go_rq he fun he => ?_
  refine go_rq he fun he => ?_
  have he := ok_some he
  exact ⟨rfl, _, _, Leads.refl _ _, he⟩
 ·refine go_rq he fun he => ?_
  refine go_rq he fun he => ?_
  refine go_rq he fun he => ?_
  refine go_rq he fun he => ?_
  have he := ok_some he
  exact ⟨rfl, _, _, Leads.refl _ _, he⟩

noncomputable def c_spec_l3Slack : Con := fun args st => match args, st with
  | [.agg [.imm (.pair (.int .i64) (.int .i64)) c__0, .int .i64 c__1], .c (.imm (.int .i64) p)], [] => .opt (Int) (spec_l3Slack (c__0, c__1) p) (fun r => .ret (.c (.int .i64 r)) [])
  | _, _ => .fail

noncomputable def C_spec_l3Slack : Cfg := { y := tys, n := 35, h := 0, tab := [(288, c_spec_l3State)], cut := [], hand := [], good := [], deep := [], sched := [] }

theorem t_spec_l3Slack : TabOk Tryz.prog C_spec_l3Slack := by
  refine tabOk_of ?_
  simp only [C_spec_l3Slack, List.forall_mem_cons]
  exact ⟨k_spec_l3State, fun p h => by cases h⟩

theorem k_spec_l3Slack : Entry Tryz.prog 248 c_spec_l3Slack := by
 refine entry_by (C := C_spec_l3Slack) mixed tys_ok t_spec_l3Slack (fn := Tryz.f248) (c := bd Tryz.f248) (by kernel_rfl) (by kernel_rfl) (by kernel_rfl) (by kernel_rfl) ?_
 intro args st k he
 unfold c_spec_l3Slack at he
 split at he
 rotate_left
 ·exact he.elim
 rename_i c__0 c__1 p
 have he : Ok (spec_l3Slack (c__0, c__1) p) (fun r => k (.c (.int .i64 r)) []) := he
 refine ⟨rfl, rfl, ?_⟩
 refine go_rq he fun he => ?_
 refine loop_model mixed tys_ok t_spec_l3Slack (S := Int × Int) (I := (fun (n, i) => (envOf [(1, .c (.imm y0_ p)), (2, .c (.ptr 10000000 0)), (5, .c (.int .i64 n)), (6, .c (.int .i64 i))], [(10000000, .rc [.imm y2_ (c__0, c__1).1, .int .i64 (c__0, c__1).2])]))) (f := spec_l3Slack_l1 (c__0, c__1) p) (K := (fun r => k (.c (.int .i64 r)) [])) he (leads_ren [(10000000, 2)] rfl rfl ⟨⟨.inl rfl, rfl, trivial⟩, trivial⟩ ⟨.inl rfl, ⟨⟨rfl, rfl⟩, rfl⟩, rfl, rfl, trivial⟩) ?_
 rintro ⟨n, i⟩ J1 he
 refine go_if he (fun he => ?_) fun he => ?_
 ·refine go_rq he fun he => ?_
  refine go_bind he fun r1_ he => ?_
  refine go_if he (fun he => ?_) fun he => ?_
  ·refine go_rq he fun he => ?_
   refine go_rq he fun he => ?_
   refine go_rq he fun he => ?_
   have he := ok_some he
   exact ⟨((n + ((c__0, c__1).1.getD i.toNat (0, 0)).1), (i + (1:Int))), he, (leads_ren [] rfl rfl ⟨⟨.inl rfl, rfl, trivial⟩, trivial⟩ ⟨.inl rfl, ⟨⟨rfl, rfl⟩, rfl⟩, rfl, rfl, trivial⟩)⟩
  ·refine go_rq he fun he => ?_
   have he := ok_some he
   exact ⟨(n, (i + (1:Int))), he, (leads_ren [] rfl rfl ⟨⟨.inl rfl, rfl, trivial⟩, trivial⟩ ⟨.inl rfl, ⟨⟨rfl, rfl⟩, rfl⟩, rfl, rfl, trivial⟩)⟩
 ·have he := ok_some he
  exact ⟨rfl, _, _, (leads_ren [] (l := [(4, .c (.int .i64 n))]) (st' := []) rfl rfl trivial ⟨rfl, trivial⟩), he⟩

end Go.AE.Y
