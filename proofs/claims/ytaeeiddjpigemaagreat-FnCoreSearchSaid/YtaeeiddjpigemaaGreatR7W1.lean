/-
  Walks: each function keeps the contract that its model gives. No conditions.
-/
import Derived.Test.YtaeeiddjpigemaaGreatR7Tab
import Derived.Test.YtaeeiddjpigemaaGreatR7M
import Derived.Test.YtaeeiddjpigemaaGreatR7S
namespace Go.AE.Y
open Go Go.AE Go.Proofs
set_option linter.unusedVariables false
set_option maxHeartbeats 2000000
set_option maxRecDepth 100000

noncomputable def c_spec_l17Open : Con := fun args st => match args, st with
  | [.c (.imm (.int .u8) code)], [] => .opt (D1_) (spec_l17Open code) (fun r => .ret (.c (.ptr 900 0)) [(900, .rc [.imm (.int .u8) r.1, .int .i64 r.2])])
  | _, _ => .fail

noncomputable def C_spec_l17Open : Cfg := { y := tys, n := 11, h := 0, tab := [], cut := [3], hand := [], good := [], deep := [], sched := [] }

theorem t_spec_l17Open : TabOk Tryz.prog C_spec_l17Open := tabOk_of (fun p h => by cases h)

theorem k_spec_l17Open : Entry Tryz.prog 50 c_spec_l17Open := by
 refine entry_by (C := C_spec_l17Open) mixed tys_ok t_spec_l17Open (fn := Tryz.f50) (c := bd Tryz.f50) (by kernel_rfl) (by kernel_rfl) (by kernel_rfl) (by kernel_rfl) ?_
 intro args st k he
 unfold c_spec_l17Open at he
 split at he
 rotate_left
 ·exact he.elim
 rename_i code
 have he : Ok (spec_l17Open code) (fun r => k (.c (.ptr 900 0)) [(900, .rc [.imm (.int .u8) r.1, .int .i64 r.2])]) := he
 refine ⟨rfl, rfl, ?_⟩
 refine seq_model mixed tys_ok t_spec_l17Open (S := (List Int)) (I := (fun code1 => (envOf [(0, .c (.imm (.int .u8) code1))], []))) (B := fun s => Ok (spec_l17Open_j1 s) (fun r => k (.c (.ptr 900 0)) [(900, .rc [.imm (.int .u8) r.1, .int .i64 r.2])])) ?_ ?_
 ·rintro code1 he
  have he := ok_some he
  exact ⟨rfl, _, _, (leads_ren [(900, 10)] (l := [(2, .c (.ptr 900 0))]) (st' := [(900, .rc [.imm (.int .u8) code1, .int .i64 (0:Int)])]) rfl rfl ⟨⟨.inl rfl, rfl, trivial⟩, trivial⟩ ⟨⟨⟨rfl, rfl⟩, rfl⟩, trivial⟩), he⟩
 ·skip
  refine go_if he (fun he => ?_) fun he => ?_
  ·refine go_rq he fun he => ?_
   exact ⟨(code.take (2000:Int).toNat), he, (leads_ren [] rfl rfl trivial ⟨.inl rfl, trivial⟩)⟩
  ·exact ⟨code, he, (leads_ren [] rfl rfl trivial ⟨.inl rfl, trivial⟩)⟩

noncomputable def c_spec_l17Rd_pick : Con := fun args st => match args, st with
  | [.c (.ptr 0 0), .c (.int .i64 a1)], [(0, .rc [.imm (.int .u8) o0_0, .int .i64 o0_1])] => .opt (Int × D1_) (spec_l17Rd_pick a1 (o0_0, o0_1)) (fun r => .ret (.c (.int .i64 r.1)) [(0, .rc [.imm (.int .u8) r.2.1, .int .i64 r.2.2])])
  | _, _ => .fail

noncomputable def C_spec_l17Rd_pick : Cfg := { y := tys, n := 99, h := 1, tab := [], cut := [], hand := [], good := [], deep := [], sched := [] }

theorem t_spec_l17Rd_pick : TabOk Tryz.prog C_spec_l17Rd_pick := tabOk_of (fun p h => by cases h)

theorem k_spec_l17Rd_pick : Entry Tryz.prog 87 c_spec_l17Rd_pick := by
 refine entry_by (C := C_spec_l17Rd_pick) mixed tys_ok t_spec_l17Rd_pick (fn := Tryz.f87) (c := bd Tryz.f87) (by kernel_rfl) (by kernel_rfl) (by kernel_rfl) (by kernel_rfl) ?_
 intro args st k he
 unfold c_spec_l17Rd_pick at he
 split at he
 rotate_left
 ·exact he.elim
 rename_i a1 o0_0 o0_1
 have he : Ok (spec_l17Rd_pick a1 (o0_0, o0_1)) (fun r => k (.c (.int .i64 r.1)) [(0, .rc [.imm (.int .u8) r.2.1, .int .i64 r.2.2])]) := he
 refine ⟨rfl, rfl, ?_⟩
 refine go_rq he fun he => ?_
 refine go_if2 he (fun he => ?_) fun he => ?_
 ·refine go_if he (fun he => ?_) fun he => ?_
  ·have he := ok_some he
   exact ⟨rfl, _, _, (leads_ren [] (l := [(4, .c (.int .i64 (0:Int)))]) (st' := [(0, .rc [.imm (.int .u8) (o0_0, o0_1).1, .int .i64 ((o0_0, o0_1).2 + (1:Int))])]) rfl rfl ⟨⟨.inl rfl, rfl, trivial⟩, trivial⟩ ⟨rfl, trivial⟩), he⟩
  ·refine go_rq he fun he => ?_
   refine go_if he (fun he => ?_) fun he => ?_
   ·refine go_rq he fun he => ?_
    refine fun _ => ?_
    refine go_rq he fun he => ?_
    refine go_rq he fun he => ?_
    have he := ok_some he
    exact ⟨rfl, _, _, (leads_ren [] (l := [(4, .c (.int .i64 (((o0_0, o0_1).1.getD (((o0_0, o0_1).2 + (1:Int)) - (1:Int)).toNat 0) % a1)))]) (st' := [(0, .rc [.imm (.int .u8) (o0_0, o0_1).1, .int .i64 ((o0_0, o0_1).2 + (1:Int))])]) rfl rfl ⟨⟨.inl rfl, rfl, trivial⟩, trivial⟩ ⟨rfl, trivial⟩), he⟩
   ·refine And.intro (by kernel_rfl) ?_
    refine go_rq he fun he => ?_
    refine go_rq he fun he => ?_
    refine fun _ => ?_
    refine go_rq he fun he => ?_
    refine go_rq he fun he => ?_
    refine go_rq he fun he => ?_
    refine go_rq he fun he => ?_
    refine go_rq he fun he => ?_
    refine go_rq he fun he => ?_
    refine fun _ => ?_
    refine go_rq he fun he => ?_
    refine go_rq he fun he => ?_
    refine go_rq he fun he => ?_
    refine go_rq he fun he => ?_
    refine go_rq he fun he => ?_
    refine go_rq he fun he => ?_
    refine go_rq he fun he => ?_
    refine go_rq he fun he => ?_
    refine go_rq he fun he => ?_
    refine go_rq he fun he => ?_
    refine go_rq he fun he => ?_
    have he := ok_some he
    exact ⟨rfl, _, _, (leads_ren [] (l := [(4, .c (.int .i64 (((((((((o0_0, o0_1).1.getD ((((o0_0, o0_1).2 + (1:Int)) - (1:Int)) % ((o0_0, o0_1).1.length:Int)).toNat 0) * (131:Int)) + (((o0_0, o0_1).1.getD ((((((o0_0, o0_1).2 + (1:Int)) - (1:Int)) * (7:Int)) + (3:Int)) % ((o0_0, o0_1).1.length:Int)).toNat 0) * (1117:Int))) + ((((o0_0, o0_1).2 + (1:Int)) - (1:Int)) * (29:Int))) + (((((o0_0, o0_1).2 + (1:Int)) - (1:Int)) / ((o0_0, o0_1).1.length:Int)) * (53:Int))).toNat ^^^ (((((((o0_0, o0_1).1.getD ((((o0_0, o0_1).2 + (1:Int)) - (1:Int)) % ((o0_0, o0_1).1.length:Int)).toNat 0) * (131:Int)) + (((o0_0, o0_1).1.getD ((((((o0_0, o0_1).2 + (1:Int)) - (1:Int)) * (7:Int)) + (3:Int)) % ((o0_0, o0_1).1.length:Int)).toNat 0) * (1117:Int))) + ((((o0_0, o0_1).2 + (1:Int)) - (1:Int)) * (29:Int))) + (((((o0_0, o0_1).2 + (1:Int)) - (1:Int)) / ((o0_0, o0_1).1.length:Int)) * (53:Int))) / (64:Int)).toNat : Nat) : Int) % a1)))]) (st' := [(0, .rc [.imm (.int .u8) (o0_0, o0_1).1, .int .i64 ((o0_0, o0_1).2 + (1:Int))])]) rfl rfl ⟨⟨.inl rfl, rfl, trivial⟩, trivial⟩ ⟨rfl, trivial⟩), he⟩
 ·have he := ok_some he
  exact ⟨rfl, _, _, (leads_ren [] (l := [(4, .c (.int .i64 (0:Int)))]) (st' := [(0, .rc [.imm (.int .u8) (o0_0, o0_1).1, .int .i64 ((o0_0, o0_1).2 + (1:Int))])]) rfl rfl ⟨⟨.inl rfl, rfl, trivial⟩, trivial⟩ ⟨rfl, trivial⟩), he⟩

noncomputable def c_spec_l17Rd_num : Con := fun args st => match args, st with
  | [.c (.ptr 0 0), .c (.imm (.int .i64) list_)], [(0, .rc [.imm (.int .u8) r__0, .int .i64 r__1])] => .opt (Int × D1_) (spec_l17Rd_num list_ (r__0, r__1)) (fun r => .ret (.c (.int .i64 r.1)) [(0, .rc [.imm (.int .u8) r.2.1, .int .i64 r.2.2])])
  | _, _ => .fail

noncomputable def C_spec_l17Rd_num : Cfg := { y := tys, n := 12, h := 1, tab := [(87, c_spec_l17Rd_pick)], cut := [], hand := [], good := [], deep := [], sched := [] }

theorem t_spec_l17Rd_num : TabOk Tryz.prog C_spec_l17Rd_num := by
  refine tabOk_of ?_
  simp only [C_spec_l17Rd_num, List.forall_mem_cons]
  exact ⟨k_spec_l17Rd_pick, fun p h => by cases h⟩

theorem k_spec_l17Rd_num : Entry Tryz.prog 54 c_spec_l17Rd_num := by
 refine entry_by (C := C_spec_l17Rd_num) mixed tys_ok t_spec_l17Rd_num (fn := Tryz.f54) (c := bd Tryz.f54) (by kernel_rfl) (by kernel_rfl) (by kernel_rfl) (by kernel_rfl) ?_
 intro args st k he
 unfold c_spec_l17Rd_num at he
 split at he
 rotate_left
 ·exact he.elim
 rename_i list_ r__0 r__1
 have he : Ok (spec_l17Rd_num list_ (r__0, r__1)) (fun r => k (.c (.int .i64 r.1)) [(0, .rc [.imm (.int .u8) r.2.1, .int .i64 r.2.2])]) := he
 refine ⟨rfl, rfl, ?_⟩
 refine go_bind he fun r1_ he => ?_
 refine go_rq he fun he => ?_
 have he := ok_some he
 exact ⟨rfl, _, _, (leads_ren [] (l := [(4, .c (.int .i64 (list_.getD r1_.1.toNat 0)))]) (st' := [(0, .rc [.imm (.int .u8) r1_.2.1, .int .i64 r1_.2.2])]) rfl rfl ⟨⟨.inl rfl, rfl, trivial⟩, trivial⟩ ⟨rfl, trivial⟩), he⟩

noncomputable def c_spec_l1Total : Con := fun args st => match args, st with
  | [.agg [.imm (.pair (.int .i64) (.int .i64)) c__0, .int .i64 c__1]], [] => .opt (Int) (spec_l1Total (c__0, c__1)) (fun r => .ret (.c (.int .i64 r)) [])
  | _, _ => .fail

noncomputable def C_spec_l1Total : Cfg := { y := tys, n := 21, h := 0, tab := [], cut := [], hand := [], good := [], deep := [], sched := [] }

theorem t_spec_l1Total : TabOk Tryz.prog C_spec_l1Total := tabOk_of (fun p h => by cases h)

theorem k_spec_l1Total : Entry Tryz.prog 216 c_spec_l1Total := by
 refine entry_by (C := C_spec_l1Total) mixed tys_ok t_spec_l1Total (fn := Tryz.f216) (c := bd Tryz.f216) (by kernel_rfl) (by kernel_rfl) (by kernel_rfl) (by kernel_rfl) ?_
 intro args st k he
 unfold c_spec_l1Total at he
 split at he
 rotate_left
 ·exact he.elim
 rename_i c__0 c__1
 have he : Ok (spec_l1Total (c__0, c__1)) (fun r => k (.c (.int .i64 r)) []) := he
 refine ⟨rfl, rfl, ?_⟩
 refine loop_model mixed tys_ok t_spec_l1Total (S := Int × Int) (I := (fun (n, i) => (envOf [(1, .c (.ptr 10000000 0)), (3, .c (.int .i64 n)), (4, .c (.int .i64 i))], [(10000000, .rc [.imm y2_ (c__0, c__1).1, .int .i64 (c__0, c__1).2])]))) (f := spec_l1Total_l1 (c__0, c__1)) (K := (fun r => k (.c (.int .i64 r)) [])) he (leads_ren [(10000000, 1)] rfl rfl ⟨⟨.inl rfl, rfl, trivial⟩, trivial⟩ ⟨⟨⟨rfl, rfl⟩, rfl⟩, rfl, rfl, trivial⟩) ?_
 rintro ⟨n, i⟩ J1 he
 refine go_if he (fun he => ?_) fun he => ?_
 ·refine go_rq he fun he => ?_
  refine go_rq he fun he => ?_
  refine go_rq he fun he => ?_
  have he := ok_some he
  exact ⟨((n + ((c__0, c__1).1.getD i.toNat (0, 0)).1), (i + (1:Int))), he, (leads_ren [] rfl rfl ⟨⟨.inl rfl, rfl, trivial⟩, trivial⟩ ⟨⟨⟨rfl, rfl⟩, rfl⟩, rfl, rfl, trivial⟩)⟩
 ·have he := ok_some he
  exact ⟨rfl, _, _, (leads_ren [] (l := [(2, .c (.int .i64 n))]) (st' := []) rfl rfl trivial ⟨rfl, trivial⟩), he⟩

noncomputable def c_spec_l1Draw : Con := fun args st => match args, st with
  | [.c (.ptr 0 0), .c (.int .i64 most)], [(0, .rc [.imm (.int .u8) r__0, .int .i64 r__1])] => .opt (D1_ × Int × (List D2_)) (spec_l1Draw most (r__0, r__1)) (fun r => .ret (.agg [.own 901 false, .int .i64 r.2.1]) [(0, .rc [.imm (.int .u8) r.1.1, .int .i64 r.1.2]), (900, .rc [.own 901 false, .int .i64 r.2.1]), (901, .sl 155 y2_ r.2.2 .shallow)])
  | _, _ => .fail

noncomputable def C_spec_l1Draw : Cfg := { y := tys, n := 50, h := 1, tab := [(54, c_spec_l17Rd_num), (87, c_spec_l17Rd_pick), (216, c_spec_l1Total)], cut := [9, 10], hand := [], good := [], deep := [], sched := [] }

theorem t_spec_l1Draw : TabOk Tryz.prog C_spec_l1Draw := by
  refine tabOk_of ?_
  simp only [C_spec_l1Draw, List.forall_mem_cons]
  exact ⟨k_spec_l17Rd_num, k_spec_l17Rd_pick, k_spec_l1Total, fun p h => by cases h⟩

theorem k_spec_l1Draw : Entry Tryz.prog 227 c_spec_l1Draw := by
 refine entry_by (C := C_spec_l1Draw) mixed tys_ok t_spec_l1Draw (fn := Tryz.f227) (c := bd Tryz.f227) (by kernel_rfl) (by kernel_rfl) (by kernel_rfl) (by kernel_rfl) ?_
 intro args st k he
 unfold c_spec_l1Draw at he
 split at he
 rotate_left
 ·exact he.elim
 rename_i most r__0 r__1
 have he : Ok (spec_l1Draw most (r__0, r__1)) (fun r => k (.agg [.own 901 false, .int .i64 r.2.1]) [(0, .rc [.imm (.int .u8) r.1.1, .int .i64 r.1.2]), (900, .rc [.own 901 false, .int .i64 r.2.1]), (901, .sl 155 y2_ r.2.2 .shallow)]) := he
 refine ⟨rfl, rfl, ?_⟩
 refine seq_model mixed tys_ok t_spec_l1Draw (S := D1_ × (List D2_)) (I := (fun (r_4, c_01) => (envOf [(0, .c (.ptr 0 0)), (4, .c (.ptr 10003000 0)), (5, .c (.ptr 10003001 0))], [(0, .rc [.imm (.int .u8) r_4.1, .int .i64 r_4.2]), (10003000, .rc [.nil, .int .i64 (0:Int)]), (10003001, .rc [.own 10003002 false, .int .i64 (0:Int)]), (10003002, .sl 155 y2_ c_01 .shallow)]))) (B := fun s => Ok (spec_l1Draw_j1 s) (fun r => k (.agg [.own 901 false, .int .i64 r.2.1]) [(0, .rc [.imm (.int .u8) r.1.1, .int .i64 r.1.2]), (900, .rc [.own 901 false, .int .i64 r.2.1]), (901, .sl 155 y2_ r.2.2 .shallow)])) ?_ ?_
 ·rintro ⟨r_4, c_01⟩ he
  refine go_bind he fun r7_ he => ?_
  refine go_bind he fun r8_ he => ?_
  refine go_bind he fun r9_ he => ?_
  refine go_if he (fun he => ?_) fun he => ?_
  ·refine go_rq he fun he => ?_
   refine go_bind he fun r10_ he => ?_
   have he := ok_some he
   exact ⟨rfl, _, _, (leads_ren [(900, 10003000), (901, 10003002)] (l := [(4, .c (.ptr 900 0))]) (st' := [(0, .rc [.imm (.int .u8) r10_.2.1, .int .i64 r10_.2.2]), (900, .rc [.own 901 false, .int .i64 r10_.1]), (901, .sl 155 y2_ c_01 .shallow)]) rfl rfl ⟨⟨.inl rfl, rfl, trivial⟩, ⟨⟨⟨rfl, rfl⟩, trivial⟩, rfl, trivial⟩, ⟨rfl, rfl⟩, trivial⟩ ⟨⟨⟨rfl, rfl⟩, rfl⟩, trivial⟩), he⟩
  ·have he := ok_some he
   exact ⟨rfl, _, _, (leads_ren [(900, 10003000), (901, 10003002)] (l := [(4, .c (.ptr 900 0))]) (st' := [(0, .rc [.imm (.int .u8) r9_.2.1, .int .i64 r9_.2.2]), (900, .rc [.own 901 false, .int .i64 r8_.1]), (901, .sl 155 y2_ c_01 .shallow)]) rfl rfl ⟨⟨.inl rfl, rfl, trivial⟩, ⟨⟨⟨rfl, rfl⟩, trivial⟩, rfl, trivial⟩, ⟨rfl, rfl⟩, trivial⟩ ⟨⟨⟨rfl, rfl⟩, rfl⟩, trivial⟩), he⟩
 ·skip
  refine loop_model mixed tys_ok t_spec_l1Draw (S := Int × D1_ × (List D2_)) (I := (fun (v, r_2, c_0) => (envOf [(0, .c (.ptr 0 0)), (1, .c (.int .i64 most)), (4, .c (.ptr 10000000 0)), (5, .c (.ptr 10000001 0)), (6, .c (.int .i64 v))], [(0, .rc [.imm (.int .u8) r_2.1, .int .i64 r_2.2]), (10000000, .rc [.nil, .int .i64 (0:Int)]), (10000001, .rc [.own 10000002 false, .int .i64 (0:Int)]), (10000002, .sl 155 y2_ c_0 .shallow)]))) (f := spec_l1Draw_l1 most) (K := (fun r => k (.agg [.own 901 false, .int .i64 r.2.1]) [(0, .rc [.imm (.int .u8) r.1.1, .int .i64 r.1.2]), (900, .rc [.own 901 false, .int .i64 r.2.1]), (901, .sl 155 y2_ r.2.2 .shallow)])) he (leads_ren [(10000000, 4), (10000001, 5)] rfl rfl ⟨⟨.inl rfl, rfl, trivial⟩, ⟨rfl, rfl, trivial⟩, ⟨⟨rfl, trivial⟩, rfl, trivial⟩, trivial, trivial⟩ ⟨⟨⟨rfl, rfl⟩, rfl⟩, rfl, ⟨⟨rfl, rfl⟩, rfl⟩, ⟨⟨rfl, rfl⟩, rfl⟩, rfl, trivial⟩) ?_
  rintro ⟨v, r_2, c_0⟩ J1 he
  refine go_if he (fun he => ?_) fun he => ?_
  ·refine go_bind he fun r4_ he => ?_
   refine go_if he (fun he => ?_) fun he => ?_
   ·refine go_bind he fun r5_ he => ?_
    refine seq_model mixed tys_ok t_spec_l1Draw (S := D1_ × D2_) (I := (fun (r_3, t_1) => (envOf [(0, .c (.ptr 0 0)), (1, .c (.int .i64 most)), (4, .c (.ptr 10002000 0)), (5, .c (.ptr 10002001 0)), (6, .c (.int .i64 v)), (7, .c (.ptr 10002002 0))], [(0, .rc [.imm (.int .u8) r_3.1, .int .i64 r_3.2]), (10002000, .rc [.nil, .int .i64 (0:Int)]), (10002001, .rc [.own 10002003 false, .int .i64 (0:Int)]), (10002002, .rc [.int .i64 t_1.1, .int .i64 t_1.2]), (10002003, .sl 155 y2_ c_0 .shallow)]))) (B := fun s => Ok (spec_l1Draw_j2 v c_0 s) (LK J1 (fun r => k (.agg [.own 901 false, .int .i64 r.2.1]) [(0, .rc [.imm (.int .u8) r.1.1, .int .i64 r.1.2]), (900, .rc [.own 901 false, .int .i64 r.2.1]), (901, .sl 155 y2_ r.2.2 .shallow)]))) ?_ ?_
    ·rintro ⟨r_3, t_1⟩ he
     refine go_rq he fun he => ?_
     refine go_rq he fun he => ?_
     have he := ok_some he
     exact ⟨((v + (1:Int)), r_3, (c_0 ++ [t_1])), he, (leads_ren [(10000000, 10002000), (10000001, 10002001), (10000002, 33)] rfl rfl ⟨⟨.inl rfl, rfl, trivial⟩, ⟨rfl, rfl, trivial⟩, ⟨⟨⟨rfl, rfl⟩, trivial⟩, rfl, trivial⟩, ⟨rfl, rfl⟩, trivial⟩ ⟨⟨⟨rfl, rfl⟩, rfl⟩, rfl, ⟨⟨rfl, rfl⟩, rfl⟩, ⟨⟨rfl, rfl⟩, rfl⟩, rfl, trivial⟩)⟩
    ·skip
     refine go_bind he fun r6_ he => ?_
     refine go_if he (fun he => ?_) fun he => ?_
     ·refine go_rq he fun he => ?_
      exact ⟨(r6_.2, (r5_.1, (0 - v))), he, (leads_ren [(10002000, 10000000), (10002001, 10000001), (10002002, 7), (10002003, 10000002)] rfl rfl ⟨⟨.inl rfl, rfl, trivial⟩, ⟨rfl, rfl, trivial⟩, ⟨⟨⟨rfl, rfl⟩, trivial⟩, rfl, trivial⟩, ⟨rfl, rfl, trivial⟩, ⟨rfl, rfl⟩, trivial⟩ ⟨⟨⟨rfl, rfl⟩, rfl⟩, rfl, ⟨⟨rfl, rfl⟩, rfl⟩, ⟨⟨rfl, rfl⟩, rfl⟩, rfl, ⟨⟨rfl, rfl⟩, rfl⟩, trivial⟩)⟩
     ·exact ⟨(r6_.2, (r5_.1, v)), he, (leads_ren [(10002000, 10000000), (10002001, 10000001), (10002002, 7), (10002003, 10000002)] rfl rfl ⟨⟨.inl rfl, rfl, trivial⟩, ⟨rfl, rfl, trivial⟩, ⟨⟨⟨rfl, rfl⟩, trivial⟩, rfl, trivial⟩, ⟨rfl, rfl, trivial⟩, ⟨rfl, rfl⟩, trivial⟩ ⟨⟨⟨rfl, rfl⟩, rfl⟩, rfl, ⟨⟨rfl, rfl⟩, rfl⟩, ⟨⟨rfl, rfl⟩, rfl⟩, rfl, ⟨⟨rfl, rfl⟩, rfl⟩, trivial⟩)⟩
   ·refine go_rq he fun he => ?_
    have he := ok_some he
    exact ⟨((v + (1:Int)), r4_.2, c_0), he, (leads_ren [] rfl rfl ⟨⟨.inl rfl, rfl, trivial⟩, ⟨rfl, rfl, trivial⟩, ⟨⟨⟨rfl, rfl⟩, trivial⟩, rfl, trivial⟩, ⟨rfl, rfl⟩, trivial⟩ ⟨⟨⟨rfl, rfl⟩, rfl⟩, rfl, ⟨⟨rfl, rfl⟩, rfl⟩, ⟨⟨rfl, rfl⟩, rfl⟩, rfl, trivial⟩)⟩
  ·exact ⟨(r_2, c_0), ok_up he, (leads_ren [(10003000, 10000000), (10003001, 10000001), (10003002, 10000002)] rfl rfl ⟨⟨.inl rfl, rfl, trivial⟩, ⟨rfl, rfl, trivial⟩, ⟨⟨⟨rfl, rfl⟩, trivial⟩, rfl, trivial⟩, ⟨rfl, rfl⟩, trivial⟩ ⟨⟨⟨rfl, rfl⟩, rfl⟩, ⟨⟨rfl, rfl⟩, rfl⟩, ⟨⟨rfl, rfl⟩, rfl⟩, trivial⟩)⟩

noncomputable def c_spec_l3Problem : Con := fun args st => match args, st with
  | [.c (.ptr 0 0)], [(0, .rc [.imm (.int .u8) r__0, .int .i64 r__1])] => .opt (D1_ × (List D3_)) (spec_l3Problem (r__0, r__1)) (fun r => .ret (.c (.own 900 false)) [(0, .rc [.imm (.int .u8) r.1.1, .int .i64 r.1.2]), (900, .sl 89 y3_ r.2 (.deep true .no))])
  | _, _ => .fail

noncomputable def C_spec_l3Problem : Cfg := { y := tys, n := 24, h := 1, tab := [(54, c_spec_l17Rd_num), (227, c_spec_l1Draw)], cut := [], hand := [], good := [], deep := [6, 21], sched := [] }

theorem t_spec_l3Problem : TabOk Tryz.prog C_spec_l3Problem := by
  refine tabOk_of ?_
  simp only [C_spec_l3Problem, List.forall_mem_cons]
  exact ⟨k_spec_l17Rd_num, k_spec_l1Draw, fun p h => by cases h⟩

theorem k_spec_l3Problem : Entry Tryz.prog 219 c_spec_l3Problem := by
 refine entry_by (C := C_spec_l3Problem) mixed tys_ok t_spec_l3Problem (fn := Tryz.f219) (c := bd Tryz.f219) (by kernel_rfl) (by kernel_rfl) (by kernel_rfl) (by kernel_rfl) ?_
 intro args st k he
 unfold c_spec_l3Problem at he
 split at he
 rotate_left
 ·exact he.elim
 rename_i r__0 r__1
 have he : Ok (spec_l3Problem (r__0, r__1)) (fun r => k (.c (.own 900 false)) [(0, .rc [.imm (.int .u8) r.1.1, .int .i64 r.1.2]), (900, .sl 89 y3_ r.2 (.deep true .no))]) := he
 refine ⟨rfl, rfl, ?_⟩
 refine go_bind he fun r1_ he => ?_
 refine go_bind he fun r2_ he => ?_
 refine loop_model mixed tys_ok t_spec_l3Problem (S := Int × D1_ × (List D3_)) (I := (fun (i, r_1, out) => (envOf [(0, .c (.ptr 0 0)), (3, .c (.own 10000000 false)), (4, .c (.int .i64 r1_.1)), (5, .c (.int .i64 i))], [(0, .rc [.imm (.int .u8) r_1.1, .int .i64 r_1.2]), (10000000, .sl 89 y3_ out (.deep true .no))]))) (f := spec_l3Problem_l1 r1_) (K := (fun r => k (.c (.own 900 false)) [(0, .rc [.imm (.int .u8) r.1.1, .int .i64 r.1.2]), (900, .sl 89 y3_ r.2 (.deep true .no))])) he (leads_ren [(10000000, 6)] rfl rfl ⟨⟨.inl rfl, rfl, trivial⟩, ⟨rfl, rfl⟩, trivial⟩ ⟨⟨⟨rfl, rfl⟩, rfl⟩, ⟨⟨rfl, rfl⟩, trivial⟩, rfl, rfl, trivial⟩) ?_
 rintro ⟨i, r_1, out⟩ J1 he
 refine go_if he (fun he => ?_) fun he => ?_
 ·refine go_bind he fun r4_ he => ?_
  refine go_rq he fun he => ?_
  refine go_rq he fun he => ?_
  have he := ok_some he
  exact ⟨((i - (1:Int)), r4_.1, (out ++ [(r4_.2.2, r4_.2.1)])), he, (leads_ren [(10000000, 22)] rfl rfl ⟨⟨.inl rfl, rfl, trivial⟩, ⟨rfl, rfl⟩, trivial⟩ ⟨⟨⟨rfl, rfl⟩, rfl⟩, ⟨⟨rfl, rfl⟩, trivial⟩, rfl, rfl, trivial⟩)⟩
 ·have he := ok_some he
  exact ⟨rfl, _, _, (leads_ren [(900, 10000000)] (l := [(2, .c (.own 900 false))]) (st' := [(0, .rc [.imm (.int .u8) r_1.1, .int .i64 r_1.2]), (900, .sl 89 y3_ out (.deep true .no))]) rfl rfl ⟨⟨.inl rfl, rfl, trivial⟩, ⟨rfl, rfl⟩, trivial⟩ ⟨⟨⟨rfl, rfl⟩, trivial⟩, trivial⟩), he⟩

noncomputable def c_spec_l5Hard : Con := fun args st => match args, st with
  | [.c (.ptr 0 0)], [(0, .rc [.imm (.int .u8) r__0, .int .i64 r__1])] => .opt (D1_ × (List D3_)) (spec_l5Hard (r__0, r__1)) (fun r => .ret (.c (.own 900 false)) [(0, .rc [.imm (.int .u8) r.1.1, .int .i64 r.1.2]), (900, .sl 89 y3_ r.2 (.deep true .no))])
  | _, _ => .fail

noncomputable def C_spec_l5Hard : Cfg := { y := tys, n := 33, h := 1, tab := [(54, c_spec_l17Rd_num), (87, c_spec_l17Rd_pick), (216, c_spec_l1Total), (219, c_spec_l3Problem), (227, c_spec_l1Draw)], cut := [], hand := [], good := [], deep := [30], sched := [] }

theorem t_spec_l5Hard : TabOk Tryz.prog C_spec_l5Hard := by
  refine tabOk_of ?_
  simp only [C_spec_l5Hard, List.forall_mem_cons]
  exact ⟨k_spec_l17Rd_num, k_spec_l17Rd_pick, k_spec_l1Total, k_spec_l3Problem, k_spec_l1Draw, fun p h => by cases h⟩

theorem k_spec_l5Hard : Entry Tryz.prog 165 c_spec_l5Hard := by
 refine entry_by (C := C_spec_l5Hard) mixed tys_ok t_spec_l5Hard (fn := Tryz.f165) (c := bd Tryz.f165) (by kernel_rfl) (by kernel_rfl) (by kernel_rfl) (by kernel_rfl) ?_
 intro args st k he
 unfold c_spec_l5Hard at he
 split at he
 rotate_left
 ·exact he.elim
 rename_i r__0 r__1
 have he : Ok (spec_l5Hard (r__0, r__1)) (fun r => k (.c (.own 900 false)) [(0, .rc [.imm (.int .u8) r.1.1, .int .i64 r.1.2]), (900, .sl 89 y3_ r.2 (.deep true .no))]) := he
 refine ⟨rfl, rfl, ?_⟩
 refine go_bind he fun r1_ he => ?_
 refine go_bind he fun r2_ he => ?_
 refine loop_model mixed tys_ok t_spec_l5Hard (S := Int × D1_ × (List D3_)) (I := (fun (i, r_1, list_) => (envOf [(0, .c (.ptr 0 0)), (3, .c (.own 10000000 false)), (4, .c (.int .i64 i))], [(0, .rc [.imm (.int .u8) r_1.1, .int .i64 r_1.2]), (10000000, .sl 89 y3_ list_ (.deep true .no))]))) (f := spec_l5Hard_l1) (K := (fun r => k (.c (.own 900 false)) [(0, .rc [.imm (.int .u8) r.1.1, .int .i64 r.1.2]), (900, .sl 89 y3_ r.2 (.deep true .no))])) he (leads_ren [(10000000, 9900)] rfl rfl ⟨⟨.inl rfl, rfl, trivial⟩, ⟨rfl, rfl⟩, trivial⟩ ⟨⟨⟨rfl, rfl⟩, rfl⟩, ⟨⟨rfl, rfl⟩, trivial⟩, rfl, trivial⟩) ?_
 rintro ⟨i, r_1, list_⟩ J1 he
 refine go_if he (fun he => ?_) fun he => ?_
 ·refine go_bind he fun r6_ he => ?_
  refine go_bind he fun r7_ he => ?_
  refine go_rq he fun he => ?_
  refine go_rq he fun he => ?_
  refine go_bind he fun r8_ he => ?_
  refine go_rq he fun he => ?_
  refine go_rq he fun he => ?_
  refine go_rq he fun he => ?_
  have he := ok_some he
  exact ⟨((i - (1:Int)), r8_.2, (list_ ++ [(r6_.2.2, (r7_ - r8_.1))])), he, (leads_ren [(10000000, 31)] rfl rfl ⟨⟨.inl rfl, rfl, trivial⟩, ⟨rfl, rfl⟩, trivial⟩ ⟨⟨⟨rfl, rfl⟩, rfl⟩, ⟨⟨rfl, rfl⟩, trivial⟩, rfl, trivial⟩)⟩
 ·have he := ok_some he
  exact ⟨rfl, _, _, (leads_ren [(900, 10000000)] (l := [(2, .c (.own 900 false))]) (st' := [(0, .rc [.imm (.int .u8) r_1.1, .int .i64 r_1.2]), (900, .sl 89 y3_ list_ (.deep true .no))]) rfl rfl ⟨⟨.inl rfl, rfl, trivial⟩, ⟨rfl, rfl⟩, trivial⟩ ⟨⟨⟨rfl, rfl⟩, trivial⟩, trivial⟩), he⟩

noncomputable def c_spec_l11Closed : Con := fun args st => match args, st with
  | [.c (.ptr 0 0)], [(0, .rc [.imm (.int .u8) r__0, .int .i64 r__1])] => .opt (D1_ × (List D3_)) (spec_l11Closed (r__0, r__1)) (fun r => .ret (.c (.own 900 false)) [(0, .rc [.imm (.int .u8) r.1.1, .int .i64 r.1.2]), (900, .sl 89 y3_ r.2 (.deep true .no))])
  | _, _ => .fail

noncomputable def C_spec_l11Closed : Cfg := { y := tys, n := 29, h := 1, tab := [(87, c_spec_l17Rd_pick), (165, c_spec_l5Hard)], cut := [], hand := [], good := [], deep := [18, 25], sched := [] }

theorem t_spec_l11Closed : TabOk Tryz.prog C_spec_l11Closed := by
  refine tabOk_of ?_
  simp only [C_spec_l11Closed, List.forall_mem_cons]
  exact ⟨k_spec_l17Rd_pick, k_spec_l5Hard, fun p h => by cases h⟩

theorem k_spec_l11Closed : Entry Tryz.prog 105 c_spec_l11Closed := by
 refine entry_by (C := C_spec_l11Closed) mixed tys_ok t_spec_l11Closed (fn := Tryz.f105) (c := bd Tryz.f105) (by kernel_rfl) (by kernel_rfl) (by kernel_rfl) (by kernel_rfl) ?_
 intro args st k he
 unfold c_spec_l11Closed at he
 split at he
 rotate_left
 ·exact he.elim
 rename_i r__0 r__1
 have he : Ok (spec_l11Closed (r__0, r__1)) (fun r => k (.c (.own 900 false)) [(0, .rc [.imm (.int .u8) r.1.1, .int .i64 r.1.2]), (900, .sl 89 y3_ r.2 (.deep true .no))]) := he
 refine ⟨rfl, rfl, ?_⟩
 refine go_bind he fun r1_ he => ?_
 refine go_bind he fun r2_ he => ?_
 refine go_if he (fun he => ?_) fun he => ?_
 ·refine go_bind he fun r3_ he => ?_
  refine go_rq he fun he => ?_
  refine go_rq he fun he => ?_
  refine go_rq he fun he => ?_
  refine go_rq he fun he => ?_
  have he := ok_some he
  exact ⟨rfl, _, _, (leads_ren [(900, 27)] (l := [(2, .c (.own 900 false))]) (st' := [(0, .rc [.imm (.int .u8) r3_.2.1, .int .i64 r3_.2.2]), (900, .sl 89 y3_ ([([((1:Int), (0 - ((1:Int) + r3_.1)))], (1:Int))] ++ (r1_.2 ++ [([((1:Int), ((1:Int) + r3_.1))], (1:Int))])) (.deep true .no))]) rfl rfl ⟨⟨.inl rfl, rfl, trivial⟩, ⟨rfl, rfl⟩, trivial⟩ ⟨⟨⟨rfl, rfl⟩, trivial⟩, trivial⟩), he⟩
 ·have he := ok_some he
  exact ⟨rfl, _, _, (leads_ren [(900, 7900)] (l := [(2, .c (.own 900 false))]) (st' := [(0, .rc [.imm (.int .u8) r2_.2.1, .int .i64 r2_.2.2]), (900, .sl 89 y3_ r1_.2 (.deep true .no))]) rfl rfl ⟨⟨.inl rfl, rfl, trivial⟩, ⟨rfl, rfl⟩, trivial⟩ ⟨⟨⟨rfl, rfl⟩, trivial⟩, trivial⟩), he⟩

noncomputable def c_spec_l1Copy : Con := fun args st => match args, st with
  | [.agg [.imm (.pair (.int .i64) (.int .i64)) c__0, .int .i64 c__1]], [] => .opt (Int × (List D2_)) (spec_l1Copy (c__0, c__1)) (fun r => .ret (.agg [.own 901 false, .int .i64 r.1]) [(900, .rc [.own 901 false, .int .i64 r.1]), (901, .sl 155 y2_ r.2 .shallow)])
  | _, _ => .fail

noncomputable def C_spec_l1Copy : Cfg := { y := tys, n := 10, h := 0, tab := [], cut := [], hand := [], good := [], deep := [], sched := [(1, (.first 1 (.first 4 (.alt 0 (.alt 2 (.alt 3 (.alt 5 (.alt 6 (.alt 7 .done .stop) .stop) .stop) (.alt 5 (.alt 3 (.alt 6 (.alt 7 .done .stop) .stop) .stop) .stop)) (.alt 5 (.alt 2 (.alt 3 (.alt 6 (.alt 7 .done .stop) .stop) .stop) .stop) .stop)) (.alt 2 (.alt 0 (.alt 3 (.alt 5 (.alt 6 (.alt 7 .done .stop) .stop) .stop) (.alt 5 (.alt 3 (.alt 6 (.alt 7 .done .stop) .stop) .stop) .stop)) (.alt 5 (.alt 0 (.alt 3 (.alt 6 (.alt 7 .done .stop) .stop) .stop) .stop) .stop)) (.alt 5 (.alt 0 (.alt 2 (.alt 3 (.alt 6 (.alt 7 .done .stop) .stop) .stop) .stop) (.alt 2 (.alt 0 (.alt 3 (.alt 6 (.alt 7 .done .stop) .stop) .stop) .stop) .stop)) .stop))))))] }

theorem t_spec_l1Copy : TabOk Tryz.prog C_spec_l1Copy := tabOk_of (fun p h => by cases h)

theorem k_spec_l1Copy : Entry Tryz.prog 136 c_spec_l1Copy := by
 refine entry_by (C := C_spec_l1Copy) mixed tys_ok t_spec_l1Copy (fn := Tryz.f136) (c := bd Tryz.f136) (by kernel_rfl) (by kernel_rfl) (by kernel_rfl) (by kernel_rfl) ?_
 intro args st k he
 unfold c_spec_l1Copy at he
 split at he
 rotate_left
 ·exact he.elim
 rename_i c__0 c__1
 have he : Ok (spec_l1Copy (c__0, c__1)) (fun r => k (.agg [.own 901 false, .int .i64 r.1]) [(900, .rc [.own 901 false, .int .i64 r.1]), (901, .sl 155 y2_ r.2 .shallow)]) := he
 refine ⟨rfl, rfl, ?_⟩
 refine And.intro (by kernel_rfl) ?_
 have he := ok_rq he
 have hq1 := he.1
 have he := he.2
 refine And.intro ?_ (And.intro ?_ (And.intro ?_ (trivial)))
 ·skip
  refine And.intro ?_ (And.intro ?_ (trivial))
  ·skip
   refine And.intro ?_ (And.intro ?_ (trivial))
   ·skip
    refine And.intro hq1 ?_
    refine And.intro ?_ trivial
    refine And.intro ?_ trivial
    refine And.intro ?_ trivial
    have he := ok_some he
    exact ⟨rfl, _, _, (leads_ren [(900, 2), (901, 6)] (l := [(2, .c (.ptr 900 0))]) (st' := [(900, .rc [.own 901 false, .int .i64 (c__0, c__1).2]), (901, .sl 155 y2_ (([] : List D2_) ++ (c__0, c__1).1) .shallow)]) rfl rfl ⟨⟨⟨⟨rfl, rfl⟩, trivial⟩, rfl, trivial⟩, ⟨rfl, rfl⟩, trivial⟩ ⟨⟨⟨rfl, rfl⟩, rfl⟩, trivial⟩), he⟩
   ·skip
    refine And.intro ?_ trivial
    refine And.intro hq1 ?_
    refine And.intro ?_ trivial
    refine And.intro ?_ trivial
    have he := ok_some he
    exact ⟨rfl, _, _, (leads_ren [(900, 2), (901, 6)] (l := [(2, .c (.ptr 900 0))]) (st' := [(900, .rc [.own 901 false, .int .i64 (c__0, c__1).2]), (901, .sl 155 y2_ (([] : List D2_) ++ (c__0, c__1).1) .shallow)]) rfl rfl ⟨⟨⟨⟨rfl, rfl⟩, trivial⟩, rfl, trivial⟩, ⟨rfl, rfl⟩, trivial⟩ ⟨⟨⟨rfl, rfl⟩, rfl⟩, trivial⟩), he⟩
  ·skip
   refine And.intro ?_ trivial
   refine And.intro ?_ trivial
   refine And.intro hq1 ?_
   refine And.intro ?_ trivial
   refine And.intro ?_ trivial
   have he := ok_some he
   exact ⟨rfl, _, _, (leads_ren [(900, 2), (901, 6)] (l := [(2, .c (.ptr 900 0))]) (st' := [(900, .rc [.own 901 false, .int .i64 (c__0, c__1).2]), (901, .sl 155 y2_ (([] : List D2_) ++ (c__0, c__1).1) .shallow)]) rfl rfl ⟨⟨⟨⟨rfl, rfl⟩, trivial⟩, rfl, trivial⟩, ⟨rfl, rfl⟩, trivial⟩ ⟨⟨⟨rfl, rfl⟩, rfl⟩, trivial⟩), he⟩
 ·skip
  refine And.intro ?_ (And.intro ?_ (trivial))
  ·skip
   refine And.intro ?_ (And.intro ?_ (trivial))
   ·skip
    refine And.intro hq1 ?_
    refine And.intro ?_ trivial
    refine And.intro ?_ trivial
    refine And.intro ?_ trivial
    have he := ok_some he
    exact ⟨rfl, _, _, (leads_ren [(900, 2), (901, 6)] (l := [(2, .c (.ptr 900 0))]) (st' := [(900, .rc [.own 901 false, .int .i64 (c__0, c__1).2]), (901, .sl 155 y2_ (([] : List D2_) ++ (c__0, c__1).1) .shallow)]) rfl rfl ⟨⟨⟨⟨rfl, rfl⟩, trivial⟩, rfl, trivial⟩, ⟨rfl, rfl⟩, trivial⟩ ⟨⟨⟨rfl, rfl⟩, rfl⟩, trivial⟩), he⟩
   ·skip
    refine And.intro ?_ trivial
    refine And.intro hq1 ?_
    refine And.intro ?_ trivial
    refine And.intro ?_ trivial
    have he := ok_some he
    exact ⟨rfl, _, _, (leads_ren [(900, 2), (901, 6)] (l := [(2, .c (.ptr 900 0))]) (st' := [(900, .rc [.own 901 false, .int .i64 (c__0, c__1).2]), (901, .sl 155 y2_ (([] : List D2_) ++ (c__0, c__1).1) .shallow)]) rfl rfl ⟨⟨⟨⟨rfl, rfl⟩, trivial⟩, rfl, trivial⟩, ⟨rfl, rfl⟩, trivial⟩ ⟨⟨⟨rfl, rfl⟩, rfl⟩, trivial⟩), he⟩
  ·skip
   refine And.intro ?_ trivial
   refine And.intro ?_ trivial
   refine And.intro hq1 ?_
   refine And.intro ?_ trivial
   refine And.intro ?_ trivial
   have he := ok_some he
   exact ⟨rfl, _, _, (leads_ren [(900, 2), (901, 6)] (l := [(2, .c (.ptr 900 0))]) (st' := [(900, .rc [.own 901 false, .int .i64 (c__0, c__1).2]), (901, .sl 155 y2_ (([] : List D2_) ++ (c__0, c__1).1) .shallow)]) rfl rfl ⟨⟨⟨⟨rfl, rfl⟩, trivial⟩, rfl, trivial⟩, ⟨rfl, rfl⟩, trivial⟩ ⟨⟨⟨rfl, rfl⟩, rfl⟩, trivial⟩), he⟩
 ·skip
  refine And.intro ?_ (And.intro ?_ (trivial))
  ·skip
   refine And.intro ?_ trivial
   refine And.intro ?_ trivial
   refine And.intro hq1 ?_
   refine And.intro ?_ trivial
   refine And.intro ?_ trivial
   have he := ok_some he
   exact ⟨rfl, _, _, (leads_ren [(900, 2), (901, 6)] (l := [(2, .c (.ptr 900 0))]) (st' := [(900, .rc [.own 901 false, .int .i64 (c__0, c__1).2]), (901, .sl 155 y2_ (([] : List D2_) ++ (c__0, c__1).1) .shallow)]) rfl rfl ⟨⟨⟨⟨rfl, rfl⟩, trivial⟩, rfl, trivial⟩, ⟨rfl, rfl⟩, trivial⟩ ⟨⟨⟨rfl, rfl⟩, rfl⟩, trivial⟩), he⟩
  ·skip
   refine And.intro ?_ trivial
   refine And.intro ?_ trivial
   refine And.intro hq1 ?_
   refine And.intro ?_ trivial
   refine And.intro ?_ trivial
   have he := ok_some he
   exact ⟨rfl, _, _, (leads_ren [(900, 2), (901, 6)] (l := [(2, .c (.ptr 900 0))]) (st' := [(900, .rc [.own 901 false, .int .i64 (c__0, c__1).2]), (901, .sl 155 y2_ (([] : List D2_) ++ (c__0, c__1).1) .shallow)]) rfl rfl ⟨⟨⟨⟨rfl, rfl⟩, trivial⟩, rfl, trivial⟩, ⟨rfl, rfl⟩, trivial⟩ ⟨⟨⟨rfl, rfl⟩, rfl⟩, trivial⟩), he⟩

noncomputable def c_spec_l1Mutate : Con := fun args st => match args, st with
  | [.c (.ptr 0 0), .agg [.imm (.pair (.int .i64) (.int .i64)) c__0, .int .i64 c__1]], [(0, .rc [.imm (.int .u8) r__0, .int .i64 r__1])] => .opt (D1_ × Int × (List D2_)) (spec_l1Mutate (c__0, c__1) (r__0, r__1)) (fun r => .ret (.agg [.own 901 false, .int .i64 r.2.1]) [(0, .rc [.imm (.int .u8) r.1.1, .int .i64 r.1.2]), (900, .rc [.own 901 false, .int .i64 r.2.1]), (901, .sl 155 y2_ r.2.2 .shallow)])
  | _, _ => .fail

noncomputable def C_spec_l1Mutate : Cfg := { y := tys, n := 53, h := 1, tab := [(54, c_spec_l17Rd_num), (87, c_spec_l17Rd_pick), (136, c_spec_l1Copy)], cut := [], hand := [], good := [], deep := [], sched := [(8, (.first 0 (.first 2 (.alt 1 (.alt 3 (.alt 4 (.first 5 (.first 6 (.alt 7 .done .stop))) .stop) .stop) (.alt 3 (.alt 1 (.alt 4 (.first 5 (.first 6 (.alt 7 .done .stop))) .stop) (.alt 4 (.alt 1 (.first 5 (.first 6 (.alt 7 .done .stop))) .stop) .stop)) .stop))))), (11, (.first 0 (.first 2 (.first 3 (.first 4 (.alt 1 (.alt 5 (.alt 6 (.first 7 (.first 8 (.alt 9 .done .stop))) .stop) .stop) (.alt 5 (.alt 1 (.alt 6 (.first 7 (.first 8 (.alt 9 .done .stop))) .stop) (.alt 6 (.alt 1 (.first 7 (.first 8 (.alt 9 .done .stop))) .stop) .stop)) .stop)))))))] }

theorem t_spec_l1Mutate : TabOk Tryz.prog C_spec_l1Mutate := by
  refine tabOk_of ?_
  simp only [C_spec_l1Mutate, List.forall_mem_cons]
  exact ⟨k_spec_l17Rd_num, k_spec_l17Rd_pick, k_spec_l1Copy, fun p h => by cases h⟩

theorem k_spec_l1Mutate : Entry Tryz.prog 164 c_spec_l1Mutate := by
 refine entry_by (C := C_spec_l1Mutate) mixed tys_ok t_spec_l1Mutate (fn := Tryz.f164) (c := bd Tryz.f164) (by kernel_rfl) (by kernel_rfl) (by kernel_rfl) (by kernel_rfl) ?_
 intro args st k he
 unfold c_spec_l1Mutate at he
 split at he
 rotate_left
 ·exact he.elim
 rename_i c__0 c__1 r__0 r__1
 have he : Ok (spec_l1Mutate (c__0, c__1) (r__0, r__1)) (fun r => k (.agg [.own 901 false, .int .i64 r.2.1]) [(0, .rc [.imm (.int .u8) r.1.1, .int .i64 r.1.2]), (900, .rc [.own 901 false, .int .i64 r.2.1]), (901, .sl 155 y2_ r.2.2 .shallow)]) := he
 refine ⟨rfl, rfl, ?_⟩
 refine go_bind he fun r1_ he => ?_
 refine go_bind he fun r2_ he => ?_
 refine go_if he (fun he => ?_) fun he => ?_
 ·refine go_bind he fun r3_ he => ?_
  have he := ok_some he
  exact ⟨rfl, _, _, (leads_ren [(900, 4), (901, 9901)] (l := [(4, .c (.ptr 900 0))]) (st' := [(0, .rc [.imm (.int .u8) r3_.2.1, .int .i64 r3_.2.2]), (900, .rc [.own 901 false, .int .i64 r3_.1]), (901, .sl 155 y2_ r1_.2 .shallow)]) rfl rfl ⟨⟨.inl rfl, rfl, trivial⟩, ⟨⟨⟨rfl, rfl⟩, trivial⟩, rfl, trivial⟩, ⟨rfl, rfl⟩, trivial⟩ ⟨⟨⟨rfl, rfl⟩, rfl⟩, trivial⟩), he⟩
 ·refine go_if he (fun he => ?_) fun he => ?_
  ·refine go_if he (fun he => ?_) fun he => ?_
   ·refine And.intro (by kernel_rfl) ?_
    obtain ⟨r5_, hq1, he⟩ := ok_bind he
    have he := ok_rq he
    have hq2 := he.1
    have he := he.2
    refine And.intro ?_ (And.intro ?_ (trivial))
    ·skip
     refine And.intro ?_ trivial
     refine And.intro ?_ trivial
     refine ⟨r5_, hq1, ?_⟩
     refine And.intro hq2 ?_
     refine And.intro ?_ trivial
     have he := ok_some he
     exact ⟨rfl, _, _, (leads_ren [(900, 4), (901, 9901)] (l := [(4, .c (.ptr 900 0))]) (st' := [(0, .rc [.imm (.int .u8) r5_.2.1, .int .i64 r5_.2.2]), (900, .rc [.own 901 false, .int .i64 r1_.1]), (901, .sl 155 y2_ (r1_.2.set (0:Int).toNat (r5_.1, (r1_.2.getD (0:Int).toNat (0, 0)).2)) .shallow)]) rfl rfl ⟨⟨.inl rfl, rfl, trivial⟩, ⟨⟨⟨rfl, rfl⟩, trivial⟩, rfl, trivial⟩, ⟨rfl, rfl⟩, trivial⟩ ⟨⟨⟨rfl, rfl⟩, rfl⟩, trivial⟩), he⟩
    ·skip
     refine And.intro ?_ (And.intro ?_ (trivial))
     ·skip
      refine And.intro ?_ trivial
      refine ⟨r5_, hq1, ?_⟩
      refine And.intro hq2 ?_
      refine And.intro ?_ trivial
      have he := ok_some he
      exact ⟨rfl, _, _, (leads_ren [(900, 4), (901, 9901)] (l := [(4, .c (.ptr 900 0))]) (st' := [(0, .rc [.imm (.int .u8) r5_.2.1, .int .i64 r5_.2.2]), (900, .rc [.own 901 false, .int .i64 r1_.1]), (901, .sl 155 y2_ (r1_.2.set (0:Int).toNat (r5_.1, (r1_.2.getD (0:Int).toNat (0, 0)).2)) .shallow)]) rfl rfl ⟨⟨.inl rfl, rfl, trivial⟩, ⟨⟨⟨rfl, rfl⟩, trivial⟩, rfl, trivial⟩, ⟨rfl, rfl⟩, trivial⟩ ⟨⟨⟨rfl, rfl⟩, rfl⟩, trivial⟩), he⟩
     ·skip
      refine ⟨r5_, hq1, ?_⟩
      refine And.intro ?_ trivial
      refine And.intro hq2 ?_
      refine And.intro ?_ trivial
      have he := ok_some he
      exact ⟨rfl, _, _, (leads_ren [(900, 4), (901, 9901)] (l := [(4, .c (.ptr 900 0))]) (st' := [(0, .rc [.imm (.int .u8) r5_.2.1, .int .i64 r5_.2.2]), (900, .rc [.own 901 false, .int .i64 r1_.1]), (901, .sl 155 y2_ (r1_.2.set (0:Int).toNat (r5_.1, (r1_.2.getD (0:Int).toNat (0, 0)).2)) .shallow)]) rfl rfl ⟨⟨.inl rfl, rfl, trivial⟩, ⟨⟨⟨rfl, rfl⟩, trivial⟩, rfl, trivial⟩, ⟨rfl, rfl⟩, trivial⟩ ⟨⟨⟨rfl, rfl⟩, rfl⟩, trivial⟩), he⟩
   ·have he := ok_some he
    exact ⟨rfl, _, _, (leads_ren [(900, 4), (901, 9901)] (l := [(4, .c (.ptr 900 0))]) (st' := [(0, .rc [.imm (.int .u8) r2_.2.1, .int .i64 r2_.2.2]), (900, .rc [.own 901 false, .int .i64 r1_.1]), (901, .sl 155 y2_ r1_.2 .shallow)]) rfl rfl ⟨⟨.inl rfl, rfl, trivial⟩, ⟨⟨⟨rfl, rfl⟩, trivial⟩, rfl, trivial⟩, ⟨rfl, rfl⟩, trivial⟩ ⟨⟨⟨rfl, rfl⟩, rfl⟩, trivial⟩), he⟩
  ·refine go_if he (fun he => ?_) fun he => ?_
   ·refine go_if he (fun he => ?_) fun he => ?_
    ·refine And.intro (by kernel_rfl) ?_
     refine go_rq he fun he => ?_
     obtain ⟨r7_, hq1, he⟩ := ok_bind he
     have he := ok_rq he
     have hq2 := he.1
     have he := he.2
     refine And.intro ?_ (And.intro ?_ (trivial))
     ·skip
      refine And.intro ?_ trivial
      refine And.intro ?_ trivial
      refine ⟨r7_, hq1, ?_⟩
      refine And.intro hq2 ?_
      refine And.intro ?_ trivial
      have he := ok_some he
      exact ⟨rfl, _, _, (leads_ren [(900, 4), (901, 9901)] (l := [(4, .c (.ptr 900 0))]) (st' := [(0, .rc [.imm (.int .u8) r7_.2.1, .int .i64 r7_.2.2]), (900, .rc [.own 901 false, .int .i64 r1_.1]), (901, .sl 155 y2_ (r1_.2.set ((r1_.2.length:Int) - (1:Int)).toNat ((r1_.2.getD ((r1_.2.length:Int) - (1:Int)).toNat (0, 0)).1, r7_.1)) .shallow)]) rfl rfl ⟨⟨.inl rfl, rfl, trivial⟩, ⟨⟨⟨rfl, rfl⟩, trivial⟩, rfl, trivial⟩, ⟨rfl, rfl⟩, trivial⟩ ⟨⟨⟨rfl, rfl⟩, rfl⟩, trivial⟩), he⟩
     ·skip
      refine And.intro ?_ (And.intro ?_ (trivial))
      ·skip
       refine And.intro ?_ trivial
       refine ⟨r7_, hq1, ?_⟩
       refine And.intro hq2 ?_
       refine And.intro ?_ trivial
       have he := ok_some he
       exact ⟨rfl, _, _, (leads_ren [(900, 4), (901, 9901)] (l := [(4, .c (.ptr 900 0))]) (st' := [(0, .rc [.imm (.int .u8) r7_.2.1, .int .i64 r7_.2.2]), (900, .rc [.own 901 false, .int .i64 r1_.1]), (901, .sl 155 y2_ (r1_.2.set ((r1_.2.length:Int) - (1:Int)).toNat ((r1_.2.getD ((r1_.2.length:Int) - (1:Int)).toNat (0, 0)).1, r7_.1)) .shallow)]) rfl rfl ⟨⟨.inl rfl, rfl, trivial⟩, ⟨⟨⟨rfl, rfl⟩, trivial⟩, rfl, trivial⟩, ⟨rfl, rfl⟩, trivial⟩ ⟨⟨⟨rfl, rfl⟩, rfl⟩, trivial⟩), he⟩
      ·skip
       refine ⟨r7_, hq1, ?_⟩
       refine And.intro ?_ trivial
       refine And.intro hq2 ?_
       refine And.intro ?_ trivial
       have he := ok_some he
       exact ⟨rfl, _, _, (leads_ren [(900, 4), (901, 9901)] (l := [(4, .c (.ptr 900 0))]) (st' := [(0, .rc [.imm (.int .u8) r7_.2.1, .int .i64 r7_.2.2]), (900, .rc [.own 901 false, .int .i64 r1_.1]), (901, .sl 155 y2_ (r1_.2.set ((r1_.2.length:Int) - (1:Int)).toNat ((r1_.2.getD ((r1_.2.length:Int) - (1:Int)).toNat (0, 0)).1, r7_.1)) .shallow)]) rfl rfl ⟨⟨.inl rfl, rfl, trivial⟩, ⟨⟨⟨rfl, rfl⟩, trivial⟩, rfl, trivial⟩, ⟨rfl, rfl⟩, trivial⟩ ⟨⟨⟨rfl, rfl⟩, rfl⟩, trivial⟩), he⟩
    ·have he := ok_some he
     exact ⟨rfl, _, _, (leads_ren [(900, 4), (901, 9901)] (l := [(4, .c (.ptr 900 0))]) (st' := [(0, .rc [.imm (.int .u8) r2_.2.1, .int .i64 r2_.2.2]), (900, .rc [.own 901 false, .int .i64 r1_.1]), (901, .sl 155 y2_ r1_.2 .shallow)]) rfl rfl ⟨⟨.inl rfl, rfl, trivial⟩, ⟨⟨⟨rfl, rfl⟩, trivial⟩, rfl, trivial⟩, ⟨rfl, rfl⟩, trivial⟩ ⟨⟨⟨rfl, rfl⟩, rfl⟩, trivial⟩), he⟩
   ·refine go_if he (fun he => ?_) fun he => ?_
    ·refine go_rq he fun he => ?_
     have he := ok_some he
     exact ⟨rfl, _, _, (leads_ren [(900, 4), (901, 50)] (l := [(4, .c (.ptr 900 0))]) (st' := [(0, .rc [.imm (.int .u8) r2_.2.1, .int .i64 r2_.2.2]), (900, .rc [.own 901 false, .int .i64 r1_.1]), (901, .sl 155 y2_ (r1_.2 ++ [((1:Int), (1:Int))]) .shallow)]) rfl rfl ⟨⟨.inl rfl, rfl, trivial⟩, ⟨⟨⟨rfl, rfl⟩, trivial⟩, rfl, trivial⟩, ⟨rfl, rfl⟩, trivial⟩ ⟨⟨⟨rfl, rfl⟩, rfl⟩, trivial⟩), he⟩
    ·have he := ok_some he
     exact ⟨rfl, _, _, (leads_ren [(900, 4), (901, 9901)] (l := [(4, .c (.ptr 900 0))]) (st' := [(0, .rc [.imm (.int .u8) r2_.2.1, .int .i64 r2_.2.2]), (900, .rc [.own 901 false, .int .i64 r1_.1]), (901, .sl 155 y2_ r1_.2 .shallow)]) rfl rfl ⟨⟨.inl rfl, rfl, trivial⟩, ⟨⟨⟨rfl, rfl⟩, trivial⟩, rfl, trivial⟩, ⟨rfl, rfl⟩, trivial⟩ ⟨⟨⟨rfl, rfl⟩, rfl⟩, trivial⟩), he⟩

noncomputable def c_spec_l3Mutate : Con := fun args st => match args, st with
  | [.c (.ptr 0 0), .c (.imm (.pair (.sl (.pair (.int .i64) (.int .i64))) (.int .i64)) list_)], [(0, .rc [.imm (.int .u8) r__0, .int .i64 r__1])] => .opt (D1_ × (List D3_)) (spec_l3Mutate list_ (r__0, r__1)) (fun r => .ret (.c (.own 900 false)) [(0, .rc [.imm (.int .u8) r.1.1, .int .i64 r.1.2]), (900, .sl 89 y3_ r.2 .shallow)])
  | _, _ => .fail

noncomputable def C_spec_l3Mutate : Cfg := { y := tys, n := 36, h := 1, tab := [(87, c_spec_l17Rd_pick), (164, c_spec_l1Mutate)], cut := [], hand := [], good := [], deep := [], sched := [] }

theorem t_spec_l3Mutate : TabOk Tryz.prog C_spec_l3Mutate := by
  refine tabOk_of ?_
  simp only [C_spec_l3Mutate, List.forall_mem_cons]
  exact ⟨k_spec_l17Rd_pick, k_spec_l1Mutate, fun p h => by cases h⟩

theorem k_spec_l3Mutate : Entry Tryz.prog 104 c_spec_l3Mutate := by
 refine entry_by (C := C_spec_l3Mutate) mixed tys_ok t_spec_l3Mutate (fn := Tryz.f104) (c := bd Tryz.f104) (by kernel_rfl) (by kernel_rfl) (by kernel_rfl) (by kernel_rfl) ?_
 intro args st k he
 unfold c_spec_l3Mutate at he
 split at he
 rotate_left
 ·exact he.elim
 rename_i list_ r__0 r__1
 have he : Ok (spec_l3Mutate list_ (r__0, r__1)) (fun r => k (.c (.own 900 false)) [(0, .rc [.imm (.int .u8) r.1.1, .int .i64 r.1.2]), (900, .sl 89 y3_ r.2 .shallow)]) := he
 refine ⟨rfl, rfl, ?_⟩
 refine go_rq he fun he => ?_
 refine go_if he (fun he => ?_) fun he => ?_
 ·refine go_bind he fun r1_ he => ?_
  refine go_if he (fun he => ?_) fun he => ?_
  ·refine go_bind he fun r2_ he => ?_
   refine go_rq he fun he => ?_
   refine go_bind he fun r3_ he => ?_
   refine go_bind he fun r4_ he => ?_
   refine go_bind he fun r5_ he => ?_
   refine go_rq he fun he => ?_
   have he := ok_some he
   exact ⟨rfl, _, _, (leads_ren [(900, 9)] (l := [(4, .c (.own 900 false))]) (st' := [(0, .rc [.imm (.int .u8) r5_.1.1, .int .i64 r5_.1.2]), (900, .sl 89 y3_ ((([] : List D3_) ++ list_).set r2_.1.toNat (r5_.2.2, r5_.2.1)) .shallow)]) rfl rfl ⟨⟨.inl rfl, rfl, trivial⟩, ⟨rfl, rfl⟩, trivial⟩ ⟨⟨⟨rfl, rfl⟩, trivial⟩, trivial⟩), he⟩
  ·have he := ok_some he
   exact ⟨rfl, _, _, (leads_ren [(900, 9)] (l := [(4, .c (.own 900 false))]) (st' := [(0, .rc [.imm (.int .u8) r1_.2.1, .int .i64 r1_.2.2]), (900, .sl 89 y3_ (([] : List D3_) ++ list_) .shallow)]) rfl rfl ⟨⟨.inl rfl, rfl, trivial⟩, ⟨rfl, rfl⟩, trivial⟩ ⟨⟨⟨rfl, rfl⟩, trivial⟩, trivial⟩), he⟩
 ·have he := ok_some he
  exact ⟨rfl, _, _, (leads_ren [(900, 9)] (l := [(4, .c (.own 900 false))]) (st' := [(0, .rc [.imm (.int .u8) (r__0, r__1).1, .int .i64 (r__0, r__1).2]), (900, .sl 89 y3_ (([] : List D3_) ++ list_) .shallow)]) rfl rfl ⟨⟨.inl rfl, rfl, trivial⟩, ⟨rfl, rfl⟩, trivial⟩ ⟨⟨⟨rfl, rfl⟩, trivial⟩, trivial⟩), he⟩

noncomputable def c_spec_DrawMinimalCore : Con := fun args st => match args, st with
  | [.c (.imm (.int .u8) code)], [] => .opt ((List D3_)) (spec_DrawMinimalCore code) (fun r => .ret (.c (.own 900 false)) [(900, .sl 89 y3_ r .shallow)])
  | _, _ => .fail

noncomputable def C_spec_DrawMinimalCore : Cfg := { y := tys, n := 10, h := 0, tab := [(50, c_spec_l17Open), (104, c_spec_l3Mutate), (105, c_spec_l11Closed)], cut := [], hand := [], good := [], deep := [], sched := [] }

theorem t_spec_DrawMinimalCore : TabOk Tryz.prog C_spec_DrawMinimalCore := by
  refine tabOk_of ?_
  simp only [C_spec_DrawMinimalCore, List.forall_mem_cons]
  exact ⟨k_spec_l17Open, k_spec_l3Mutate, k_spec_l11Closed, fun p h => by cases h⟩

theorem k_spec_DrawMinimalCore : Entry Tryz.prog 41 c_spec_DrawMinimalCore := by
 refine entry_by (C := C_spec_DrawMinimalCore) mixed tys_ok t_spec_DrawMinimalCore (fn := Tryz.f41) (c := bd Tryz.f41) (by kernel_rfl) (by kernel_rfl) (by kernel_rfl) (by kernel_rfl) ?_
 intro args st k he
 unfold c_spec_DrawMinimalCore at he
 split at he
 rotate_left
 ·exact he.elim
 rename_i code
 have he : Ok (spec_DrawMinimalCore code) (fun r => k (.c (.own 900 false)) [(900, .sl 89 y3_ r .shallow)]) := he
 refine ⟨rfl, rfl, ?_⟩
 refine go_bind he fun r1_ he => ?_
 refine go_bind he fun r2_ he => ?_
 refine go_bind he fun r3_ he => ?_
 have he := ok_some he
 exact ⟨rfl, _, _, (leads_ren [(900, 10900)] (l := [(2, .c (.own 900 false))]) (st' := [(900, .sl 89 y3_ r3_.2 .shallow)]) rfl rfl ⟨⟨rfl, rfl⟩, trivial⟩ ⟨⟨⟨rfl, rfl⟩, trivial⟩, trivial⟩), he⟩

noncomputable def c_impl_within : Con := fun args st => match args, st with
  | [.c (.int .i64 n), .c (.int .i64 low), .c (.int .i64 high)], [] => .opt (Bool) (impl_within n low high) (fun r => .ret (.c (.bool r)) [])
  | _, _ => .fail

noncomputable def C_impl_within : Cfg := { y := tys, n := 15, h := 0, tab := [], cut := [], hand := [], good := [], deep := [], sched := [] }

theorem t_impl_within : TabOk Tryz.prog C_impl_within := tabOk_of (fun p h => by cases h)

theorem k_impl_within : Entry Tryz.prog 127 c_impl_within := by
 refine entry_by (C := C_impl_within) mixed tys_ok t_impl_within (fn := Tryz.f127) (c := bd Tryz.f127) (by kernel_rfl) (by kernel_rfl) (by kernel_rfl) (by kernel_rfl) ?_
 intro args st k he
 unfold c_impl_within at he
 split at he
 rotate_left
 ·exact he.elim
 rename_i n low high
 have he : Ok (impl_within n low high) (fun r => k (.c (.bool r)) []) := he
 refine ⟨rfl, rfl, ?_⟩
 refine go_if he (fun he => ?_) fun he => ?_
 ·have he := ok_some he
  exact ⟨rfl, _, _, Leads.refl _ _, he⟩
 ·have he := ok_some he
  exact ⟨rfl, _, _, Leads.refl _ _, he⟩

noncomputable def c_impl_isLiteral : Con := fun args st => match args, st with
  | [.c (.int .i64 l)], [] => .opt (Bool) (impl_isLiteral l) (fun r => .ret (.c (.bool r)) [])
  | _, _ => .fail

noncomputable def C_impl_isLiteral : Cfg := { y := tys, n := 9, h := 0, tab := [(127, c_impl_within)], cut := [], hand := [], good := [], deep := [], sched := [] }

theorem t_impl_isLiteral : TabOk Tryz.prog C_impl_isLiteral := by
  refine tabOk_of ?_
  simp only [C_impl_isLiteral, List.forall_mem_cons]
  exact ⟨k_impl_within, fun p h => by cases h⟩

theorem k_impl_isLiteral : Entry Tryz.prog 177 c_impl_isLiteral := by
 refine entry_by (C := C_impl_isLiteral) mixed tys_ok t_impl_isLiteral (fn := Tryz.f177) (c := bd Tryz.f177) (by kernel_rfl) (by kernel_rfl) (by kernel_rfl) (by kernel_rfl) ?_
 intro args st k he
 unfold c_impl_isLiteral at he
 split at he
 rotate_left
 ·exact he.elim
 rename_i l
 have he : Ok (impl_isLiteral l) (fun r => k (.c (.bool r)) []) := he
 refine ⟨rfl, rfl, ?_⟩
 refine go_if he (fun he => ?_) fun he => ?_
 ·refine go_bind he fun r1_ he => ?_
  have he := ok_some he
  exact ⟨rfl, _, _, Leads.refl _ _, he⟩
 ·have he := ok_some he
  exact ⟨rfl, _, _, Leads.refl _ _, he⟩

noncomputable def c_impl_variableOf : Con := fun args st => match args, st with
  | [.c (.int .i64 l)], [] => .opt (Int) (impl_variableOf l) (fun r => .ret (.c (.int .i64 r)) [])
  | _, _ => .fail

noncomputable def C_impl_variableOf : Cfg := { y := tys, n := 7, h := 0, tab := [], cut := [], hand := [], good := [], deep := [], sched := [] }

theorem t_impl_variableOf : TabOk Tryz.prog C_impl_variableOf := tabOk_of (fun p h => by cases h)

theorem k_impl_variableOf : Entry Tryz.prog 170 c_impl_variableOf := by
 refine entry_by (C := C_impl_variableOf) mixed tys_ok t_impl_variableOf (fn := Tryz.f170) (c := bd Tryz.f170) (by kernel_rfl) (by kernel_rfl) (by kernel_rfl) (by kernel_rfl) ?_
 intro args st k he
 unfold c_impl_variableOf at he
 split at he
 rotate_left
 ·exact he.elim
 rename_i l
 have he : Ok (impl_variableOf l) (fun r => k (.c (.int .i64 r)) []) := he
 refine ⟨rfl, rfl, ?_⟩
 refine go_rq he fun he => ?_
 have he := ok_some he
 exact ⟨rfl, _, _, Leads.refl _ _, he⟩

noncomputable def c_impl_ConstraintValid : Con := fun args st => match args, st with
  | [.agg [.imm (.pair (.int .i64) (.int .i64)) c__0, .int .i64 c__1]], [] => .opt (Bool) (impl_ConstraintValid (c__0, c__1)) (fun r => .ret (.c (.bool r)) [])
  | _, _ => .fail

noncomputable def C_impl_ConstraintValid : Cfg := { y := tys, n := 37, h := 0, tab := [(127, c_impl_within), (170, c_impl_variableOf), (177, c_impl_isLiteral)], cut := [], hand := [], good := [], deep := [], sched := [] }

theorem t_impl_ConstraintValid : TabOk Tryz.prog C_impl_ConstraintValid := by
  refine tabOk_of ?_
  simp only [C_impl_ConstraintValid, List.forall_mem_cons]
  exact ⟨k_impl_within, k_impl_variableOf, k_impl_isLiteral, fun p h => by cases h⟩

theorem k_impl_ConstraintValid : Entry Tryz.prog 223 c_impl_ConstraintValid := by
 refine entry_by (C := C_impl_ConstraintValid) mixed tys_ok t_impl_ConstraintValid (fn := Tryz.f223) (c := bd Tryz.f223) (by kernel_rfl) (by kernel_rfl) (by kernel_rfl) (by kernel_rfl) ?_
 intro args st k he
 unfold c_impl_ConstraintValid at he
 split at he
 rotate_left
 ·exact he.elim
 rename_i c__0 c__1
 have he : Ok (impl_ConstraintValid (c__0, c__1)) (fun r => k (.c (.bool r)) []) := he
 refine ⟨rfl, rfl, ?_⟩
 refine loop_model mixed tys_ok t_impl_ConstraintValid (S := Int × Int) (I := (fun (before, i) => (envOf [(1, .c (.ptr 10000000 0)), (3, .c (.int .i64 before)), (7, .c (.imm y2_ (c__0, c__1).1)), (8, .c (.int .i64 ((c__0, c__1).1.length:Int))), (9, .c (.int .i64 i))], [(10000000, .rc [.imm y2_ (c__0, c__1).1, .int .i64 (c__0, c__1).2])]))) (f := impl_ConstraintValid_l1 (c__0, c__1)) (K := (fun r => k (.c (.bool r)) [])) he (leads_ren [(10000000, 1)] rfl rfl ⟨⟨.inl rfl, rfl, trivial⟩, trivial⟩ ⟨⟨⟨rfl, rfl⟩, rfl⟩, rfl, .inl rfl, rfl, rfl, trivial⟩) ?_
 rintro ⟨before, i⟩ J1 he
 refine go_if he (fun he => ?_) fun he => ?_
 ·refine go_rq he fun he => ?_
  refine go_bind he fun r1_ he => ?_
  refine go_if2 he (fun he => ?_) fun he => ?_
  ·refine go_bind he fun r2_ he => ?_
   refine go_if2 he (fun he => ?_) fun he => ?_
   ·refine go_bind he fun r3_ he => ?_
    refine go_if he (fun he => ?_) fun he => ?_
    ·have he := ok_some he
     exact ⟨rfl, _, _, (leads_ren [] (l := [(2, .c (.bool false))]) (st' := []) rfl rfl trivial ⟨.inr rfl, trivial⟩), he⟩
    ·refine go_bind he fun r4_ he => ?_
     refine go_rq he fun he => ?_
     have he := ok_some he
     exact ⟨(r4_, (i + (1:Int))), he, (leads_ren [] rfl rfl ⟨⟨.inl rfl, rfl, trivial⟩, trivial⟩ ⟨⟨⟨rfl, rfl⟩, rfl⟩, rfl, .inl rfl, rfl, rfl, trivial⟩)⟩
   ·have he := ok_some he
    exact ⟨rfl, _, _, (leads_ren [] (l := [(2, .c (.bool false))]) (st' := []) rfl rfl trivial ⟨.inr rfl, trivial⟩), he⟩
  ·have he := ok_some he
   exact ⟨rfl, _, _, (leads_ren [] (l := [(2, .c (.bool false))]) (st' := []) rfl rfl trivial ⟨.inr rfl, trivial⟩), he⟩
 ·refine go_bind he fun r5_ he => ?_
  have he := ok_some he
  exact ⟨rfl, _, _, (leads_ren [] (l := [(2, .c (.bool r5_))]) (st' := []) rfl rfl trivial ⟨.inl rfl, trivial⟩), he⟩

noncomputable def c_impl_allValid_1 : Con := fun args st => match args, st with
  | [.agg [.imm (.pair (.int .i64) (.int .i64)) c__0, .int .i64 c__1]], [] => .opt (Bool) (impl_allValid_1 (c__0, c__1)) (fun r => .ret (.c (.bool r)) [])
  | _, _ => .fail

noncomputable def C_impl_allValid_1 : Cfg := { y := tys, n := 6, h := 0, tab := [(223, c_impl_ConstraintValid)], cut := [], hand := [], good := [], deep := [], sched := [] }

theorem t_impl_allValid_1 : TabOk Tryz.prog C_impl_allValid_1 := by
  refine tabOk_of ?_
  simp only [C_impl_allValid_1, List.forall_mem_cons]
  exact ⟨k_impl_ConstraintValid, fun p h => by cases h⟩

theorem k_impl_allValid_1 : Entry Tryz.prog 222 c_impl_allValid_1 := by
 refine entry_by (C := C_impl_allValid_1) mixed tys_ok t_impl_allValid_1 (fn := Tryz.f222) (c := bd Tryz.f222) (by kernel_rfl) (by kernel_rfl) (by kernel_rfl) (by kernel_rfl) ?_
 intro args st k he
 unfold c_impl_allValid_1 at he
 split at he
 rotate_left
 ·exact he.elim
 rename_i c__0 c__1
 have he : Ok (impl_allValid_1 (c__0, c__1)) (fun r => k (.c (.bool r)) []) := he
 refine ⟨rfl, rfl, ?_⟩
 refine go_bind he fun r1_ he => ?_
 have he := ok_some he
 exact ⟨rfl, _, _, (leads_ren [] (l := [(2, .c (.bool (!r1_)))]) (st' := []) rfl rfl trivial ⟨.inl rfl, trivial⟩), he⟩

noncomputable def c_slices_IndexFunc_impl_Constraint__impl_allValid_1 : Con := fun args st => match args, st with
  | [.c (.imm (.pair (.sl (.pair (.int .i64) (.int .i64))) (.int .i64)) s_), .c (.fn 222 [])], [] => .opt (Int) (slices_IndexFunc_impl_Constraint__impl_allValid_1 s_) (fun r => .ret (.c (.int .i64 r)) [])
  | _, _ => .fail

noncomputable def C_slices_IndexFunc_impl_Constraint__impl_allValid_1 : Cfg := { y := tys, n := 19, h := 0, tab := [(222, c_impl_allValid_1)], cut := [], hand := [], good := [], deep := [], sched := [] }

theorem t_slices_IndexFunc_impl_Constraint__impl_allValid_1 : TabOk Tryz.prog C_slices_IndexFunc_impl_Constraint__impl_allValid_1 := by
  refine tabOk_of ?_
  simp only [C_slices_IndexFunc_impl_Constraint__impl_allValid_1, List.forall_mem_cons]
  exact ⟨k_impl_allValid_1, fun p h => by cases h⟩

theorem k_slices_IndexFunc_impl_Constraint__impl_allValid_1 : Entry Tryz.prog 225 c_slices_IndexFunc_impl_Constraint__impl_allValid_1 := by
 refine entry_by (C := C_slices_IndexFunc_impl_Constraint__impl_allValid_1) mixed tys_ok t_slices_IndexFunc_impl_Constraint__impl_allValid_1 (fn := Tryz.f225) (c := bd Tryz.f225) (by kernel_rfl) (by kernel_rfl) (by kernel_rfl) (by kernel_rfl) ?_
 intro args st k he
 unfold c_slices_IndexFunc_impl_Constraint__impl_allValid_1 at he
 split at he
 rotate_left
 ·exact he.elim
 rename_i s_
 have he : Ok (slices_IndexFunc_impl_Constraint__impl_allValid_1 s_) (fun r => k (.c (.int .i64 r)) []) := he
 refine ⟨rfl, rfl, ?_⟩
 refine loop_model mixed tys_ok t_slices_IndexFunc_impl_Constraint__impl_allValid_1 (S := Int) (I := (fun i => (envOf [(0, .c (.imm y3_ s_)), (1, .c (.fn 222 [])), (7, .c (.int .i64 (s_.length:Int))), (8, .c (.int .i64 i))], []))) (f := slices_IndexFunc_impl_Constraint__impl_allValid_1_l1 s_) (K := (fun r => k (.c (.int .i64 r)) [])) he (leads_ren [] rfl rfl trivial ⟨.inl rfl, ⟨rfl, trivial⟩, rfl, rfl, trivial⟩) ?_
 rintro i J1 he
 refine go_if he (fun he => ?_) fun he => ?_
 ·refine go_rq he fun he => ?_
  refine go_bind he fun r1_ he => ?_
  refine go_if he (fun he => ?_) fun he => ?_
  ·have he := ok_some he
   exact ⟨rfl, _, _, Leads.refl _ _, he⟩
  ·refine go_rq he fun he => ?_
   have he := ok_some he
   exact ⟨(i + (1:Int)), he, (leads_ren [] rfl rfl trivial ⟨.inl rfl, ⟨rfl, trivial⟩, rfl, rfl, trivial⟩)⟩
 ·have he := ok_some he
  exact ⟨rfl, _, _, Leads.refl _ _, he⟩

noncomputable def c_slices_ContainsFunc_impl_Constraint__impl_allValid_1 : Con := fun args st => match args, st with
  | [.c (.imm (.pair (.sl (.pair (.int .i64) (.int .i64))) (.int .i64)) s_), .c (.fn 222 [])], [] => .opt (Bool) (slices_ContainsFunc_impl_Constraint__impl_allValid_1 s_) (fun r => .ret (.c (.bool r)) [])
  | _, _ => .fail

noncomputable def C_slices_ContainsFunc_impl_Constraint__impl_allValid_1 : Cfg := { y := tys, n := 9, h := 0, tab := [(225, c_slices_IndexFunc_impl_Constraint__impl_allValid_1)], cut := [], hand := [], good := [], deep := [], sched := [] }

theorem t_slices_ContainsFunc_impl_Constraint__impl_allValid_1 : TabOk Tryz.prog C_slices_ContainsFunc_impl_Constraint__impl_allValid_1 := by
  refine tabOk_of ?_
  simp only [C_slices_ContainsFunc_impl_Constraint__impl_allValid_1, List.forall_mem_cons]
  exact ⟨k_slices_IndexFunc_impl_Constraint__impl_allValid_1, fun p h => by cases h⟩

theorem k_slices_ContainsFunc_impl_Constraint__impl_allValid_1 : Entry Tryz.prog 161 c_slices_ContainsFunc_impl_Constraint__impl_allValid_1 := by
 refine entry_by (C := C_slices_ContainsFunc_impl_Constraint__impl_allValid_1) mixed tys_ok t_slices_ContainsFunc_impl_Constraint__impl_allValid_1 (fn := Tryz.f161) (c := bd Tryz.f161) (by kernel_rfl) (by kernel_rfl) (by kernel_rfl) (by kernel_rfl) ?_
 intro args st k he
 unfold c_slices_ContainsFunc_impl_Constraint__impl_allValid_1 at he
 split at he
 rotate_left
 ·exact he.elim
 rename_i s_
 have he : Ok (slices_ContainsFunc_impl_Constraint__impl_allValid_1 s_) (fun r => k (.c (.bool r)) []) := he
 refine ⟨rfl, rfl, ?_⟩
 refine go_bind he fun r1_ he => ?_
 have he := ok_some he
 exact ⟨rfl, _, _, Leads.refl _ _, he⟩

noncomputable def c_impl_allValid : Con := fun args st => match args, st with
  | [.c (.imm (.pair (.sl (.pair (.int .i64) (.int .i64))) (.int .i64)) list_)], [] => .opt (Bool) (impl_allValid list_) (fun r => .ret (.c (.bool r)) [])
  | _, _ => .fail

noncomputable def C_impl_allValid : Cfg := { y := tys, n := 6, h := 0, tab := [(161, c_slices_ContainsFunc_impl_Constraint__impl_allValid_1)], cut := [], hand := [], good := [], deep := [], sched := [] }

theorem t_impl_allValid : TabOk Tryz.prog C_impl_allValid := by
  refine tabOk_of ?_
  simp only [C_impl_allValid, List.forall_mem_cons]
  exact ⟨k_slices_ContainsFunc_impl_Constraint__impl_allValid_1, fun p h => by cases h⟩

theorem k_impl_allValid : Entry Tryz.prog 159 c_impl_allValid := by
 refine entry_by (C := C_impl_allValid) mixed tys_ok t_impl_allValid (fn := Tryz.f159) (c := bd Tryz.f159) (by kernel_rfl) (by kernel_rfl) (by kernel_rfl) (by kernel_rfl) ?_
 intro args st k he
 unfold c_impl_allValid at he
 split at he
 rotate_left
 ·exact he.elim
 rename_i list_
 have he : Ok (impl_allValid list_) (fun r => k (.c (.bool r)) []) := he
 refine ⟨rfl, rfl, ?_⟩
 refine go_bind he fun r1_ he => ?_
 have he := ok_some he
 exact ⟨rfl, _, _, Leads.refl _ _, he⟩

end Go.AE.Y
