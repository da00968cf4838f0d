/-
  Walks: each function keeps the contract that its model gives. No conditions.
-/
import Derived.Test.YtgpinbepiniogaaGreatDoorRATab
import Derived.Test.YtgpinbepiniogaaGreatDoorRAW1
import Derived.Test.YtgpinbepiniogaaGreatDoorRAS
namespace Go.AE.Y
open Go Go.AE Go.Proofs
set_option linter.unusedVariables false
set_option maxHeartbeats 2000000
set_option maxRecDepth 100000

noncomputable def c_spec_l6Ints : Con := fun
  | [.c (.imm (.int .i64) a), .c (.imm (.int .i64) b)], [] => .opt _ (spec_l6Ints a b) (fun r => .ret (.c (.bool r)) [])
  | _, _ => .fail

noncomputable def C_spec_l6Ints : Cfg := { y := tys, n := 26, h := 0, tab := [] }

theorem wkz_24 {P : Prop} (h : P := by
  rintro i _ he
  refine go_if he (fun he => ?_) fun he => ?_
  ·refine And.intro (by kernel_rfl) ?_
   refine go_rq he fun he => ?_
   refine go_rq he fun he => ?_
   exact wkz_4
  ·exact wkz_1) : P := h

theorem k_spec_l6Ints : Entry Tryz.prog 105 c_spec_l6Ints := by
 refine wkEnt (C := C_spec_l6Ints) Tryz.f105 wkNil fun _ a b k he => ?_
 unfold c_spec_l6Ints at he; split at he; rotate_left; exact he.elim
 rename_i a b
 refine wkGo0 he fun he => ?_
 refine go_if he (fun he => ?_) fun he => ?_
 ·exact wkz_1
 ·refine wkLoop (spec_l6Ints_l1 a b) (fun i => (envOf [(0, .c (.imm y0_ a)), (1, .c (.imm y0_ b)), (5, .c (.int .i64 i))], [])) he (leads_au []) ?_
  exact wkz_24

noncomputable def c_spec_l10Less : Con := fun
  | [.c (.imm (.int .i64) a), .c (.imm (.int .i64) b)], [] => .opt _ (spec_l10Less a b) (fun r => .ret (.c (.bool r)) [])
  | _, _ => .fail

noncomputable def C_spec_l10Less : Cfg := { y := tys, n := 36, h := 0, tab := [] }

theorem wkz_25 {P : Prop} (h : P := by
  refine go_rq he fun he => ?_
  refine go_rq he fun he => ?_
  exact wkz_1) : P := h

theorem k_spec_l10Less : Entry Tryz.prog 129 c_spec_l10Less := by
 refine wkEnt (C := C_spec_l10Less) Tryz.f129 wkNil fun _ a b k he => ?_
 unfold c_spec_l10Less at he; split at he; rotate_left; exact he.elim
 rename_i a b
 refine wkGo0 he fun he => ?_
 refine wkLoop (spec_l10Less_l1 a b) (fun i => (envOf [(0, .c (.imm y0_ a)), (1, .c (.imm y0_ b)), (5, .c (.int .i64 i))], [])) he (leads_au []) ?_
 rintro i _ he
 refine go_if he (fun he => ?_) fun he => ?_
 ·refine go_if he (fun he => ?_) fun he => ?_
  ·refine And.intro (by kernel_rfl) ?_
   refine go_rq he fun he => ?_
   refine go_rq he fun he => ?_
   refine go_if he (fun he => ?_) fun he => ?_
   ·refine And.intro (by kernel_rfl) ?_
    exact wkz_25
   ·exact wkz_3
  ·exact wkz_1
 ·exact wkz_1

noncomputable def c_spec_l10Insert : Con := fun
  | [.c (.imm (.sl (.int .i64)) rows), .c (.imm (.int .i64) row)], [] => .opt _ (spec_l10Insert rows row) (fun r => .ret (.c (.imm (.sl y0_) r)) [])
  | _, _ => .fail

noncomputable def C_spec_l10Insert : Cfg := { y := tys, n := 50, h := 0, tab := [(105, c_spec_l6Ints), (129, c_spec_l10Less)], cut := [11, 12] }

theorem k_spec_l10Insert : Entry Tryz.prog 107 c_spec_l10Insert := by
 refine wkEnt (C := C_spec_l10Insert) Tryz.f107 (wkTab k_spec_l6Ints (wkTab k_spec_l10Less wkNil)) fun _ a b k he => ?_
 unfold c_spec_l10Insert at he; split at he; rotate_left; exact he.elim
 rename_i rows row
 refine wkGo0 he fun he => ?_
 refine wkSeq (spec_l10Insert_j1 row) (fun (done3, out3) => (envOf [(1, .c (.imm y0_ row)), (5, .c (.own 10003000 false)), (6, .c (.bool done3))], [(10003000, .sl 22 (.sl y0_) out3 .shallow)])) he ?_ ?_
 ·rintro ⟨done3, out3⟩ he
  refine go_if he (fun he => ?_) fun he => ?_
  ·refine go_rq he fun he => ?_
   exact wkRet [(4, [])] (ok_some he :) ((leads_freeze [48]).trans (leads_au [] (l := [(4, .c (.imm (.sl y0_) (out3 ++ [row])))]) (st' := [])))
  ·exact wkRet [(4, [])] (ok_some he :) ((leads_freeze [10003000]).trans (leads_au [] (l := [(4, .c (.imm (.sl y0_) out3))]) (st' := [])))
 ·skip
  refine wkLoop (spec_l10Insert_l1 rows row) (fun (done, i, out1) => (envOf [(0, .c (.imm (.sl y0_) rows)), (1, .c (.imm y0_ row)), (5, .c (.own 10000000 false)), (6, .c (.bool done)), (7, .c (.int .i64 i))], [(10000000, .sl 22 (.sl y0_) out1 .shallow)])) he (leads_au [(10000000, 8)]) ?_
  rintro ⟨done, i, out1⟩ _ he
  refine go_if he (fun he => ?_) fun he => ?_
  ·refine go_rq he fun he => ?_
   refine go_bind he fun r3_ he => ?_
   refine go_if he (fun he => ?_) fun he => ?_
   ·exact wkz_7
   ·refine wkSeq (spec_l10Insert_j2 rows i) (fun (done2, out2) => (envOf [(0, .c (.imm (.sl y0_) rows)), (1, .c (.imm y0_ row)), (5, .c (.own 10002000 false)), (6, .c (.bool done2)), (7, .c (.int .i64 i))], [(10002000, .sl 22 (.sl y0_) out2 .shallow)])) he ?_ ?_
    ·rintro ⟨done2, out2⟩ he
     refine go_rq he fun he => ?_
     refine go_rq he fun he => ?_
     refine go_rq he fun he => ?_
     exact ⟨_, (ok_some he :), (leads_au [(10000000, 42)])⟩
    ·skip
     refine go_if he (fun he => ?_) fun he => ?_
     ·refine go_rq he fun he => ?_
      refine go_bind he fun r4_ he => ?_
      refine go_if he (fun he => ?_) fun he => ?_
      ·refine go_rq he fun he => ?_
       exact ⟨_, he, (leads_au [(10002000, 35)])⟩
      ·exact ⟨_, he, (leads_au [(10002000, 10000000)])⟩
     ·exact ⟨_, he, (leads_au [(10002000, 10000000)])⟩
  ·exact ⟨_, (ok_up he :), (leads_au [(10003000, 10000000)])⟩

noncomputable def c_spec_l10Canonical : Con := fun
  | [.agg [.int .i64 a0_0, .imm (.int .i64) a0_1, .imm (.int .i64) a0_2, .int .i64 a0_3, .imm (.sl (.int .i64)) a0_4]], [] => .opt _ (spec_l10Canonical (a0_0, (a0_1, (a0_2, (a0_3, a0_4))))) (fun r => .ret (.agg [.int .i64 r.1, .own 901 false, .own 902 false, .int .i64 r.2.1, .imm (.sl y0_) r.2.2.1]) [(900, .rc [.int .i64 r.1, .own 901 false, .own 902 false, .int .i64 r.2.1, .imm (.sl y0_) r.2.2.1]), (901, .sl 3 y0_ r.2.2.2.1 .shallow), (902, .sl 3 y0_ r.2.2.2.2 .shallow)])
  | _, _ => .fail

noncomputable def C_spec_l10Canonical_s1 : Sched := .alt 11 (.first 12 (.alt 13 .done .stop)) .stop
noncomputable def C_spec_l10Canonical_s2 : Sched := .alt 10 C_spec_l10Canonical_s1 .stop
noncomputable def C_spec_l10Canonical_s3 : Sched := wkFs [8, 9] C_spec_l10Canonical_s2
noncomputable def C_spec_l10Canonical_s4 : Sched := .alt 7 C_spec_l10Canonical_s3 .stop
noncomputable def C_spec_l10Canonical_s5 : Sched := .alt 3 C_spec_l10Canonical_s3 .stop
noncomputable def C_spec_l10Canonical_s6 : Sched := wkFs [8, 9] (.alt 1 C_spec_l10Canonical_s2 (.alt 10 (.alt 1 C_spec_l10Canonical_s1 .stop) .stop))
noncomputable def C_spec_l10Canonical_s7 : Sched := wkFs [0, 2, 4, 5, 6] (.alt 1 (.alt 3 C_spec_l10Canonical_s4 (.alt 7 C_spec_l10Canonical_s5 .stop)) (.alt 3 (.alt 1 C_spec_l10Canonical_s4 (.alt 7 C_spec_l10Canonical_s6 .stop)) (.alt 7 (.alt 1 C_spec_l10Canonical_s5 (.alt 3 C_spec_l10Canonical_s6 .stop)) .stop)))
noncomputable def C_spec_l10Canonical_s8 : Sched := wkFs [10, 11] (.alt 12 (.alt 13 (.first 14 .done) .stop) .stop)
noncomputable def C_spec_l10Canonical : Cfg := { y := tys, n := 90, h := 0, tab := [(106, c_spec_l10Order), (107, c_spec_l10Insert)], cut := [5, 9, 11, 19], good := [107], sched := [(8, C_spec_l10Canonical_s7), (10, C_spec_l10Canonical_s7), (18, (wkFs [0, 1, 3, 6, 7, 8] (.alt 2 (wkFs [4, 5] (.alt 9 C_spec_l10Canonical_s8 .stop)) (.alt 9 (.alt 2 (wkFs [4, 5] C_spec_l10Canonical_s8) .stop) .stop))))] }

theorem wkz_26 {P : Prop} (h : P := by
  refine And.intro hq2 ?_
  refine And.intro ?_ trivial
  refine And.intro ?_ trivial
  refine And.intro hq3 ?_
  refine go_rq he fun he => ?_
  exact ⟨_, (ok_some he :), (leads_au [(10008004, 83)])⟩) : P := h

theorem wkz_27 {P : Prop} (h : P := by
  refine And.intro ?_ trivial
  refine And.intro ?_ trivial
  refine And.intro hq2 ?_
  refine And.intro ?_ trivial
  refine go_rq he fun he => ?_
  exact ⟨_, (ok_some he :), (leads_au [(10001000, 10003000), (10001001, 10003001), (10001002, 10003002), (10001003, 10003003), (10001004, 10003004), (10001005, 54)])⟩) : P := h

theorem wkz_28 {P : Prop} (h : P := by
  skip
  refine And.intro ?_ trivial
  refine And.intro hq1 ?_
  exact wkz_27) : P := h

theorem wkz_29 {P : Prop} (h : P := by
  skip
  refine And.intro ?_ (And.intro ?_ (trivial))
  ·exact wkz_28
  ·skip
   refine And.intro hq1 ?_
   refine And.intro ?_ (And.intro ?_ (trivial))
   ·skip
    exact wkz_27
   ·skip
    exact wkz_27) : P := h

theorem wkz_30 {P : Prop} (h : P := by
  refine And.intro ?_ trivial
  refine And.intro ?_ trivial
  refine And.intro hq2 ?_
  refine And.intro ?_ trivial
  exact ⟨_, he, (leads_au [(10003000, 10001000), (10003001, 10001001), (10003002, 10001002), (10003003, 10001003), (10003004, 38), (10003005, 10001005)])⟩) : P := h

theorem wkz_31 {P : Prop} (h : P := by
  skip
  refine And.intro ?_ trivial
  refine And.intro hq1 ?_
  exact wkz_30) : P := h

theorem wkz_32 {P : Prop} (h : P := by
  skip
  refine And.intro ?_ (And.intro ?_ (trivial))
  ·exact wkz_31
  ·skip
   refine And.intro hq1 ?_
   refine And.intro ?_ (And.intro ?_ (trivial))
   ·skip
    exact wkz_30
   ·skip
    exact wkz_30) : P := h

theorem k_spec_l10Canonical : Entry Tryz.prog 78 c_spec_l10Canonical := by
 refine wkEnt (C := C_spec_l10Canonical) Tryz.f78 (wkTab k_spec_l10Order (wkTab k_spec_l10Insert wkNil)) fun _ a b k he => ?_
 unfold c_spec_l10Canonical at he; split at he; rotate_left; exact he.elim
 rename_i a0_0 a0_1 a0_2 a0_3 a0_4
 refine wkGo0 he fun he => ?_
 refine go_bind he fun r1_ he => ?_
 refine wkSeq (spec_l10Canonical_j1 (a0_0, (a0_1, (a0_2, (a0_3, a0_4))))) (fun i => (envOf [(1, .c (.ptr 10000000 0)), (2, .c (.ptr 10000001 0)), (3, .c (.ptr 10000002 0)), (4, .c (.own 10000003 false))], [(10000000, .rc [.int .i64 (a0_0, (a0_1, (a0_2, (a0_3, a0_4)))).1, .imm y0_ (a0_0, (a0_1, (a0_2, (a0_3, a0_4)))).2.1, .imm y0_ (a0_0, (a0_1, (a0_2, (a0_3, a0_4)))).2.2.1, .int .i64 (a0_0, (a0_1, (a0_2, (a0_3, a0_4)))).2.2.2.1, .imm (.sl y0_) (a0_0, (a0_1, (a0_2, (a0_3, a0_4)))).2.2.2.2]), (10000001, .rc [.int .i64 (0:Int), .nil, .nil, .int .i64 (0:Int), .nil]), (10000002, .rc [.int .i64 (a0_0, (a0_1, (a0_2, (a0_3, a0_4)))).1, .nil, .nil, .int .i64 (a0_0, (a0_1, (a0_2, (a0_3, a0_4)))).2.2.2.1, .nil]), (10000003, .sl 3 y0_ i .shallow)])) he ?_ ?_
 ·rintro i he
  refine wkSeq (spec_l10Canonical_j2 (a0_0, (a0_1, (a0_2, (a0_3, a0_4)))) i) (fun (i_11, i_21) => (envOf [(1, .c (.ptr 10004000 0)), (2, .c (.ptr 10004001 0)), (3, .c (.ptr 10004002 0)), (4, .c (.own 10004003 false))], [(10004000, .rc [.int .i64 (a0_0, (a0_1, (a0_2, (a0_3, a0_4)))).1, .imm y0_ (a0_0, (a0_1, (a0_2, (a0_3, a0_4)))).2.1, .imm y0_ (a0_0, (a0_1, (a0_2, (a0_3, a0_4)))).2.2.1, .int .i64 (a0_0, (a0_1, (a0_2, (a0_3, a0_4)))).2.2.2.1, .imm (.sl y0_) (a0_0, (a0_1, (a0_2, (a0_3, a0_4)))).2.2.2.2]), (10004001, .rc [.int .i64 (0:Int), .nil, .nil, .int .i64 (0:Int), .nil]), (10004002, .rc [.int .i64 (a0_0, (a0_1, (a0_2, (a0_3, a0_4)))).1, .own 10004004 false, .own 10004005 false, .int .i64 (a0_0, (a0_1, (a0_2, (a0_3, a0_4)))).2.2.2.1, .nil]), (10004003, .sl 3 y0_ i .shallow), (10004004, .sl 3 y0_ i_11 .shallow), (10004005, .sl 3 y0_ i_21 .shallow)])) he ?_ ?_
  ·rintro ⟨i_11, i_21⟩ he
   refine wkLoop (spec_l10Canonical_l1 (a0_0, (a0_1, (a0_2, (a0_3, a0_4)))) i i_11 i_21) (fun (i2, i_4) => (envOf [(1, .c (.ptr 10005000 0)), (2, .c (.ptr 10005001 0)), (3, .c (.ptr 10005002 0)), (4, .c (.own 10005003 false)), (6, .c (.int .i64 i2))], [(10005000, .rc [.int .i64 (a0_0, (a0_1, (a0_2, (a0_3, a0_4)))).1, .imm y0_ (a0_0, (a0_1, (a0_2, (a0_3, a0_4)))).2.1, .imm y0_ (a0_0, (a0_1, (a0_2, (a0_3, a0_4)))).2.2.1, .int .i64 (a0_0, (a0_1, (a0_2, (a0_3, a0_4)))).2.2.2.1, .imm (.sl y0_) (a0_0, (a0_1, (a0_2, (a0_3, a0_4)))).2.2.2.2]), (10005001, .rc [.int .i64 (0:Int), .nil, .nil, .int .i64 (0:Int), .nil]), (10005002, .rc [.int .i64 (a0_0, (a0_1, (a0_2, (a0_3, a0_4)))).1, .own 10005004 false, .own 10005005 false, .int .i64 (a0_0, (a0_1, (a0_2, (a0_3, a0_4)))).2.2.2.1, .imm (.sl y0_) i_4]), (10005003, .sl 3 y0_ i .shallow), (10005004, .sl 3 y0_ i_11 .shallow), (10005005, .sl 3 y0_ i_21 .shallow)])) he (leads_ren [(10005000, 10004000), (10005001, 10004001), (10005002, 10004002), (10005003, 10004003), (10005004, 10004004), (10005005, 10004005)] rfl rfl ⟨⟨rfl, .inl rfl, .inl rfl, rfl, .inl rfl, trivial⟩, ⟨rfl, rfl, rfl, rfl, rfl, trivial⟩, ⟨rfl, ⟨⟨rfl, rfl⟩, trivial⟩, ⟨⟨rfl, rfl⟩, trivial⟩, rfl, .inr (.inl ⟨rfl, rfl⟩), trivial⟩, ⟨rfl, rfl⟩, ⟨rfl, rfl⟩, ⟨rfl, rfl⟩, trivial⟩ ⟨⟨⟨rfl, rfl⟩, rfl⟩, ⟨⟨rfl, rfl⟩, rfl⟩, ⟨⟨rfl, rfl⟩, rfl⟩, ⟨⟨rfl, rfl⟩, trivial⟩, rfl, trivial⟩) ?_
   rintro ⟨i2, i_4⟩ _ he
   refine go_if he (fun he => ?_) fun he => ?_
   ·refine wkSeq (spec_l10Canonical_j3 i2 i_4) (fun i8 => (envOf [(1, .c (.ptr 10009000 0)), (2, .c (.ptr 10009001 0)), (3, .c (.ptr 10009002 0)), (4, .c (.own 10009003 false)), (6, .c (.int .i64 i2)), (7, .c (.own 10009004 false))], [(10009000, .rc [.int .i64 (a0_0, (a0_1, (a0_2, (a0_3, a0_4)))).1, .imm y0_ (a0_0, (a0_1, (a0_2, (a0_3, a0_4)))).2.1, .imm y0_ (a0_0, (a0_1, (a0_2, (a0_3, a0_4)))).2.2.1, .int .i64 (a0_0, (a0_1, (a0_2, (a0_3, a0_4)))).2.2.2.1, .imm (.sl y0_) (a0_0, (a0_1, (a0_2, (a0_3, a0_4)))).2.2.2.2]), (10009001, .rc [.int .i64 (0:Int), .nil, .nil, .int .i64 (0:Int), .nil]), (10009002, .rc [.int .i64 (a0_0, (a0_1, (a0_2, (a0_3, a0_4)))).1, .own 10009005 false, .own 10009006 false, .int .i64 (a0_0, (a0_1, (a0_2, (a0_3, a0_4)))).2.2.2.1, .imm (.sl y0_) i_4]), (10009003, .sl 3 y0_ i .shallow), (10009004, .sl 3 y0_ i8 .shallow), (10009005, .sl 3 y0_ i_11 .shallow), (10009006, .sl 3 y0_ i_21 .shallow)])) he ?_ ?_
    ·rintro i8 he
     refine go_bind he fun r3_ he => ?_
     refine go_rq he fun he => ?_
     exact ⟨_, (ok_some he :), (leads_au [(10005000, 10009000), (10005001, 10009001), (10005002, 10009002), (10005003, 10009003), (10005004, 10009005), (10005005, 10009006)])⟩
    ·skip
     refine wkLoop (spec_l10Canonical_l2 (a0_0, (a0_1, (a0_2, (a0_3, a0_4)))) i i2 i_4) (fun (i6, i7) => (envOf [(1, .c (.ptr 10008000 0)), (2, .c (.ptr 10008001 0)), (3, .c (.ptr 10008002 0)), (4, .c (.own 10008003 false)), (6, .c (.int .i64 i2)), (7, .c (.own 10008004 false)), (8, .c (.int .i64 i6))], [(10008000, .rc [.int .i64 (a0_0, (a0_1, (a0_2, (a0_3, a0_4)))).1, .imm y0_ (a0_0, (a0_1, (a0_2, (a0_3, a0_4)))).2.1, .imm y0_ (a0_0, (a0_1, (a0_2, (a0_3, a0_4)))).2.2.1, .int .i64 (a0_0, (a0_1, (a0_2, (a0_3, a0_4)))).2.2.2.1, .imm (.sl y0_) (a0_0, (a0_1, (a0_2, (a0_3, a0_4)))).2.2.2.2]), (10008001, .rc [.int .i64 (0:Int), .nil, .nil, .int .i64 (0:Int), .nil]), (10008002, .rc [.int .i64 (a0_0, (a0_1, (a0_2, (a0_3, a0_4)))).1, .own 10008005 false, .own 10008006 false, .int .i64 (a0_0, (a0_1, (a0_2, (a0_3, a0_4)))).2.2.2.1, .imm (.sl y0_) i_4]), (10008003, .sl 3 y0_ i .shallow), (10008004, .sl 3 y0_ i7 .shallow), (10008005, .sl 3 y0_ i_11 .shallow), (10008006, .sl 3 y0_ i_21 .shallow)])) he (leads_au [(10008000, 10005000), (10008001, 10005001), (10008002, 10005002), (10008003, 10005003), (10008004, 63), (10008005, 10005004), (10008006, 10005005)]) ?_
     rintro ⟨i6, i7⟩ _ he
     refine go_if he (fun he => ?_) fun he => ?_
     ·refine And.intro (by kernel_rfl) ?_
      refine go_rq he fun he => ?_
      obtain ⟨hq1, he⟩ := ok_rq he
      obtain ⟨hq2, he⟩ := ok_rq he
      obtain ⟨hq3, he⟩ := ok_rq he
      refine And.intro ?_ (And.intro ?_ (trivial))
      ·skip
       refine And.intro hq1 ?_
       refine And.intro ?_ trivial
       exact wkz_26
      ·skip
       refine And.intro ?_ trivial
       refine And.intro hq1 ?_
       exact wkz_26
     ·exact ⟨_, (ok_up he :), (leads_au [(10009000, 10008000), (10009001, 10008001), (10009002, 10008002), (10009003, 10008003), (10009004, 10008004), (10009005, 10008005), (10009006, 10008006)])⟩
   ·exact wkRet [(2, [900])] (ok_some he :) (leads_au [(900, 10005001), (901, 10005004), (902, 10005005)])
  ·skip
   refine wkLoop (spec_l10Canonical_l3 (a0_0, (a0_1, (a0_2, (a0_3, a0_4)))) i) (fun (i1, i_1, i_2) => (envOf [(1, .c (.ptr 10001000 0)), (2, .c (.ptr 10001001 0)), (3, .c (.ptr 10001002 0)), (4, .c (.own 10001003 false)), (5, .c (.int .i64 i1))], [(10001000, .rc [.int .i64 (a0_0, (a0_1, (a0_2, (a0_3, a0_4)))).1, .imm y0_ (a0_0, (a0_1, (a0_2, (a0_3, a0_4)))).2.1, .imm y0_ (a0_0, (a0_1, (a0_2, (a0_3, a0_4)))).2.2.1, .int .i64 (a0_0, (a0_1, (a0_2, (a0_3, a0_4)))).2.2.2.1, .imm (.sl y0_) (a0_0, (a0_1, (a0_2, (a0_3, a0_4)))).2.2.2.2]), (10001001, .rc [.int .i64 (0:Int), .nil, .nil, .int .i64 (0:Int), .nil]), (10001002, .rc [.int .i64 (a0_0, (a0_1, (a0_2, (a0_3, a0_4)))).1, .own 10001004 false, .own 10001005 false, .int .i64 (a0_0, (a0_1, (a0_2, (a0_3, a0_4)))).2.2.2.1, .nil]), (10001003, .sl 3 y0_ i .shallow), (10001004, .sl 3 y0_ i_1 .shallow), (10001005, .sl 3 y0_ i_2 .shallow)])) he (leads_au [(10001000, 10000000), (10001001, 10000001), (10001002, 10000002), (10001003, 10000003)]) ?_
   rintro ⟨i1, i_1, i_2⟩ _ he
   refine go_if he (fun he => ?_) fun he => ?_
   ·refine wkSeq (spec_l10Canonical_j4 (a0_0, (a0_1, (a0_2, (a0_3, a0_4)))) i i1 i_1 i_2) (fun _ => (envOf [(1, .c (.ptr 10003000 0)), (2, .c (.ptr 10003001 0)), (3, .c (.ptr 10003002 0)), (4, .c (.own 10003003 false)), (5, .c (.int .i64 i1))], [(10003000, .rc [.int .i64 (a0_0, (a0_1, (a0_2, (a0_3, a0_4)))).1, .imm y0_ (a0_0, (a0_1, (a0_2, (a0_3, a0_4)))).2.1, .imm y0_ (a0_0, (a0_1, (a0_2, (a0_3, a0_4)))).2.2.1, .int .i64 (a0_0, (a0_1, (a0_2, (a0_3, a0_4)))).2.2.2.1, .imm (.sl y0_) (a0_0, (a0_1, (a0_2, (a0_3, a0_4)))).2.2.2.2]), (10003001, .rc [.int .i64 (0:Int), .nil, .nil, .int .i64 (0:Int), .nil]), (10003002, .rc [.int .i64 (a0_0, (a0_1, (a0_2, (a0_3, a0_4)))).1, .own 10003004 false, .own 10003005 false, .int .i64 (a0_0, (a0_1, (a0_2, (a0_3, a0_4)))).2.2.2.1, .nil]), (10003003, .sl 3 y0_ i .shallow), (10003004, .sl 3 y0_ (i_1 ++ [((a0_0, (a0_1, (a0_2, (a0_3, a0_4)))).2.1.getD (i.getD i1.toNat 0).toNat 0)]) .shallow), (10003005, .sl 3 y0_ i_2 .shallow)])) he ?_ ?_
    ·rintro ⟨⟩ he
     refine go_if he (fun he => ?_) fun he => ?_
     ·refine And.intro (by kernel_rfl) ?_
      refine go_rq he fun he => ?_
      obtain ⟨hq1, he⟩ := ok_rq he
      obtain ⟨hq2, he⟩ := ok_rq he
      refine And.intro ?_ (And.intro ?_ (And.intro ?_ (trivial)))
      ·skip
       refine And.intro ?_ (And.intro ?_ (trivial))
       ·exact wkz_28
       ·exact wkz_28
      ·exact wkz_29
      ·exact wkz_29
     ·refine go_rq he fun he => ?_
      exact ⟨_, (ok_some he :), (leads_au [(10001000, 10003000), (10001001, 10003001), (10001002, 10003002), (10001003, 10003003), (10001004, 10003004), (10001005, 10003005)])⟩
    ·skip
     refine And.intro (by kernel_rfl) ?_
     refine go_rq he fun he => ?_
     obtain ⟨hq1, he⟩ := ok_rq he
     obtain ⟨hq2, he⟩ := ok_rq he
     refine And.intro ?_ (And.intro ?_ (And.intro ?_ (trivial)))
     ·skip
      refine And.intro ?_ (And.intro ?_ (trivial))
      ·exact wkz_31
      ·exact wkz_31
     ·exact wkz_32
     ·exact wkz_32
   ·exact ⟨_, (ok_up he :), (leads_au [(10004000, 10001000), (10004001, 10001001), (10004002, 10001002), (10004003, 10001003), (10004004, 10001004), (10004005, 10001005)])⟩
 ·skip
  refine go_if he (fun he => ?_) fun he => ?_
  ·exact ⟨_, he, (leads_au [(10000000, 1), (10000001, 2), (10000002, 3), (10000003, 20)])⟩
  ·exact ⟨_, he, (leads_au [(10000000, 1), (10000001, 2), (10000002, 3), (10000003, 17900)])⟩

noncomputable def c_spec_l6SameRule : Con := fun
  | [.agg [.int .i64 a_0, .imm (.int .i64) a_1, .imm (.int .i64) a_2, .int .i64 a_3, .imm (.sl (.int .i64)) a_4], .agg [.int .i64 b_0, .imm (.int .i64) b_1, .imm (.int .i64) b_2, .int .i64 b_3, .imm (.sl (.int .i64)) b_4]], [] => .opt _ (spec_l6SameRule (a_0, (a_1, (a_2, (a_3, a_4)))) (b_0, (b_1, (b_2, (b_3, b_4))))) (fun r => .ret (.c (.bool r)) [])
  | _, _ => .fail

noncomputable def C_spec_l6SameRule_s1 : Sched := .alt 10 (.first 11 .done) .stop
noncomputable def C_spec_l6SameRule : Cfg := { y := tys, n := 62, h := 0, tab := [(105, c_spec_l6Ints)], sched := [(6, (wkFs [0, 2, 5, 7] (.alt 1 (wkFs [3, 4] (.alt 6 (wkFs [8, 9] C_spec_l6SameRule_s1) .stop)) (.alt 6 (wkFs [8, 9] (.alt 1 (wkFs [3, 4] C_spec_l6SameRule_s1) .stop)) .stop))))] }

theorem k_spec_l6SameRule : Entry Tryz.prog 77 c_spec_l6SameRule := by
 refine wkEnt (C := C_spec_l6SameRule) Tryz.f77 (wkTab k_spec_l6Ints wkNil) fun _ a b k he => ?_
 unfold c_spec_l6SameRule at he; split at he; rotate_left; exact he.elim
 rename_i a_0 a_1 a_2 a_3 a_4 b_0 b_1 b_2 b_3 b_4
 refine wkGo0 he fun he => ?_
 refine go_if2 he (fun he => ?_) fun he => ?_
 ·refine go_if2 he (fun he => ?_) fun he => ?_
  ·refine go_bind he fun r1_ he => ?_
   refine go_if2 he (fun he => ?_) fun he => ?_
   ·refine go_bind he fun r2_ he => ?_
    refine go_if2 he (fun he => ?_) fun he => ?_
    ·refine go_if he (fun he => ?_) fun he => ?_
     ·exact wkz_7
     ·refine wkLoop (spec_l6SameRule_l1 (a_0, (a_1, (a_2, (a_3, a_4)))) (b_0, (b_1, (b_2, (b_3, b_4))))) (fun i => (envOf [(2, .c (.ptr 10000000 0)), (3, .c (.ptr 10000001 0)), (5, .c (.int .i64 i))], [(10000000, .rc [.int .i64 (a_0, (a_1, (a_2, (a_3, a_4)))).1, .imm y0_ (a_0, (a_1, (a_2, (a_3, a_4)))).2.1, .imm y0_ (a_0, (a_1, (a_2, (a_3, a_4)))).2.2.1, .int .i64 (a_0, (a_1, (a_2, (a_3, a_4)))).2.2.2.1, .imm (.sl y0_) (a_0, (a_1, (a_2, (a_3, a_4)))).2.2.2.2]), (10000001, .rc [.int .i64 (b_0, (b_1, (b_2, (b_3, b_4)))).1, .imm y0_ (b_0, (b_1, (b_2, (b_3, b_4)))).2.1, .imm y0_ (b_0, (b_1, (b_2, (b_3, b_4)))).2.2.1, .int .i64 (b_0, (b_1, (b_2, (b_3, b_4)))).2.2.2.1, .imm (.sl y0_) (b_0, (b_1, (b_2, (b_3, b_4)))).2.2.2.2])])) he (leads_au [(10000000, 2), (10000001, 3)]) ?_
      rintro i _ he
      refine go_if he (fun he => ?_) fun he => ?_
      ·refine And.intro (by kernel_rfl) ?_
       obtain ⟨hq1, he⟩ := ok_rq he
       obtain ⟨hq2, he⟩ := ok_rq he
       obtain ⟨r4_, hq3, he⟩ := ok_bind he
       refine And.intro ?_ (And.intro ?_ (trivial))
       ·skip
        refine And.intro hq1 ?_
        refine And.intro ?_ trivial
        refine And.intro hq2 ?_
        refine And.intro ?_ trivial
        refine ⟨r4_, hq3, ?_⟩
        exact wkz_13
       ·skip
        refine And.intro hq2 ?_
        refine And.intro ?_ trivial
        refine And.intro hq1 ?_
        refine And.intro ?_ trivial
        refine ⟨r4_, hq3, ?_⟩
        exact wkz_13
      ·exact wkz_7
    ·exact wkz_7
   ·exact wkz_7
  ·exact wkz_7
 ·exact wkz_7

noncomputable def c_spec_l10Within : Con := fun
  | [.agg [.imm (.int .i64) a_0, .imm (.pair (.int .i64) (.pair (.sl (.int .i64)) (.pair (.sl (.int .i64)) (.pair (.int .i64) (.sl (.sl (.int .i64))))))) a_1], .agg [.imm (.int .i64) b_0, .imm (.pair (.int .i64) (.pair (.sl (.int .i64)) (.pair (.sl (.int .i64)) (.pair (.int .i64) (.sl (.sl (.int .i64))))))) b_1]], [] => .opt _ (spec_l10Within (a_0, a_1) (b_0, b_1)) (fun r => .ret (.c (.bool r)) [])
  | _, _ => .fail

noncomputable def C_spec_l10Within_s1 : Sched := .alt 13 (.alt 14 (wkFs [15, 16] .done) .stop) .stop
noncomputable def C_spec_l10Within_s2 : Sched := .alt 7 C_spec_l10Within_s1 .stop
noncomputable def C_spec_l10Within : Cfg := { y := tys, n := 40, h := 0, tab := [(77, c_spec_l6SameRule), (78, c_spec_l10Canonical)], sched := [(8, (wkFs [0, 1, 2, 4, 8, 10] (.alt 3 (wkFs [5, 6] (.alt 7 (.alt 9 (wkFs [11, 12] C_spec_l10Within_s1) .stop) (.alt 9 (wkFs [11, 12] C_spec_l10Within_s2) .stop))) (.alt 9 (wkFs [11, 12] (.alt 3 (wkFs [5, 6] C_spec_l10Within_s2) .stop)) .stop))))] }

theorem wkz_33 {P : Prop} (h : P := by
  refine And.intro ?_ trivial
  refine ⟨r5_, hq4, ?_⟩
  refine And.intro ?_ trivial
  refine ⟨r6_, hq5, ?_⟩
  exact wkz_3) : P := h

theorem wkz_34 {P : Prop} (h : P := by
  refine And.intro ?_ trivial
  refine And.intro ?_ trivial
  refine And.intro ?_ trivial
  exact wkz_3) : P := h

theorem k_spec_l10Within : Entry Tryz.prog 41 c_spec_l10Within := by
 refine wkEnt (C := C_spec_l10Within) Tryz.f41 (wkTab k_spec_l6SameRule (wkTab k_spec_l10Canonical wkNil)) fun _ a b k he => ?_
 unfold c_spec_l10Within at he; split at he; rotate_left; exact he.elim
 rename_i a_0 a_1 b_0 b_1
 refine wkGo0 he fun he => ?_
 refine wkLoop (spec_l10Within_l1 (a_0, a_1) (b_0, b_1)) (fun i => (envOf [(2, .c (.ptr 10000000 0)), (3, .c (.ptr 10000001 0)), (5, .c (.int .i64 i))], [(10000000, .rc [.imm y0_ (a_0, a_1).1, .imm y4_ (a_0, a_1).2]), (10000001, .rc [.imm y0_ (b_0, b_1).1, .imm y4_ (b_0, b_1).2])])) he (leads_au [(10000000, 2), (10000001, 3)]) ?_
 rintro i _ he
 refine go_if he (fun he => ?_) fun he => ?_
 ·refine wkLoop (spec_l10Within_l2 (a_0, a_1) (b_0, b_1) i) (fun (some_, k_) => (envOf [(2, .c (.ptr 10001000 0)), (3, .c (.ptr 10001001 0)), (5, .c (.int .i64 i)), (6, .c (.bool some_)), (7, .c (.int .i64 k_))], [(10001000, .rc [.imm y0_ (a_0, a_1).1, .imm y4_ (a_0, a_1).2]), (10001001, .rc [.imm y0_ (b_0, b_1).1, .imm y4_ (b_0, b_1).2])])) he (leads_au [(10001000, 10000000), (10001001, 10000001)]) ?_
  rintro ⟨some_, k_⟩ _ he
  refine go_if he (fun he => ?_) fun he => ?_
  ·refine And.intro (by kernel_rfl) ?_
   refine go_if2 he (fun he => ?_) fun he => ?_
   ·obtain ⟨hq1, he⟩ := ok_rq he
    obtain ⟨r4_, hq2, he⟩ := ok_bind he
    obtain ⟨hq3, he⟩ := ok_rq he
    obtain ⟨r5_, hq4, he⟩ := ok_bind he
    obtain ⟨r6_, hq5, he⟩ := ok_bind he
    refine And.intro ?_ (And.intro ?_ (trivial))
    ·skip
     refine And.intro hq1 ?_
     refine And.intro ?_ (And.intro ?_ (trivial))
     ·skip
      refine ⟨r4_, hq2, ?_⟩
      refine And.intro ?_ trivial
      refine And.intro hq3 ?_
      exact wkz_33
     ·skip
      refine And.intro hq3 ?_
      refine And.intro ?_ trivial
      refine ⟨r4_, hq2, ?_⟩
      exact wkz_33
    ·skip
     refine And.intro hq3 ?_
     refine And.intro ?_ trivial
     refine And.intro hq1 ?_
     refine And.intro ?_ trivial
     refine ⟨r4_, hq2, ?_⟩
     exact wkz_33
   ·refine And.intro ?_ (And.intro ?_ (trivial))
    ·skip
     refine And.intro ?_ (And.intro ?_ (trivial))
     ·skip
      exact wkz_34
     ·skip
      exact wkz_34
    ·skip
     refine And.intro ?_ trivial
     exact wkz_34
  ·refine go_if he (fun he => ?_) fun he => ?_
   ·exact wkz_7
   ·refine go_rq he fun he => ?_
    exact ⟨_, (ok_some he :), (leads_au [(10000000, 10001000), (10000001, 10001001)])⟩
 ·exact wkz_7

noncomputable def c_spec_SymmetryValid : Con := fun
  | [.agg [.imm (.int .i64) m_0, .imm (.pair (.int .i64) (.pair (.sl (.int .i64)) (.pair (.sl (.int .i64)) (.pair (.int .i64) (.sl (.sl (.int .i64))))))) m_1], .c (.imm (.int .i64) perm)], [] => .opt _ (spec_SymmetryValid (m_0, m_1) perm) (fun r => .ret (.c (.bool r)) [])
  | _, _ => .fail

noncomputable def C_spec_SymmetryValid : Cfg := { y := tys, n := 24, h := 0, tab := [(40, c_spec_PermuteModel), (41, c_spec_l10Within)] }

theorem k_spec_SymmetryValid : Entry Tryz.prog 11 c_spec_SymmetryValid := by
 refine wkEnt (C := C_spec_SymmetryValid) Tryz.f11 (wkTab k_spec_PermuteModel (wkTab k_spec_l10Within wkNil)) fun _ a b k he => ?_
 unfold c_spec_SymmetryValid at he; split at he; rotate_left; exact he.elim
 rename_i m_0 m_1 perm
 refine wkGo0 he fun he => ?_
 refine go_bind he fun r1_ he => ?_
 refine go_if he (fun he => ?_) fun he => ?_
 ·refine go_bind he fun r2_ he => ?_
  refine go_if he (fun he => ?_) fun he => ?_
  ·refine go_bind he fun r3_ he => ?_
   exact wkz_7
  ·exact wkz_7
 ·exact wkz_7

noncomputable def c_spec_FindSwaps : Con := fun
  | [.agg [.imm (.int .i64) m_0, .imm (.pair (.int .i64) (.pair (.sl (.int .i64)) (.pair (.sl (.int .i64)) (.pair (.int .i64) (.sl (.sl (.int .i64))))))) m_1]], [] => .opt _ (spec_FindSwaps (m_0, m_1)) (fun r => .ret (.c (.own 900 false)) [(900, .sl 22 (.sl y0_) r (.deep true .no))])
  | _, _ => .fail

noncomputable def C_spec_FindSwaps_s1 : Sched := .alt 7 .done .stop
noncomputable def C_spec_FindSwaps_s2 : Sched := .alt 6 C_spec_FindSwaps_s1 .stop
noncomputable def C_spec_FindSwaps : Cfg := { y := tys, n := 42, h := 0, tab := [(11, c_spec_SymmetryValid), (52, c_spec_ModelValid), (53, c_spec_l10Swap)], deep := [6, 39], sched := [(8, (wkFs [1, 4, 5] (.alt 0 (.alt 2 (.first 3 C_spec_FindSwaps_s2) .stop) (.alt 2 (.first 3 (.alt 0 C_spec_FindSwaps_s2 (.alt 6 (.alt 0 C_spec_FindSwaps_s1 .stop) .stop))) .stop))))] }

theorem wkz_35 {P : Prop} (h : P := by
  refine And.intro ?_ trivial
  refine ⟨r12_, hq2, ?_⟩
  refine go_if he (fun he => ?_) fun he => ?_
  ·refine go_rq he fun he => ?_
   refine go_rq he fun he => ?_
   exact ⟨_, (ok_some he :), (leads_au [(10002001, 40)])⟩
  ·exact wkz_3) : P := h

theorem k_spec_FindSwaps : Entry Tryz.prog 21 c_spec_FindSwaps := by
 refine wkEnt (C := C_spec_FindSwaps) Tryz.f21 (wkTab k_spec_SymmetryValid (wkTab k_spec_ModelValid (wkTab k_spec_l10Swap wkNil))) fun _ a b k he => ?_
 unfold c_spec_FindSwaps at he; split at he; rotate_left; exact he.elim
 rename_i m_0 m_1
 refine wkGo0 he fun he => ?_
 refine wkLoop (spec_FindSwaps_l1 (m_0, m_1)) (fun (i, out1) => (envOf [(1, .c (.ptr 10000000 0)), (3, .c (.own 10000001 false)), (4, .c (.int .i64 i))], [(10000000, .rc [.imm y0_ (m_0, m_1).1, .imm y4_ (m_0, m_1).2]), (10000001, .sl 22 (.sl y0_) out1 (.deep true .no))])) he (leads_au [(10000000, 1), (10000001, 6)]) ?_
 rintro ⟨i, out1⟩ _ he
 refine go_if he (fun he => ?_) fun he => ?_
 ·refine go_bind he fun r8_ he => ?_
  refine go_if he (fun he => ?_) fun he => ?_
  ·refine go_rq he fun he => ?_
   refine wkLoop (spec_FindSwaps_l2 (m_0, m_1) i) (fun (k_1, out2) => (envOf [(1, .c (.ptr 10002000 0)), (3, .c (.own 10002001 false)), (4, .c (.int .i64 i)), (5, .c (.int .i64 k_1))], [(10002000, .rc [.imm y0_ (m_0, m_1).1, .imm y4_ (m_0, m_1).2]), (10002001, .sl 22 (.sl y0_) out2 (.deep true .no))])) he (leads_au [(10002000, 10000000), (10002001, 10000001)]) ?_
   rintro ⟨k_1, out2⟩ _ he
   refine go_if he (fun he => ?_) fun he => ?_
   ·refine And.intro (by kernel_rfl) ?_
    obtain ⟨r11_, hq1, he⟩ := ok_bind he
    obtain ⟨r12_, hq2, he⟩ := ok_bind he
    refine And.intro ?_ (And.intro ?_ (trivial))
    ·skip
     refine And.intro ?_ trivial
     refine And.intro ?_ trivial
     refine ⟨r11_, hq1, ?_⟩
     exact wkz_35
    ·skip
     refine And.intro ?_ (And.intro ?_ (trivial))
     ·skip
      refine And.intro ?_ trivial
      refine ⟨r11_, hq1, ?_⟩
      exact wkz_35
     ·skip
      refine ⟨r11_, hq1, ?_⟩
      refine And.intro ?_ trivial
      exact wkz_35
   ·refine go_rq he fun he => ?_
    exact ⟨_, (ok_some he :), (leads_au [(10000000, 10002000), (10000001, 10002001)])⟩
  ·exact wkRet [(2, [])] (ok_some he :) (leads_au [(900, 10000001)])
 ·exact wkRet [(2, [])] (ok_some he :) (leads_au [(900, 10000001)])

noncomputable def c_impl_within : Con := fun
  | [.c (.int .i64 n), .c (.int .i64 low), .c (.int .i64 high)], [] => .opt _ (impl_within n low high) (fun r => .ret (.c (.bool r)) [])
  | _, _ => .fail

noncomputable def C_impl_within : Cfg := { y := tys, n := 15, h := 0, tab := [] }

theorem k_impl_within : Entry Tryz.prog 54 c_impl_within := by
 refine wkEnt (C := C_impl_within) Tryz.f54 wkNil fun _ a b k he => ?_
 unfold c_impl_within at he; split at he; rotate_left; exact he.elim
 rename_i n low high
 refine wkGo0 he fun he => ?_
 refine go_if he (fun he => ?_) fun he => ?_
 ·exact wkz_1
 ·exact wkz_1

noncomputable def c_slices_Index_int : Con := fun
  | [.c (.imm (.int .i64) s_), .c (.int .i64 v)], [] => .opt _ (slices_Index_int s_ v) (fun r => .ret (.c (.int .i64 r)) [])
  | _, _ => .fail

noncomputable def C_slices_Index_int : Cfg := { y := tys, n := 19, h := 0, tab := [] }

theorem k_slices_Index_int : Entry Tryz.prog 109 c_slices_Index_int := by
 refine wkEnt (C := C_slices_Index_int) Tryz.f109 wkNil fun _ a b k he => ?_
 unfold c_slices_Index_int at he; split at he; rotate_left; exact he.elim
 rename_i s_ v
 refine wkGo0 he fun he => ?_
 refine wkLoop (slices_Index_int_l1 s_ v) (fun i => (envOf [(0, .c (.imm y0_ s_)), (1, .c (.int .i64 v)), (7, .c (.int .i64 (s_.length:Int))), (8, .c (.int .i64 i))], [])) he (leads_au []) ?_
 rintro i _ he
 refine go_if he (fun he => ?_) fun he => ?_
 ·refine go_rq he fun he => ?_
  exact wkz_4
 ·exact wkz_1

noncomputable def c_slices_Contains_int : Con := fun
  | [.c (.imm (.int .i64) s_), .c (.int .i64 v)], [] => .opt _ (slices_Contains_int s_ v) (fun r => .ret (.c (.bool r)) [])
  | _, _ => .fail

noncomputable def C_slices_Contains_int : Cfg := { y := tys, n := 9, h := 0, tab := [(109, c_slices_Index_int)] }

theorem k_slices_Contains_int : Entry Tryz.prog 80 c_slices_Contains_int := by
 refine wkEnt (C := C_slices_Contains_int) Tryz.f80 (wkTab k_slices_Index_int wkNil) fun _ a b k he => ?_
 unfold c_slices_Contains_int at he; split at he; rotate_left; exact he.elim
 rename_i s_ v
 refine wkGo0 he fun he => ?_
 refine go_bind he fun r1_ he => ?_
 exact wkz_1

noncomputable def c_impl_ruleValid_1 : Con := fun
  | [.c (.int .i64 n)], [] => .opt _ (impl_ruleValid_1 n) (fun r => .ret (.c (.bool r)) [])
  | _, _ => .fail

noncomputable def C_impl_ruleValid_1 : Cfg := { y := tys, n := 10, h := 0, tab := [(54, c_impl_within)] }

theorem wkz_36 {P : Prop} (h : P := by
  refine go_bind he fun r1_ he => ?_
  exact wkz_1) : P := h

theorem k_impl_ruleValid_1 : Entry Tryz.prog 94 c_impl_ruleValid_1 := by
 refine wkEnt (C := C_impl_ruleValid_1) Tryz.f94 (wkTab k_impl_within wkNil) fun _ a b k he => ?_
 unfold c_impl_ruleValid_1 at he; split at he; rotate_left; exact he.elim
 rename_i n
 refine wkGo0 he fun he => ?_
 refine go_if2 he (fun he => ?_) fun he => ?_
 ·exact wkz_36
 ·exact wkz_1

noncomputable def c_slices_IndexFunc_int__impl_ruleValid_1 : Con := fun
  | [.c (.imm (.int .i64) s_), .c (.fn 94 [])], [] => .opt _ (slices_IndexFunc_int__impl_ruleValid_1 s_) (fun r => .ret (.c (.int .i64 r)) [])
  | _, _ => .fail

noncomputable def C_slices_IndexFunc_int__impl_ruleValid_1 : Cfg := { y := tys, n := 19, h := 0, tab := [(94, c_impl_ruleValid_1)] }

theorem k_slices_IndexFunc_int__impl_ruleValid_1 : Entry Tryz.prog 124 c_slices_IndexFunc_int__impl_ruleValid_1 := by
 refine wkEnt (C := C_slices_IndexFunc_int__impl_ruleValid_1) Tryz.f124 (wkTab k_impl_ruleValid_1 wkNil) fun _ a b k he => ?_
 unfold c_slices_IndexFunc_int__impl_ruleValid_1 at he; split at he; rotate_left; exact he.elim
 rename_i s_
 refine wkGo0 he fun he => ?_
 refine wkLoop (slices_IndexFunc_int__impl_ruleValid_1_l1 s_) (fun i => (envOf [(0, .c (.imm y0_ s_)), (1, .c (.fn 94 [])), (7, .c (.int .i64 (s_.length:Int))), (8, .c (.int .i64 i))], [])) he (leads_au []) ?_
 rintro i _ he
 exact wkz_6

noncomputable def c_slices_ContainsFunc_int__impl_ruleValid_1 : Con := fun
  | [.c (.imm (.int .i64) s_), .c (.fn 94 [])], [] => .opt _ (slices_ContainsFunc_int__impl_ruleValid_1 s_) (fun r => .ret (.c (.bool r)) [])
  | _, _ => .fail

noncomputable def C_slices_ContainsFunc_int__impl_ruleValid_1 : Cfg := { y := tys, n := 9, h := 0, tab := [(124, c_slices_IndexFunc_int__impl_ruleValid_1)] }

theorem k_slices_ContainsFunc_int__impl_ruleValid_1 : Entry Tryz.prog 93 c_slices_ContainsFunc_int__impl_ruleValid_1 := by
 refine wkEnt (C := C_slices_ContainsFunc_int__impl_ruleValid_1) Tryz.f93 (wkTab k_slices_IndexFunc_int__impl_ruleValid_1 wkNil) fun _ a b k he => ?_
 unfold c_slices_ContainsFunc_int__impl_ruleValid_1 at he; split at he; rotate_left; exact he.elim
 rename_i s_
 refine wkGo0 he fun he => ?_
 refine go_bind he fun r1_ he => ?_
 exact wkz_1

noncomputable def c_impl_ruleValid_2_1 : Con := fun
  | [.c (.int .i64 n)], [] => .opt _ (impl_ruleValid_2_1 n) (fun r => .ret (.c (.bool r)) [])
  | _, _ => .fail

noncomputable def C_impl_ruleValid_2_1 : Cfg := { y := tys, n := 6, h := 0, tab := [(54, c_impl_within)] }

theorem k_impl_ruleValid_2_1 : Entry Tryz.prog 97 c_impl_ruleValid_2_1 := by
 refine wkEnt (C := C_impl_ruleValid_2_1) Tryz.f97 (wkTab k_impl_within wkNil) fun _ a b k he => ?_
 unfold c_impl_ruleValid_2_1 at he; split at he; rotate_left; exact he.elim
 rename_i n
 refine wkGo0 he fun he => ?_
 refine go_bind he fun r1_ he => ?_
 exact wkz_1

noncomputable def c_slices_IndexFunc_int__impl_ruleValid_2_1 : Con := fun
  | [.c (.imm (.int .i64) s_), .c (.fn 97 [])], [] => .opt _ (slices_IndexFunc_int__impl_ruleValid_2_1 s_) (fun r => .ret (.c (.int .i64 r)) [])
  | _, _ => .fail

noncomputable def C_slices_IndexFunc_int__impl_ruleValid_2_1 : Cfg := { y := tys, n := 19, h := 0, tab := [(97, c_impl_ruleValid_2_1)] }

theorem k_slices_IndexFunc_int__impl_ruleValid_2_1 : Entry Tryz.prog 124 c_slices_IndexFunc_int__impl_ruleValid_2_1 := by
 refine wkEnt (C := C_slices_IndexFunc_int__impl_ruleValid_2_1) Tryz.f124 (wkTab k_impl_ruleValid_2_1 wkNil) fun _ a b k he => ?_
 unfold c_slices_IndexFunc_int__impl_ruleValid_2_1 at he; split at he; rotate_left; exact he.elim
 rename_i s_
 refine wkGo0 he fun he => ?_
 refine wkLoop (slices_IndexFunc_int__impl_ruleValid_2_1_l1 s_) (fun i => (envOf [(0, .c (.imm y0_ s_)), (1, .c (.fn 97 [])), (7, .c (.int .i64 (s_.length:Int))), (8, .c (.int .i64 i))], [])) he (leads_au []) ?_
 rintro i _ he
 exact wkz_6

noncomputable def c_slices_ContainsFunc_int__impl_ruleValid_2_1 : Con := fun
  | [.c (.imm (.int .i64) s_), .c (.fn 97 [])], [] => .opt _ (slices_ContainsFunc_int__impl_ruleValid_2_1 s_) (fun r => .ret (.c (.bool r)) [])
  | _, _ => .fail

noncomputable def C_slices_ContainsFunc_int__impl_ruleValid_2_1 : Cfg := { y := tys, n := 9, h := 0, tab := [(124, c_slices_IndexFunc_int__impl_ruleValid_2_1)] }

theorem k_slices_ContainsFunc_int__impl_ruleValid_2_1 : Entry Tryz.prog 93 c_slices_ContainsFunc_int__impl_ruleValid_2_1 := by
 refine wkEnt (C := C_slices_ContainsFunc_int__impl_ruleValid_2_1) Tryz.f93 (wkTab k_slices_IndexFunc_int__impl_ruleValid_2_1 wkNil) fun _ a b k he => ?_
 unfold c_slices_ContainsFunc_int__impl_ruleValid_2_1 at he; split at he; rotate_left; exact he.elim
 rename_i s_
 refine wkGo0 he fun he => ?_
 refine go_bind he fun r1_ he => ?_
 exact wkz_1

noncomputable def c_impl_ruleValid_2 : Con := fun
  | [.c (.imm (.int .i64) row), .c (.ptr 0 0)], [(0, .rc [.int .i64 o0_0, .imm (.int .i64) o0_1, .imm (.int .i64) o0_2, .int .i64 o0_3, .imm (.sl (.int .i64)) o0_4])] => .opt _ (impl_ruleValid_2 row (o0_0, (o0_1, (o0_2, (o0_3, o0_4))))) (fun r => .ret (.c (.bool r)) [(0, .rc [.int .i64 o0_0, .imm y0_ o0_1, .imm y0_ o0_2, .int .i64 o0_3, .imm (.sl y0_) o0_4])])
  | _, _ => .fail

noncomputable def C_impl_ruleValid_2 : Cfg := { y := tys, n := 14, h := 1, tab := [(93, c_slices_ContainsFunc_int__impl_ruleValid_2_1)] }

theorem wkz_37 {P : Prop} (h : P := by
  refine go_bind he fun r1_ he => ?_
  exact wkRet [(3, [])] (ok_some he :) (leads_au [])) : P := h

theorem k_impl_ruleValid_2 : Entry Tryz.prog 96 c_impl_ruleValid_2 := by
 refine wkEnt (C := C_impl_ruleValid_2) Tryz.f96 (wkTab k_slices_ContainsFunc_int__impl_ruleValid_2_1 wkNil) fun _ a b k he => ?_
 unfold c_impl_ruleValid_2 at he; split at he; rotate_left; exact he.elim
 rename_i row o0_0 o0_1 o0_2 o0_3 o0_4
 refine wkGo0 he fun he => ?_
 refine go_if2 he (fun he => ?_) fun he => ?_
 ·exact wkz_37
 ·exact wkRet [(3, [])] (ok_some he :) (leads_au [])

noncomputable def c_slices_IndexFunc_s_int__impl_ruleValid_2 : Con := fun
  | [.c (.imm (.sl (.int .i64)) s_), .c (.fn 96 [0])], [(0, .rc [.int .i64 o0_0, .imm (.int .i64) o0_1, .imm (.int .i64) o0_2, .int .i64 o0_3, .imm (.sl (.int .i64)) o0_4])] => .opt _ (slices_IndexFunc_s_int__impl_ruleValid_2 s_ (o0_0, (o0_1, (o0_2, (o0_3, o0_4))))) (fun r => .ret (.c (.int .i64 r)) [(0, .rc [.int .i64 o0_0, .imm y0_ o0_1, .imm y0_ o0_2, .int .i64 o0_3, .imm (.sl y0_) o0_4])])
  | _, _ => .fail

noncomputable def C_slices_IndexFunc_s_int__impl_ruleValid_2 : Cfg := { y := tys, n := 19, h := 1, tab := [(96, c_impl_ruleValid_2)] }

theorem wkz_38 {P : Prop} (h : P := by
  rintro i _ he
  refine go_if he (fun he => ?_) fun he => ?_
  ·refine go_rq he fun he => ?_
   refine go_bind he fun r1_ he => ?_
   exact wkz_13
  ·exact wkz_7) : P := h

theorem k_slices_IndexFunc_s_int__impl_ruleValid_2 : Entry Tryz.prog 125 c_slices_IndexFunc_s_int__impl_ruleValid_2 := by
 refine wkEnt (C := C_slices_IndexFunc_s_int__impl_ruleValid_2) Tryz.f125 (wkTab k_impl_ruleValid_2 wkNil) fun _ a b k he => ?_
 unfold c_slices_IndexFunc_s_int__impl_ruleValid_2 at he; split at he; rotate_left; exact he.elim
 rename_i s_ o0_0 o0_1 o0_2 o0_3 o0_4
 refine wkGo0 he fun he => ?_
 refine wkLoop (slices_IndexFunc_s_int__impl_ruleValid_2_l1 s_ (o0_0, (o0_1, (o0_2, (o0_3, o0_4))))) (fun i => (envOf [(0, .c (.imm (.sl y0_) s_)), (1, .c (.fn 96 [0])), (7, .c (.int .i64 (s_.length:Int))), (8, .c (.int .i64 i))], [(0, .rc [.int .i64 (o0_0, (o0_1, (o0_2, (o0_3, o0_4)))).1, .imm y0_ (o0_0, (o0_1, (o0_2, (o0_3, o0_4)))).2.1, .imm y0_ (o0_0, (o0_1, (o0_2, (o0_3, o0_4)))).2.2.1, .int .i64 (o0_0, (o0_1, (o0_2, (o0_3, o0_4)))).2.2.2.1, .imm (.sl y0_) (o0_0, (o0_1, (o0_2, (o0_3, o0_4)))).2.2.2.2])])) he (leads_au []) ?_
 exact wkz_38

noncomputable def c_slices_ContainsFunc_s_int__impl_ruleValid_2 : Con := fun
  | [.c (.imm (.sl (.int .i64)) s_), .c (.fn 96 [0])], [(0, .rc [.int .i64 o0_0, .imm (.int .i64) o0_1, .imm (.int .i64) o0_2, .int .i64 o0_3, .imm (.sl (.int .i64)) o0_4])] => .opt _ (slices_ContainsFunc_s_int__impl_ruleValid_2 s_ (o0_0, (o0_1, (o0_2, (o0_3, o0_4))))) (fun r => .ret (.c (.bool r)) [(0, .rc [.int .i64 o0_0, .imm y0_ o0_1, .imm y0_ o0_2, .int .i64 o0_3, .imm (.sl y0_) o0_4])])
  | _, _ => .fail

noncomputable def C_slices_ContainsFunc_s_int__impl_ruleValid_2 : Cfg := { y := tys, n := 9, h := 1, tab := [(125, c_slices_IndexFunc_s_int__impl_ruleValid_2)] }

theorem k_slices_ContainsFunc_s_int__impl_ruleValid_2 : Entry Tryz.prog 95 c_slices_ContainsFunc_s_int__impl_ruleValid_2 := by
 refine wkEnt (C := C_slices_ContainsFunc_s_int__impl_ruleValid_2) Tryz.f95 (wkTab k_slices_IndexFunc_s_int__impl_ruleValid_2 wkNil) fun _ a b k he => ?_
 unfold c_slices_ContainsFunc_s_int__impl_ruleValid_2 at he; split at he; rotate_left; exact he.elim
 rename_i s_ o0_0 o0_1 o0_2 o0_3 o0_4
 refine wkGo0 he fun he => ?_
 refine go_bind he fun r1_ he => ?_
 exact wkz_7

end Go.AE.Y
