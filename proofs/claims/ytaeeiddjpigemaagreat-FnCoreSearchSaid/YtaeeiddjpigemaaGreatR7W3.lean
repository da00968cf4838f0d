/-
  Walks: each function keeps the contract that its model gives. No conditions.
-/
import Derived.Test.YtaeeiddjpigemaaGreatR7Tab
import Derived.Test.YtaeeiddjpigemaaGreatR7W2
import Derived.Test.YtaeeiddjpigemaaGreatR7S
namespace Go.AE.Y
open Go Go.AE Go.Proofs
set_option linter.unusedVariables false
set_option maxHeartbeats 2000000
set_option maxRecDepth 100000

noncomputable def c_spec_ConstraintValid : Con := fun args st => match args, st with
  | [.agg [.imm (.pair (.int .i64) (.int .i64)) c__0, .int .i64 c__1]], [] => .opt (Bool) (spec_ConstraintValid (c__0, c__1)) (fun r => .ret (.c (.bool r)) [])
  | _, _ => .fail

noncomputable def C_spec_ConstraintValid : Cfg := { y := tys, n := 57, h := 0, tab := [(228, c_spec_l1Lit), (229, c_spec_l1Abs)], cut := [], hand := [], good := [], deep := [], sched := [(5, (.first 0 (.alt 1 (.alt 2 (.first 3 (.first 4 (.first 5 (.alt 6 (.first 7 (.first 8 (.first 9 (.first 10 (.alt 11 (.first 12 (.first 13 (.first 14 (.first 15 (.first 16 (.first 17 (.first 18 (.first 20 (.first 21 (.first 26 (.alt 19 (.first 22 (.first 23 (.first 24 (.alt 25 (.alt 27 (.alt 28 (.first 29 (.first 30 (.first 31 .done))) .stop) .stop) (.alt 27 (.alt 25 (.alt 28 (.first 29 (.first 30 (.first 31 .done))) .stop) .stop) .stop))))) (.alt 27 (.alt 19 (.first 22 (.first 23 (.first 24 (.alt 25 (.alt 28 (.first 29 (.first 30 (.first 31 .done))) .stop) .stop)))) .stop) .stop)))))))))))) .stop))))) .stop)))) .stop) .stop)))] }

theorem t_spec_ConstraintValid : TabOk Tryz.prog C_spec_ConstraintValid := by
  refine tabOk_of ?_
  simp only [C_spec_ConstraintValid, List.forall_mem_cons]
  exact ⟨k_spec_l1Lit, k_spec_l1Abs, fun p h => by cases h⟩

theorem k_spec_ConstraintValid : Entry Tryz.prog 168 c_spec_ConstraintValid := by
 refine entry_by (C := C_spec_ConstraintValid) mixed tys_ok t_spec_ConstraintValid (fn := Tryz.f168) (c := bd Tryz.f168) (by kernel_rfl) (by kernel_rfl) (by kernel_rfl) (by kernel_rfl) ?_
 intro args st k he
 unfold c_spec_ConstraintValid at he
 split at he
 rotate_left
 ·exact he.elim
 rename_i c__0 c__1
 have he : Ok (spec_ConstraintValid (c__0, c__1)) (fun r => k (.c (.bool r)) []) := he
 refine ⟨rfl, rfl, ?_⟩
 refine loop_model mixed tys_ok t_spec_ConstraintValid (S := Int) (I := (fun i => (envOf [(1, .c (.ptr 10000000 0)), (3, .c (.int .i64 i))], [(10000000, .rc [.imm y2_ (c__0, c__1).1, .int .i64 (c__0, c__1).2])]))) (f := spec_ConstraintValid_l1 (c__0, c__1)) (K := (fun r => k (.c (.bool r)) [])) he (leads_ren [(10000000, 1)] rfl rfl ⟨⟨.inl rfl, rfl, trivial⟩, trivial⟩ ⟨⟨⟨rfl, rfl⟩, rfl⟩, rfl, trivial⟩) ?_
 rintro i J1 he
 refine go_if he (fun he => ?_) fun he => ?_
 ·refine go_rq he fun he => ?_
  refine And.intro (by kernel_rfl) ?_
  refine And.intro ?_ trivial
  refine And.intro ?_ trivial
  refine go_bind he fun r4_ he => ?_
  refine go_if2 he (fun he => ?_) fun he => ?_
  ·refine And.intro ?_ trivial
   refine go_if2 he (fun he => ?_) fun he => ?_
   ·refine And.intro ?_ trivial
    refine go_if2 he (fun he => ?_) fun he => ?_
    ·refine go_if he (fun he => ?_) fun he => ?_
     ·refine go_rq he fun he => ?_
      have he := ok_rq he
      have hq1 := he.1
      have he := he.2
      obtain ⟨r5_, hq2, he⟩ := ok_bind he
      obtain ⟨r6_, hq3, he⟩ := ok_bind he
      refine And.intro ?_ (And.intro ?_ (trivial))
      ·skip
       refine And.intro hq1 ?_
       refine And.intro ?_ (And.intro ?_ (trivial))
       ·skip
        refine ⟨r5_, hq2, ?_⟩
        refine And.intro ?_ trivial
        refine And.intro ?_ trivial
        refine ⟨r6_, hq3, ?_⟩
        refine go_if he (fun he => ?_) fun he => ?_
        ·have he := ok_some he
         exact ⟨rfl, _, _, (leads_ren [] (l := [(2, .c (.bool false))]) (st' := []) rfl rfl trivial ⟨.inr rfl, trivial⟩), he⟩
        ·refine go_rq he fun he => ?_
         have he := ok_some he
         exact ⟨(i + (1:Int)), he, (leads_ren [] rfl rfl ⟨⟨.inl rfl, rfl, trivial⟩, trivial⟩ ⟨⟨⟨rfl, rfl⟩, rfl⟩, rfl, trivial⟩)⟩
       ·skip
        refine And.intro ?_ trivial
        refine ⟨r5_, hq2, ?_⟩
        refine And.intro ?_ trivial
        refine ⟨r6_, hq3, ?_⟩
        refine go_if he (fun he => ?_) fun he => ?_
        ·have he := ok_some he
         exact ⟨rfl, _, _, (leads_ren [] (l := [(2, .c (.bool false))]) (st' := []) rfl rfl trivial ⟨.inr rfl, trivial⟩), he⟩
        ·refine go_rq he fun he => ?_
         have he := ok_some he
         exact ⟨(i + (1:Int)), he, (leads_ren [] rfl rfl ⟨⟨.inl rfl, rfl, trivial⟩, trivial⟩ ⟨⟨⟨rfl, rfl⟩, rfl⟩, rfl, trivial⟩)⟩
      ·skip
       refine And.intro ?_ trivial
       refine And.intro hq1 ?_
       refine And.intro ?_ trivial
       refine ⟨r5_, hq2, ?_⟩
       refine And.intro ?_ trivial
       refine ⟨r6_, hq3, ?_⟩
       refine go_if he (fun he => ?_) fun he => ?_
       ·have he := ok_some he
        exact ⟨rfl, _, _, (leads_ren [] (l := [(2, .c (.bool false))]) (st' := []) rfl rfl trivial ⟨.inr rfl, trivial⟩), he⟩
       ·refine go_rq he fun he => ?_
        have he := ok_some he
        exact ⟨(i + (1:Int)), he, (leads_ren [] rfl rfl ⟨⟨.inl rfl, rfl, trivial⟩, trivial⟩ ⟨⟨⟨rfl, rfl⟩, rfl⟩, rfl, trivial⟩)⟩
     ·refine And.intro ?_ (And.intro ?_ (trivial))
      ·skip
       refine And.intro ?_ (And.intro ?_ (trivial))
       ·skip
        refine And.intro ?_ trivial
        refine And.intro ?_ trivial
        refine go_rq he fun he => ?_
        have he := ok_some he
        exact ⟨(i + (1:Int)), he, (leads_ren [] rfl rfl ⟨⟨.inl rfl, rfl, trivial⟩, trivial⟩ ⟨⟨⟨rfl, rfl⟩, rfl⟩, rfl, trivial⟩)⟩
       ·skip
        refine And.intro ?_ trivial
        refine And.intro ?_ trivial
        refine go_rq he fun he => ?_
        have he := ok_some he
        exact ⟨(i + (1:Int)), he, (leads_ren [] rfl rfl ⟨⟨.inl rfl, rfl, trivial⟩, trivial⟩ ⟨⟨⟨rfl, rfl⟩, rfl⟩, rfl, trivial⟩)⟩
      ·skip
       refine And.intro ?_ trivial
       refine And.intro ?_ trivial
       refine And.intro ?_ trivial
       refine go_rq he fun he => ?_
       have he := ok_some he
       exact ⟨(i + (1:Int)), he, (leads_ren [] rfl rfl ⟨⟨.inl rfl, rfl, trivial⟩, trivial⟩ ⟨⟨⟨rfl, rfl⟩, rfl⟩, rfl, trivial⟩)⟩
    ·refine And.intro ?_ (And.intro ?_ (trivial))
     ·skip
      refine And.intro ?_ (And.intro ?_ (trivial))
      ·skip
       refine And.intro ?_ trivial
       refine And.intro ?_ trivial
       have he := ok_some he
       exact ⟨rfl, _, _, (leads_ren [] (l := [(2, .c (.bool false))]) (st' := []) rfl rfl trivial ⟨.inr rfl, trivial⟩), he⟩
      ·skip
       refine And.intro ?_ trivial
       refine And.intro ?_ trivial
       have he := ok_some he
       exact ⟨rfl, _, _, (leads_ren [] (l := [(2, .c (.bool false))]) (st' := []) rfl rfl trivial ⟨.inr rfl, trivial⟩), he⟩
     ·skip
      refine And.intro ?_ trivial
      refine And.intro ?_ trivial
      refine And.intro ?_ trivial
      have he := ok_some he
      exact ⟨rfl, _, _, (leads_ren [] (l := [(2, .c (.bool false))]) (st' := []) rfl rfl trivial ⟨.inr rfl, trivial⟩), he⟩
   ·refine And.intro ?_ trivial
    refine And.intro ?_ (And.intro ?_ (trivial))
    ·skip
     refine And.intro ?_ (And.intro ?_ (trivial))
     ·skip
      refine And.intro ?_ trivial
      refine And.intro ?_ trivial
      have he := ok_some he
      exact ⟨rfl, _, _, (leads_ren [] (l := [(2, .c (.bool false))]) (st' := []) rfl rfl trivial ⟨.inr rfl, trivial⟩), he⟩
     ·skip
      refine And.intro ?_ trivial
      refine And.intro ?_ trivial
      have he := ok_some he
      exact ⟨rfl, _, _, (leads_ren [] (l := [(2, .c (.bool false))]) (st' := []) rfl rfl trivial ⟨.inr rfl, trivial⟩), he⟩
    ·skip
     refine And.intro ?_ trivial
     refine And.intro ?_ trivial
     refine And.intro ?_ trivial
     have he := ok_some he
     exact ⟨rfl, _, _, (leads_ren [] (l := [(2, .c (.bool false))]) (st' := []) rfl rfl trivial ⟨.inr rfl, trivial⟩), he⟩
  ·refine And.intro ?_ trivial
   refine And.intro ?_ trivial
   refine And.intro ?_ (And.intro ?_ (trivial))
   ·skip
    refine And.intro ?_ (And.intro ?_ (trivial))
    ·skip
     refine And.intro ?_ trivial
     refine And.intro ?_ trivial
     have he := ok_some he
     exact ⟨rfl, _, _, (leads_ren [] (l := [(2, .c (.bool false))]) (st' := []) rfl rfl trivial ⟨.inr rfl, trivial⟩), he⟩
    ·skip
     refine And.intro ?_ trivial
     refine And.intro ?_ trivial
     have he := ok_some he
     exact ⟨rfl, _, _, (leads_ren [] (l := [(2, .c (.bool false))]) (st' := []) rfl rfl trivial ⟨.inr rfl, trivial⟩), he⟩
   ·skip
    refine And.intro ?_ trivial
    refine And.intro ?_ trivial
    refine And.intro ?_ trivial
    have he := ok_some he
    exact ⟨rfl, _, _, (leads_ren [] (l := [(2, .c (.bool false))]) (st' := []) rfl rfl trivial ⟨.inr rfl, trivial⟩), he⟩
 ·refine go_if he (fun he => ?_) fun he => ?_
  ·have he := ok_some he
   exact ⟨rfl, _, _, (leads_ren [] (l := [(2, .c (.bool (decide ((c__0, c__1).2 ≤ (20000:Int)))))]) (st' := []) rfl rfl trivial ⟨.inl rfl, trivial⟩), he⟩
  ·have he := ok_some he
   exact ⟨rfl, _, _, (leads_ren [] (l := [(2, .c (.bool false))]) (st' := []) rfl rfl trivial ⟨.inr rfl, trivial⟩), he⟩

noncomputable def c_spec_ProblemValid : Con := fun args st => match args, st with
  | [.c (.imm (.pair (.sl (.pair (.int .i64) (.int .i64))) (.int .i64)) list_)], [] => .opt (Bool) (spec_ProblemValid list_) (fun r => .ret (.c (.bool r)) [])
  | _, _ => .fail

noncomputable def C_spec_ProblemValid : Cfg := { y := tys, n := 19, h := 0, tab := [(168, c_spec_ConstraintValid)], cut := [], hand := [], good := [], deep := [], sched := [] }

theorem t_spec_ProblemValid : TabOk Tryz.prog C_spec_ProblemValid := by
  refine tabOk_of ?_
  simp only [C_spec_ProblemValid, List.forall_mem_cons]
  exact ⟨k_spec_ConstraintValid, fun p h => by cases h⟩

theorem k_spec_ProblemValid : Entry Tryz.prog 109 c_spec_ProblemValid := by
 refine entry_by (C := C_spec_ProblemValid) mixed tys_ok t_spec_ProblemValid (fn := Tryz.f109) (c := bd Tryz.f109) (by kernel_rfl) (by kernel_rfl) (by kernel_rfl) (by kernel_rfl) ?_
 intro args st k he
 unfold c_spec_ProblemValid at he
 split at he
 rotate_left
 ·exact he.elim
 rename_i list_
 have he : Ok (spec_ProblemValid list_) (fun r => k (.c (.bool r)) []) := he
 refine ⟨rfl, rfl, ?_⟩
 refine loop_model mixed tys_ok t_spec_ProblemValid (S := Int) (I := (fun i => (envOf [(0, .c (.imm y3_ list_)), (3, .c (.int .i64 i))], []))) (f := spec_ProblemValid_l1 list_) (K := (fun r => k (.c (.bool r)) [])) he (leads_ren [] rfl rfl trivial ⟨.inl rfl, rfl, trivial⟩) ?_
 rintro i J1 he
 refine go_if he (fun he => ?_) fun he => ?_
 ·refine go_rq he fun he => ?_
  refine go_bind he fun r1_ he => ?_
  refine go_if he (fun he => ?_) fun he => ?_
  ·have he := ok_some he
   exact ⟨rfl, _, _, Leads.refl _ _, he⟩
  ·refine go_rq he fun he => ?_
   have he := ok_some he
   exact ⟨(i + (1:Int)), he, (leads_ren [] rfl rfl trivial ⟨.inl rfl, rfl, trivial⟩)⟩
 ·have he := ok_some he
  exact ⟨rfl, _, _, Leads.refl _ _, he⟩

noncomputable def c_spec_l5Number : Con := fun args st => match args, st with
  | [.c (.imm .bool values)], [] => .opt (Int) (spec_l5Number values) (fun r => .ret (.c (.int .i64 r)) [])
  | _, _ => .fail

noncomputable def C_spec_l5Number : Cfg := { y := tys, n := 20, h := 0, tab := [], cut := [], hand := [], good := [], deep := [], sched := [] }

theorem t_spec_l5Number : TabOk Tryz.prog C_spec_l5Number := tabOk_of (fun p h => by cases h)

theorem k_spec_l5Number : Entry Tryz.prog 230 c_spec_l5Number := by
 refine entry_by (C := C_spec_l5Number) mixed tys_ok t_spec_l5Number (fn := Tryz.f230) (c := bd Tryz.f230) (by kernel_rfl) (by kernel_rfl) (by kernel_rfl) (by kernel_rfl) ?_
 intro args st k he
 unfold c_spec_l5Number at he
 split at he
 rotate_left
 ·exact he.elim
 rename_i values
 have he : Ok (spec_l5Number values) (fun r => k (.c (.int .i64 r)) []) := he
 refine ⟨rfl, rfl, ?_⟩
 refine loop_model mixed tys_ok t_spec_l5Number (S := Int × Int) (I := (fun (n, i) => (envOf [(0, .c (.imm .bool values)), (3, .c (.int .i64 n)), (4, .c (.int .i64 i))], []))) (f := spec_l5Number_l1 values) (K := (fun r => k (.c (.int .i64 r)) [])) he (leads_ren [] rfl rfl trivial ⟨.inl rfl, rfl, rfl, trivial⟩) ?_
 rintro ⟨n, i⟩ J1 he
 refine go_if he (fun he => ?_) fun he => ?_
 ·refine go_rq he fun he => ?_
  refine go_rq he fun he => ?_
  refine go_if he (fun he => ?_) fun he => ?_
  ·refine go_rq he fun he => ?_
   refine go_rq he fun he => ?_
   have he := ok_some he
   exact ⟨(((n * (2:Int)) + (1:Int)), (i + (1:Int))), he, (leads_ren [] rfl rfl trivial ⟨.inl rfl, rfl, rfl, trivial⟩)⟩
  ·refine go_rq he fun he => ?_
   have he := ok_some he
   exact ⟨((n * (2:Int)), (i + (1:Int))), he, (leads_ren [] rfl rfl trivial ⟨.inl rfl, rfl, rfl, trivial⟩)⟩
 ·have he := ok_some he
  exact ⟨rfl, _, _, Leads.refl _ _, he⟩

noncomputable def c_spec_l5Values : Con := fun args st => match args, st with
  | [.c (.int .i64 n)], [] => .opt ((List Bool)) (spec_l5Values n) (fun r => .ret (.c (.own 900 false)) [(900, .sl 4 .bool r .shallow)])
  | _, _ => .fail

noncomputable def C_spec_l5Values : Cfg := { y := tys, n := 19, h := 0, tab := [], cut := [], hand := [], good := [], deep := [], sched := [] }

theorem t_spec_l5Values : TabOk Tryz.prog C_spec_l5Values := tabOk_of (fun p h => by cases h)

theorem k_spec_l5Values : Entry Tryz.prog 232 c_spec_l5Values := by
 refine entry_by (C := C_spec_l5Values) mixed tys_ok t_spec_l5Values (fn := Tryz.f232) (c := bd Tryz.f232) (by kernel_rfl) (by kernel_rfl) (by kernel_rfl) (by kernel_rfl) ?_
 intro args st k he
 unfold c_spec_l5Values at he
 split at he
 rotate_left
 ·exact he.elim
 rename_i n
 have he : Ok (spec_l5Values n) (fun r => k (.c (.own 900 false)) [(900, .sl 4 .bool r .shallow)]) := he
 refine ⟨rfl, rfl, ?_⟩
 refine go_rq he fun he => ?_
 refine loop_model mixed tys_ok t_spec_l5Values (S := Int × Int × (List Bool)) (I := (fun (n1, i, out) => (envOf [(0, .c (.int .i64 n1)), (3, .c (.own 10000000 false)), (4, .c (.int .i64 i))], [(10000000, .sl 4 .bool out .shallow)]))) (f := spec_l5Values_l1) (K := (fun r => k (.c (.own 900 false)) [(900, .sl 4 .bool r .shallow)])) he (leads_ren [(10000000, 5)] rfl rfl ⟨⟨rfl, rfl⟩, trivial⟩ ⟨rfl, ⟨⟨rfl, rfl⟩, trivial⟩, rfl, trivial⟩) ?_
 rintro ⟨n1, i, out⟩ J1 he
 refine go_if he (fun he => ?_) fun he => ?_
 ·refine go_rq he fun he => ?_
  refine go_rq he fun he => ?_
  refine go_rq he fun he => ?_
  refine go_rq he fun he => ?_
  have he := ok_some he
  exact ⟨((n1 / (2:Int)), (i - (1:Int)), (out.set i.toNat ((n1 % (2:Int)) == (1:Int)))), he, (leads_ren [] rfl rfl ⟨⟨rfl, rfl⟩, trivial⟩ ⟨rfl, ⟨⟨rfl, rfl⟩, trivial⟩, rfl, trivial⟩)⟩
 ·have he := ok_some he
  exact ⟨rfl, _, _, (leads_ren [(900, 10000000)] (l := [(2, .c (.own 900 false))]) (st' := [(900, .sl 4 .bool out .shallow)]) rfl rfl ⟨⟨rfl, rfl⟩, trivial⟩ ⟨⟨⟨rfl, rfl⟩, trivial⟩, trivial⟩), he⟩

noncomputable def c_spec_l1True : Con := fun args st => match args, st with
  | [.c (.imm .bool values), .c (.int .i64 lit)], [] => .opt (Bool) (spec_l1True values lit) (fun r => .ret (.c (.bool r)) [])
  | _, _ => .fail

noncomputable def C_spec_l1True : Cfg := { y := tys, n := 19, h := 0, tab := [], cut := [], hand := [], good := [], deep := [], sched := [] }

theorem t_spec_l1True : TabOk Tryz.prog C_spec_l1True := tabOk_of (fun p h => by cases h)

theorem k_spec_l1True : Entry Tryz.prog 289 c_spec_l1True := by
 refine entry_by (C := C_spec_l1True) mixed tys_ok t_spec_l1True (fn := Tryz.f289) (c := bd Tryz.f289) (by kernel_rfl) (by kernel_rfl) (by kernel_rfl) (by kernel_rfl) ?_
 intro args st k he
 unfold c_spec_l1True at he
 split at he
 rotate_left
 ·exact he.elim
 rename_i values lit
 have he : Ok (spec_l1True values lit) (fun r => k (.c (.bool r)) []) := he
 refine ⟨rfl, rfl, ?_⟩
 refine go_if he (fun he => ?_) fun he => ?_
 ·refine go_rq he fun he => ?_
  refine go_rq he fun he => ?_
  have he := ok_some he
  exact ⟨rfl, _, _, Leads.refl _ _, he⟩
 ·refine go_rq he fun he => ?_
  refine go_rq he fun he => ?_
  refine go_rq he fun he => ?_
  have he := ok_some he
  exact ⟨rfl, _, _, Leads.refl _ _, he⟩

noncomputable def c_spec_l1Eval : Con := fun args st => match args, st with
  | [.agg [.imm (.pair (.int .i64) (.int .i64)) c__0, .int .i64 c__1], .c (.imm .bool values)], [] => .opt (Bool) (spec_l1Eval (c__0, c__1) values) (fun r => .ret (.c (.bool r)) [])
  | _, _ => .fail

noncomputable def C_spec_l1Eval : Cfg := { y := tys, n := 34, h := 0, tab := [(289, c_spec_l1True)], cut := [], hand := [], good := [], deep := [], sched := [] }

theorem t_spec_l1Eval : TabOk Tryz.prog C_spec_l1Eval := by
  refine tabOk_of ?_
  simp only [C_spec_l1Eval, List.forall_mem_cons]
  exact ⟨k_spec_l1True, fun p h => by cases h⟩

theorem k_spec_l1Eval : Entry Tryz.prog 257 c_spec_l1Eval := by
 refine entry_by (C := C_spec_l1Eval) mixed tys_ok t_spec_l1Eval (fn := Tryz.f257) (c := bd Tryz.f257) (by kernel_rfl) (by kernel_rfl) (by kernel_rfl) (by kernel_rfl) ?_
 intro args st k he
 unfold c_spec_l1Eval at he
 split at he
 rotate_left
 ·exact he.elim
 rename_i c__0 c__1 values
 have he : Ok (spec_l1Eval (c__0, c__1) values) (fun r => k (.c (.bool r)) []) := he
 refine ⟨rfl, rfl, ?_⟩
 refine loop_model mixed tys_ok t_spec_l1Eval (S := Int × Int) (I := (fun (n, i) => (envOf [(1, .c (.imm .bool values)), (2, .c (.ptr 10000000 0)), (5, .c (.int .i64 n)), (6, .c (.int .i64 i))], [(10000000, .rc [.imm y2_ (c__0, c__1).1, .int .i64 (c__0, c__1).2])]))) (f := spec_l1Eval_l1 (c__0, c__1) values) (K := (fun r => k (.c (.bool r)) [])) he (leads_ren [(10000000, 2)] rfl rfl ⟨⟨.inl rfl, rfl, trivial⟩, trivial⟩ ⟨.inl rfl, ⟨⟨rfl, rfl⟩, rfl⟩, rfl, rfl, trivial⟩) ?_
 rintro ⟨n, i⟩ J1 he
 refine go_if he (fun he => ?_) fun he => ?_
 ·refine go_rq he fun he => ?_
  refine go_bind he fun r1_ he => ?_
  refine go_if he (fun he => ?_) fun he => ?_
  ·refine go_rq he fun he => ?_
   refine go_rq he fun he => ?_
   refine go_rq he fun he => ?_
   have he := ok_some he
   exact ⟨((n + ((c__0, c__1).1.getD i.toNat (0, 0)).1), (i + (1:Int))), he, (leads_ren [] rfl rfl ⟨⟨.inl rfl, rfl, trivial⟩, trivial⟩ ⟨.inl rfl, ⟨⟨rfl, rfl⟩, rfl⟩, rfl, rfl, trivial⟩)⟩
  ·refine go_rq he fun he => ?_
   have he := ok_some he
   exact ⟨(n, (i + (1:Int))), he, (leads_ren [] rfl rfl ⟨⟨.inl rfl, rfl, trivial⟩, trivial⟩ ⟨.inl rfl, ⟨⟨rfl, rfl⟩, rfl⟩, rfl, rfl, trivial⟩)⟩
 ·have he := ok_some he
  exact ⟨rfl, _, _, (leads_ren [] (l := [(4, .c (.bool (decide ((c__0, c__1).2 ≤ n))))]) (st' := []) rfl rfl trivial ⟨.inl rfl, trivial⟩), he⟩

noncomputable def c_spec_l3All : Con := fun args st => match args, st with
  | [.c (.imm (.pair (.sl (.pair (.int .i64) (.int .i64))) (.int .i64)) list_), .c (.imm .bool values)], [] => .opt (Bool) (spec_l3All list_ values) (fun r => .ret (.c (.bool r)) [])
  | _, _ => .fail

noncomputable def C_spec_l3All : Cfg := { y := tys, n := 19, h := 0, tab := [(257, c_spec_l1Eval)], cut := [], hand := [], good := [], deep := [], sched := [] }

theorem t_spec_l3All : TabOk Tryz.prog C_spec_l3All := by
  refine tabOk_of ?_
  simp only [C_spec_l3All, List.forall_mem_cons]
  exact ⟨k_spec_l1Eval, fun p h => by cases h⟩

theorem k_spec_l3All : Entry Tryz.prog 231 c_spec_l3All := by
 refine entry_by (C := C_spec_l3All) mixed tys_ok t_spec_l3All (fn := Tryz.f231) (c := bd Tryz.f231) (by kernel_rfl) (by kernel_rfl) (by kernel_rfl) (by kernel_rfl) ?_
 intro args st k he
 unfold c_spec_l3All at he
 split at he
 rotate_left
 ·exact he.elim
 rename_i list_ values
 have he : Ok (spec_l3All list_ values) (fun r => k (.c (.bool r)) []) := he
 refine ⟨rfl, rfl, ?_⟩
 refine loop_model mixed tys_ok t_spec_l3All (S := Int) (I := (fun i => (envOf [(0, .c (.imm y3_ list_)), (1, .c (.imm .bool values)), (5, .c (.int .i64 i))], []))) (f := spec_l3All_l1 list_ values) (K := (fun r => k (.c (.bool r)) [])) he (leads_ren [] rfl rfl trivial ⟨.inl rfl, .inl rfl, rfl, trivial⟩) ?_
 rintro i J1 he
 refine go_if he (fun he => ?_) fun he => ?_
 ·refine go_rq he fun he => ?_
  refine go_bind he fun r1_ he => ?_
  refine go_if he (fun he => ?_) fun he => ?_
  ·have he := ok_some he
   exact ⟨rfl, _, _, Leads.refl _ _, he⟩
  ·refine go_rq he fun he => ?_
   have he := ok_some he
   exact ⟨(i + (1:Int)), he, (leads_ren [] rfl rfl trivial ⟨.inl rfl, .inl rfl, rfl, trivial⟩)⟩
 ·have he := ok_some he
  exact ⟨rfl, _, _, Leads.refl _ _, he⟩

noncomputable def c_spec_NextSolution : Con := fun args st => match args, st with
  | [.c (.imm (.pair (.sl (.pair (.int .i64) (.int .i64))) (.int .i64)) list_), .c (.imm .bool values)], [] => .opt (Bool × (List Bool)) (spec_NextSolution list_ values) (fun r => .ret (.tup [.c (.own 900 false), .c (.bool r.1)]) [(900, .sl 4 .bool r.2 .shallow)])
  | _, _ => .fail

noncomputable def C_spec_NextSolution : Cfg := { y := tys, n := 29, h := 0, tab := [(109, c_spec_ProblemValid), (230, c_spec_l5Number), (231, c_spec_l3All), (232, c_spec_l5Values)], cut := [], hand := [], good := [], deep := [], sched := [] }

theorem t_spec_NextSolution : TabOk Tryz.prog C_spec_NextSolution := by
  refine tabOk_of ?_
  simp only [C_spec_NextSolution, List.forall_mem_cons]
  exact ⟨k_spec_ProblemValid, k_spec_l5Number, k_spec_l3All, k_spec_l5Values, fun p h => by cases h⟩

theorem k_spec_NextSolution : Entry Tryz.prog 169 c_spec_NextSolution := by
 refine entry_by (C := C_spec_NextSolution) mixed tys_ok t_spec_NextSolution (fn := Tryz.f169) (c := bd Tryz.f169) (by kernel_rfl) (by kernel_rfl) (by kernel_rfl) (by kernel_rfl) ?_
 intro args st k he
 unfold c_spec_NextSolution at he
 split at he
 rotate_left
 ·exact he.elim
 rename_i list_ values
 have he : Ok (spec_NextSolution list_ values) (fun r => k (.tup [.c (.own 900 false), .c (.bool r.1)]) [(900, .sl 4 .bool r.2 .shallow)]) := he
 refine ⟨rfl, rfl, ?_⟩
 refine go_bind he fun r1_ he => ?_
 refine go_if2 he (fun he => ?_) fun he => ?_
 ·refine go_if he (fun he => ?_) fun he => ?_
  ·have he := ok_some he
   exact ⟨rfl, _, _, (leads_ren [(900, 15)] (l := [(4, .c (.own 900 false)), (5, .c (.bool false))]) (st' := [(900, .sl 4 .bool ([] : List Bool) .shallow)]) rfl rfl ⟨⟨rfl, rfl⟩, trivial⟩ ⟨⟨⟨rfl, rfl⟩, trivial⟩, .inr rfl, trivial⟩), he⟩
  ·refine go_bind he fun r2_ he => ?_
   refine loop_model mixed tys_ok t_spec_NextSolution (S := Int) (I := (fun k_ => (envOf [(0, .c (.imm y3_ list_)), (6, .c (.int .i64 k_))], []))) (f := spec_NextSolution_l1 list_) (K := (fun r => k (.tup [.c (.own 900 false), .c (.bool r.1)]) [(900, .sl 4 .bool r.2 .shallow)])) he (leads_ren [] rfl rfl trivial ⟨.inl rfl, rfl, trivial⟩) ?_
   rintro k_ J1 he
   refine go_if he (fun he => ?_) fun he => ?_
   ·refine go_bind he fun r3_ he => ?_
    refine go_bind he fun r4_ he => ?_
    refine go_if he (fun he => ?_) fun he => ?_
    ·refine go_bind he fun r5_ he => ?_
     have he := ok_some he
     exact ⟨rfl, _, _, (leads_ren [(900, 28900)] (l := [(4, .c (.own 900 false)), (5, .c (.bool true))]) (st' := [(900, .sl 4 .bool r5_ .shallow)]) rfl rfl ⟨⟨rfl, rfl⟩, trivial⟩ ⟨⟨⟨rfl, rfl⟩, trivial⟩, .inr rfl, trivial⟩), he⟩
    ·refine go_rq he fun he => ?_
     have he := ok_some he
     exact ⟨(k_ + (1:Int)), he, (leads_ren [] rfl rfl trivial ⟨.inl rfl, rfl, trivial⟩)⟩
   ·have he := ok_some he
    exact ⟨rfl, _, _, (leads_ren [(900, 28)] (l := [(4, .c (.own 900 false)), (5, .c (.bool false))]) (st' := [(900, .sl 4 .bool ([] : List Bool) .shallow)]) rfl rfl ⟨⟨rfl, rfl⟩, trivial⟩ ⟨⟨⟨rfl, rfl⟩, trivial⟩, .inr rfl, trivial⟩), he⟩
 ·have he := ok_some he
  exact ⟨rfl, _, _, (leads_ren [(900, 15)] (l := [(4, .c (.own 900 false)), (5, .c (.bool false))]) (st' := [(900, .sl 4 .bool ([] : List Bool) .shallow)]) rfl rfl ⟨⟨rfl, rfl⟩, trivial⟩ ⟨⟨⟨rfl, rfl⟩, trivial⟩, .inr rfl, trivial⟩), he⟩

noncomputable def c_spec_l11Open : Con := fun args st => match args, st with
  | [.c (.imm (.pair (.sl (.pair (.int .i64) (.int .i64))) (.int .i64)) list_)], [] => .opt (Bool) (spec_l11Open list_) (fun r => .ret (.c (.bool r)) [])
  | _, _ => .fail

noncomputable def C_spec_l11Open : Cfg := { y := tys, n := 12, h := 0, tab := [(169, c_spec_NextSolution)], cut := [], hand := [], good := [], deep := [], sched := [] }

theorem t_spec_l11Open : TabOk Tryz.prog C_spec_l11Open := by
  refine tabOk_of ?_
  simp only [C_spec_l11Open, List.forall_mem_cons]
  exact ⟨k_spec_NextSolution, fun p h => by cases h⟩

theorem k_spec_l11Open : Entry Tryz.prog 110 c_spec_l11Open := by
 refine entry_by (C := C_spec_l11Open) mixed tys_ok t_spec_l11Open (fn := Tryz.f110) (c := bd Tryz.f110) (by kernel_rfl) (by kernel_rfl) (by kernel_rfl) (by kernel_rfl) ?_
 intro args st k he
 unfold c_spec_l11Open at he
 split at he
 rotate_left
 ·exact he.elim
 rename_i list_
 have he : Ok (spec_l11Open list_) (fun r => k (.c (.bool r)) []) := he
 refine ⟨rfl, rfl, ?_⟩
 refine go_rq he fun he => ?_
 refine go_bind he fun r1_ he => ?_
 have he := ok_some he
 exact ⟨rfl, _, _, (leads_ren [] (l := [(2, .c (.bool r1_.1))]) (st' := []) rfl rfl trivial ⟨.inl rfl, trivial⟩), he⟩

noncomputable def c_spec_l11Count : Con := fun args st => match args, st with
  | [.c (.int .i64 n)], [] => .opt ((List Int)) (spec_l11Count n) (fun r => .ret (.c (.own 900 false)) [(900, .sl 3 y0_ r .shallow)])
  | _, _ => .fail

noncomputable def C_spec_l11Count : Cfg := { y := tys, n := 16, h := 0, tab := [], cut := [], hand := [], good := [], deep := [], sched := [] }

theorem t_spec_l11Count : TabOk Tryz.prog C_spec_l11Count := tabOk_of (fun p h => by cases h)

theorem k_spec_l11Count : Entry Tryz.prog 111 c_spec_l11Count := by
 refine entry_by (C := C_spec_l11Count) mixed tys_ok t_spec_l11Count (fn := Tryz.f111) (c := bd Tryz.f111) (by kernel_rfl) (by kernel_rfl) (by kernel_rfl) (by kernel_rfl) ?_
 intro args st k he
 unfold c_spec_l11Count at he
 split at he
 rotate_left
 ·exact he.elim
 rename_i n
 have he : Ok (spec_l11Count n) (fun r => k (.c (.own 900 false)) [(900, .sl 3 y0_ r .shallow)]) := he
 refine ⟨rfl, rfl, ?_⟩
 refine loop_model mixed tys_ok t_spec_l11Count (S := Int × (List Int)) (I := (fun (i, out) => (envOf [(0, .c (.int .i64 n)), (3, .c (.own 10000000 false)), (4, .c (.int .i64 i))], [(10000000, .sl 3 y0_ out .shallow)]))) (f := spec_l11Count_l1 n) (K := (fun r => k (.c (.own 900 false)) [(900, .sl 3 y0_ r .shallow)])) he (leads_ren [(10000000, 5)] rfl rfl ⟨⟨rfl, rfl⟩, trivial⟩ ⟨rfl, ⟨⟨rfl, rfl⟩, trivial⟩, rfl, trivial⟩) ?_
 rintro ⟨i, out⟩ J1 he
 refine go_if he (fun he => ?_) fun he => ?_
 ·refine go_rq he fun he => ?_
  refine go_rq he fun he => ?_
  have he := ok_some he
  exact ⟨((i + (1:Int)), (out ++ [i])), he, (leads_ren [(10000000, 14)] rfl rfl ⟨⟨rfl, rfl⟩, trivial⟩ ⟨rfl, ⟨⟨rfl, rfl⟩, trivial⟩, rfl, trivial⟩)⟩
 ·have he := ok_some he
  exact ⟨rfl, _, _, (leads_ren [(900, 10000000)] (l := [(2, .c (.own 900 false))]) (st' := [(900, .sl 3 y0_ out .shallow)]) rfl rfl ⟨⟨rfl, rfl⟩, trivial⟩ ⟨⟨⟨rfl, rfl⟩, trivial⟩, trivial⟩), he⟩

noncomputable def c_spec_l11Without : Con := fun args st => match args, st with
  | [.c (.imm (.int .i64) list_), .c (.int .i64 at_)], [] => .opt ((List Int)) (spec_l11Without list_ at_) (fun r => .ret (.c (.own 900 false)) [(900, .sl 3 y0_ r .shallow)])
  | _, _ => .fail

noncomputable def C_spec_l11Without : Cfg := { y := tys, n := 15, h := 0, tab := [], cut := [], hand := [], good := [], deep := [], sched := [(1, (.first 1 (.first 2 (.first 5 (.first 6 (.first 7 (.alt 0 (.alt 3 (.alt 4 (.alt 8 (.alt 9 (.first 10 .done) .stop) .stop) (.alt 8 (.alt 4 (.alt 9 (.first 10 .done) .stop) .stop) .stop)) (.alt 8 (.alt 3 (.alt 4 (.alt 9 (.first 10 .done) .stop) .stop) .stop) .stop)) (.alt 3 (.alt 0 (.alt 4 (.alt 8 (.alt 9 (.first 10 .done) .stop) .stop) (.alt 8 (.alt 4 (.alt 9 (.first 10 .done) .stop) .stop) .stop)) (.alt 8 (.alt 0 (.alt 4 (.alt 9 (.first 10 .done) .stop) .stop) .stop) .stop)) (.alt 8 (.alt 0 (.alt 3 (.alt 4 (.alt 9 (.first 10 .done) .stop) .stop) .stop) (.alt 3 (.alt 0 (.alt 4 (.alt 9 (.first 10 .done) .stop) .stop) .stop) .stop)) .stop)))))))))] }

theorem t_spec_l11Without : TabOk Tryz.prog C_spec_l11Without := tabOk_of (fun p h => by cases h)

theorem k_spec_l11Without : Entry Tryz.prog 113 c_spec_l11Without := by
 refine entry_by (C := C_spec_l11Without) mixed tys_ok t_spec_l11Without (fn := Tryz.f113) (c := bd Tryz.f113) (by kernel_rfl) (by kernel_rfl) (by kernel_rfl) (by kernel_rfl) ?_
 intro args st k he
 unfold c_spec_l11Without at he
 split at he
 rotate_left
 ·exact he.elim
 rename_i list_ at_
 have he : Ok (spec_l11Without list_ at_) (fun r => k (.c (.own 900 false)) [(900, .sl 3 y0_ r .shallow)]) := he
 refine ⟨rfl, rfl, ?_⟩
 refine And.intro (by kernel_rfl) ?_
 refine go_rq he fun he => ?_
 have he := ok_rq he
 have hq1 := he.1
 have he := he.2
 have he := ok_rq he
 have hq2 := he.1
 have he := he.2
 have he := ok_rq he
 have hq3 := he.1
 have he := he.2
 have he := ok_rq he
 have hq4 := he.1
 have he := he.2
 refine And.intro ?_ (And.intro ?_ (And.intro ?_ (trivial)))
 ·skip
  refine And.intro ?_ (And.intro ?_ (trivial))
  ·skip
   refine And.intro hq1 ?_
   refine And.intro ?_ (And.intro ?_ (trivial))
   ·skip
    refine And.intro hq2 ?_
    refine And.intro ?_ trivial
    refine And.intro hq3 ?_
    refine And.intro ?_ trivial
    refine And.intro hq4 ?_
    have he := ok_some he
    exact ⟨rfl, _, _, (leads_ren [(900, 14)] (l := [(4, .c (.own 900 false))]) (st' := [(900, .sl 3 y0_ ((([] : List Int) ++ (list_.take at_.toNat)) ++ (list_.drop (at_ + (1:Int)).toNat)) .shallow)]) rfl rfl ⟨⟨rfl, rfl⟩, trivial⟩ ⟨⟨⟨rfl, rfl⟩, trivial⟩, trivial⟩), he⟩
   ·skip
    refine And.intro hq3 ?_
    refine And.intro ?_ trivial
    refine And.intro hq2 ?_
    refine And.intro ?_ trivial
    refine And.intro hq4 ?_
    have he := ok_some he
    exact ⟨rfl, _, _, (leads_ren [(900, 14)] (l := [(4, .c (.own 900 false))]) (st' := [(900, .sl 3 y0_ ((([] : List Int) ++ (list_.take at_.toNat)) ++ (list_.drop (at_ + (1:Int)).toNat)) .shallow)]) rfl rfl ⟨⟨rfl, rfl⟩, trivial⟩ ⟨⟨⟨rfl, rfl⟩, trivial⟩, trivial⟩), he⟩
  ·skip
   refine And.intro hq3 ?_
   refine And.intro ?_ trivial
   refine And.intro hq1 ?_
   refine And.intro ?_ trivial
   refine And.intro hq2 ?_
   refine And.intro ?_ trivial
   refine And.intro hq4 ?_
   have he := ok_some he
   exact ⟨rfl, _, _, (leads_ren [(900, 14)] (l := [(4, .c (.own 900 false))]) (st' := [(900, .sl 3 y0_ ((([] : List Int) ++ (list_.take at_.toNat)) ++ (list_.drop (at_ + (1:Int)).toNat)) .shallow)]) rfl rfl ⟨⟨rfl, rfl⟩, trivial⟩ ⟨⟨⟨rfl, rfl⟩, trivial⟩, trivial⟩), he⟩
 ·skip
  refine And.intro hq1 ?_
  refine And.intro ?_ (And.intro ?_ (trivial))
  ·skip
   refine And.intro ?_ (And.intro ?_ (trivial))
   ·skip
    refine And.intro hq2 ?_
    refine And.intro ?_ trivial
    refine And.intro hq3 ?_
    refine And.intro ?_ trivial
    refine And.intro hq4 ?_
    have he := ok_some he
    exact ⟨rfl, _, _, (leads_ren [(900, 14)] (l := [(4, .c (.own 900 false))]) (st' := [(900, .sl 3 y0_ ((([] : List Int) ++ (list_.take at_.toNat)) ++ (list_.drop (at_ + (1:Int)).toNat)) .shallow)]) rfl rfl ⟨⟨rfl, rfl⟩, trivial⟩ ⟨⟨⟨rfl, rfl⟩, trivial⟩, trivial⟩), he⟩
   ·skip
    refine And.intro hq3 ?_
    refine And.intro ?_ trivial
    refine And.intro hq2 ?_
    refine And.intro ?_ trivial
    refine And.intro hq4 ?_
    have he := ok_some he
    exact ⟨rfl, _, _, (leads_ren [(900, 14)] (l := [(4, .c (.own 900 false))]) (st' := [(900, .sl 3 y0_ ((([] : List Int) ++ (list_.take at_.toNat)) ++ (list_.drop (at_ + (1:Int)).toNat)) .shallow)]) rfl rfl ⟨⟨rfl, rfl⟩, trivial⟩ ⟨⟨⟨rfl, rfl⟩, trivial⟩, trivial⟩), he⟩
  ·skip
   refine And.intro hq3 ?_
   refine And.intro ?_ trivial
   refine And.intro ?_ trivial
   refine And.intro hq2 ?_
   refine And.intro ?_ trivial
   refine And.intro hq4 ?_
   have he := ok_some he
   exact ⟨rfl, _, _, (leads_ren [(900, 14)] (l := [(4, .c (.own 900 false))]) (st' := [(900, .sl 3 y0_ ((([] : List Int) ++ (list_.take at_.toNat)) ++ (list_.drop (at_ + (1:Int)).toNat)) .shallow)]) rfl rfl ⟨⟨rfl, rfl⟩, trivial⟩ ⟨⟨⟨rfl, rfl⟩, trivial⟩, trivial⟩), he⟩
 ·skip
  refine And.intro hq3 ?_
  refine And.intro ?_ (And.intro ?_ (trivial))
  ·skip
   refine And.intro ?_ trivial
   refine And.intro hq1 ?_
   refine And.intro ?_ trivial
   refine And.intro hq2 ?_
   refine And.intro ?_ trivial
   refine And.intro hq4 ?_
   have he := ok_some he
   exact ⟨rfl, _, _, (leads_ren [(900, 14)] (l := [(4, .c (.own 900 false))]) (st' := [(900, .sl 3 y0_ ((([] : List Int) ++ (list_.take at_.toNat)) ++ (list_.drop (at_ + (1:Int)).toNat)) .shallow)]) rfl rfl ⟨⟨rfl, rfl⟩, trivial⟩ ⟨⟨⟨rfl, rfl⟩, trivial⟩, trivial⟩), he⟩
  ·skip
   refine And.intro hq1 ?_
   refine And.intro ?_ trivial
   refine And.intro ?_ trivial
   refine And.intro hq2 ?_
   refine And.intro ?_ trivial
   refine And.intro hq4 ?_
   have he := ok_some he
   exact ⟨rfl, _, _, (leads_ren [(900, 14)] (l := [(4, .c (.own 900 false))]) (st' := [(900, .sl 3 y0_ ((([] : List Int) ++ (list_.take at_.toNat)) ++ (list_.drop (at_ + (1:Int)).toNat)) .shallow)]) rfl rfl ⟨⟨rfl, rfl⟩, trivial⟩ ⟨⟨⟨rfl, rfl⟩, trivial⟩, trivial⟩), he⟩

noncomputable def c_spec_l11Sub : Con := fun args st => match args, st with
  | [.c (.imm (.pair (.sl (.pair (.int .i64) (.int .i64))) (.int .i64)) list_), .c (.imm (.int .i64) keep)], [] => .opt ((List D3_)) (spec_l11Sub list_ keep) (fun r => .ret (.c (.own 900 false)) [(900, .sl 89 y3_ r (.deep true .no))])
  | _, _ => .fail

noncomputable def C_spec_l11Sub : Cfg := { y := tys, n := 26, h := 0, tab := [(136, c_spec_l1Copy)], cut := [], hand := [], good := [], deep := [7, 23], sched := [] }

theorem t_spec_l11Sub : TabOk Tryz.prog C_spec_l11Sub := by
  refine tabOk_of ?_
  simp only [C_spec_l11Sub, List.forall_mem_cons]
  exact ⟨k_spec_l1Copy, fun p h => by cases h⟩

theorem k_spec_l11Sub : Entry Tryz.prog 112 c_spec_l11Sub := by
 refine entry_by (C := C_spec_l11Sub) mixed tys_ok t_spec_l11Sub (fn := Tryz.f112) (c := bd Tryz.f112) (by kernel_rfl) (by kernel_rfl) (by kernel_rfl) (by kernel_rfl) ?_
 intro args st k he
 unfold c_spec_l11Sub at he
 split at he
 rotate_left
 ·exact he.elim
 rename_i list_ keep
 have he : Ok (spec_l11Sub list_ keep) (fun r => k (.c (.own 900 false)) [(900, .sl 89 y3_ r (.deep true .no))]) := he
 refine ⟨rfl, rfl, ?_⟩
 refine loop_model mixed tys_ok t_spec_l11Sub (S := Int × (List D3_)) (I := (fun (i, out) => (envOf [(0, .c (.imm y3_ list_)), (1, .c (.imm y0_ keep)), (5, .c (.own 10000000 false)), (6, .c (.int .i64 i))], [(10000000, .sl 89 y3_ out (.deep true .no))]))) (f := spec_l11Sub_l1 list_ keep) (K := (fun r => k (.c (.own 900 false)) [(900, .sl 89 y3_ r (.deep true .no))])) he (leads_ren [(10000000, 7)] rfl rfl ⟨⟨rfl, rfl⟩, trivial⟩ ⟨.inl rfl, .inl rfl, ⟨⟨rfl, rfl⟩, trivial⟩, rfl, trivial⟩) ?_
 rintro ⟨i, out⟩ J1 he
 refine go_if he (fun he => ?_) fun he => ?_
 ·refine go_rq he fun he => ?_
  refine go_rq he fun he => ?_
  refine go_bind he fun r2_ he => ?_
  refine go_rq he fun he => ?_
  refine go_rq he fun he => ?_
  have he := ok_some he
  exact ⟨((i + (1:Int)), (out ++ [(r2_.2, r2_.1)])), he, (leads_ren [(10000000, 24)] rfl rfl ⟨⟨rfl, rfl⟩, trivial⟩ ⟨.inl rfl, .inl rfl, ⟨⟨rfl, rfl⟩, trivial⟩, rfl, trivial⟩)⟩
 ·have he := ok_some he
  exact ⟨rfl, _, _, (leads_ren [(900, 10000000)] (l := [(4, .c (.own 900 false))]) (st' := [(900, .sl 89 y3_ out (.deep true .no))]) rfl rfl ⟨⟨rfl, rfl⟩, trivial⟩ ⟨⟨⟨rfl, rfl⟩, trivial⟩, trivial⟩), he⟩

noncomputable def c_spec_MinimalCore : Con := fun args st => match args, st with
  | [.c (.imm (.pair (.sl (.pair (.int .i64) (.int .i64))) (.int .i64)) list_)], [] => .opt (Bool × (List Int)) (spec_MinimalCore list_) (fun r => .ret (.tup [.c (.own 900 false), .c (.bool r.1)]) [(900, .sl 3 y0_ r.2 .shallow)])
  | _, _ => .fail

noncomputable def C_spec_MinimalCore : Cfg := { y := tys, n := 50, h := 0, tab := [(109, c_spec_ProblemValid), (110, c_spec_l11Open), (111, c_spec_l11Count), (112, c_spec_l11Sub), (113, c_spec_l11Without)], cut := [], hand := [], good := [], deep := [], sched := [] }

theorem t_spec_MinimalCore : TabOk Tryz.prog C_spec_MinimalCore := by
  refine tabOk_of ?_
  simp only [C_spec_MinimalCore, List.forall_mem_cons]
  exact ⟨k_spec_ProblemValid, k_spec_l11Open, k_spec_l11Count, k_spec_l11Sub, k_spec_l11Without, fun p h => by cases h⟩

theorem k_spec_MinimalCore : Entry Tryz.prog 43 c_spec_MinimalCore := by
 refine entry_by (C := C_spec_MinimalCore) mixed tys_ok t_spec_MinimalCore (fn := Tryz.f43) (c := bd Tryz.f43) (by kernel_rfl) (by kernel_rfl) (by kernel_rfl) (by kernel_rfl) ?_
 intro args st k he
 unfold c_spec_MinimalCore at he
 split at he
 rotate_left
 ·exact he.elim
 rename_i list_
 have he : Ok (spec_MinimalCore list_) (fun r => k (.tup [.c (.own 900 false), .c (.bool r.1)]) [(900, .sl 3 y0_ r.2 .shallow)]) := he
 refine ⟨rfl, rfl, ?_⟩
 refine go_bind he fun r1_ he => ?_
 refine go_if2 he (fun he => ?_) fun he => ?_
 ·refine go_bind he fun r2_ he => ?_
  refine go_if he (fun he => ?_) fun he => ?_
  ·have he := ok_some he
   exact ⟨rfl, _, _, (leads_ren [(900, 14)] (l := [(2, .c (.own 900 false)), (3, .c (.bool false))]) (st' := [(900, .sl 3 y0_ ([] : List Int) .shallow)]) rfl rfl ⟨⟨rfl, rfl⟩, trivial⟩ ⟨⟨⟨rfl, rfl⟩, trivial⟩, .inr rfl, trivial⟩), he⟩
  ·refine go_bind he fun r3_ he => ?_
   refine go_rq he fun he => ?_
   refine loop_model mixed tys_ok t_spec_MinimalCore (S := Int × (List Int)) (I := (fun (i, keep1) => (envOf [(0, .c (.imm y3_ list_)), (4, .c (.own 10000000 false)), (5, .c (.int .i64 i))], [(10000000, .sl 3 y0_ keep1 .shallow)]))) (f := spec_MinimalCore_l1 list_) (K := (fun r => k (.tup [.c (.own 900 false), .c (.bool r.1)]) [(900, .sl 3 y0_ r.2 .shallow)])) he (leads_ren [(10000000, 18900)] rfl rfl ⟨⟨rfl, rfl⟩, trivial⟩ ⟨.inl rfl, ⟨⟨rfl, rfl⟩, trivial⟩, rfl, trivial⟩) ?_
   rintro ⟨i, keep1⟩ J1 he
   refine go_if he (fun he => ?_) fun he => ?_
   ·refine loop_model mixed tys_ok t_spec_MinimalCore (S := Int × (List Int)) (I := (fun (k_1, keep2) => (envOf [(0, .c (.imm y3_ list_)), (4, .c (.own 10002000 false)), (5, .c (.int .i64 i)), (6, .c (.int .i64 k_1))], [(10002000, .sl 3 y0_ keep2 .shallow)]))) (f := spec_MinimalCore_l2 list_ i) (K := (LK J1 (fun r => k (.tup [.c (.own 900 false), .c (.bool r.1)]) [(900, .sl 3 y0_ r.2 .shallow)]))) he (leads_ren [(10002000, 10000000)] rfl rfl ⟨⟨rfl, rfl⟩, trivial⟩ ⟨.inl rfl, ⟨⟨rfl, rfl⟩, trivial⟩, rfl, rfl, trivial⟩) ?_
    rintro ⟨k_1, keep2⟩ J2 he
    refine go_if he (fun he => ?_) fun he => ?_
    ·refine go_rq he fun he => ?_
     refine go_if he (fun he => ?_) fun he => ?_
     ·refine go_bind he fun r16_ he => ?_
      refine go_bind he fun r17_ he => ?_
      refine go_bind he fun r18_ he => ?_
      refine go_if he (fun he => ?_) fun he => ?_
      ·refine go_bind he fun r19_ he => ?_
       refine go_rq he fun he => ?_
       have he := ok_some he
       exact ⟨((k_1 + (1:Int)), r19_), he, (leads_ren [(10002000, 49900)] rfl rfl ⟨⟨rfl, rfl⟩, trivial⟩ ⟨.inl rfl, ⟨⟨rfl, rfl⟩, trivial⟩, rfl, rfl, trivial⟩)⟩
      ·refine go_rq he fun he => ?_
       have he := ok_some he
       exact ⟨((k_1 + (1:Int)), keep2), he, (leads_ren [] rfl rfl ⟨⟨rfl, rfl⟩, trivial⟩ ⟨.inl rfl, ⟨⟨rfl, rfl⟩, trivial⟩, rfl, rfl, trivial⟩)⟩
     ·refine go_rq he fun he => ?_
      have he := ok_some he
      exact ⟨((k_1 + (1:Int)), keep2), he, (leads_ren [] rfl rfl ⟨⟨rfl, rfl⟩, trivial⟩ ⟨.inl rfl, ⟨⟨rfl, rfl⟩, trivial⟩, rfl, rfl, trivial⟩)⟩
    ·refine go_rq he fun he => ?_
     have he := ok_some he
     exact ⟨((i - (1:Int)), keep2), he, (leads_ren [(10000000, 10002000)] rfl rfl ⟨⟨rfl, rfl⟩, trivial⟩ ⟨.inl rfl, ⟨⟨rfl, rfl⟩, trivial⟩, rfl, trivial⟩)⟩
   ·have he := ok_some he
    exact ⟨rfl, _, _, (leads_ren [(900, 10000000)] (l := [(2, .c (.own 900 false)), (3, .c (.bool true))]) (st' := [(900, .sl 3 y0_ keep1 .shallow)]) rfl rfl ⟨⟨rfl, rfl⟩, trivial⟩ ⟨⟨⟨rfl, rfl⟩, trivial⟩, .inr rfl, trivial⟩), he⟩
 ·have he := ok_some he
  exact ⟨rfl, _, _, (leads_ren [(900, 14)] (l := [(2, .c (.own 900 false)), (3, .c (.bool false))]) (st' := [(900, .sl 3 y0_ ([] : List Int) .shallow)]) rfl rfl ⟨⟨rfl, rfl⟩, trivial⟩ ⟨⟨⟨rfl, rfl⟩, trivial⟩, .inr rfl, trivial⟩), he⟩

noncomputable def c_laws_cpInts : Con := fun args st => match args, st with
  | [.c (.imm (.int .i64) a), .c (.imm (.int .i64) b)], [] => .opt (Bool) (laws_cpInts a b) (fun r => .ret (.c (.bool r)) [])
  | _, _ => .fail

noncomputable def C_laws_cpInts : Cfg := { y := tys, n := 26, h := 0, tab := [], cut := [], hand := [], good := [], deep := [], sched := [] }

theorem t_laws_cpInts : TabOk Tryz.prog C_laws_cpInts := tabOk_of (fun p h => by cases h)

theorem k_laws_cpInts : Entry Tryz.prog 14 c_laws_cpInts := by
 refine entry_by (C := C_laws_cpInts) mixed tys_ok t_laws_cpInts (fn := Tryz.f14) (c := bd Tryz.f14) (by kernel_rfl) (by kernel_rfl) (by kernel_rfl) (by kernel_rfl) ?_
 intro args st k he
 unfold c_laws_cpInts at he
 split at he
 rotate_left
 ·exact he.elim
 rename_i a b
 have he : Ok (laws_cpInts a b) (fun r => k (.c (.bool r)) []) := he
 refine ⟨rfl, rfl, ?_⟩
 refine go_if he (fun he => ?_) fun he => ?_
 ·have he := ok_some he
  exact ⟨rfl, _, _, Leads.refl _ _, he⟩
 ·refine loop_model mixed tys_ok t_laws_cpInts (S := Int) (I := (fun i => (envOf [(0, .c (.imm y0_ a)), (1, .c (.imm y0_ b)), (5, .c (.int .i64 i))], []))) (f := laws_cpInts_l1 a b) (K := (fun r => k (.c (.bool r)) [])) he (leads_ren [] rfl rfl trivial ⟨.inl rfl, .inl rfl, rfl, trivial⟩) ?_
  rintro i J1 he
  refine go_if he (fun he => ?_) fun he => ?_
  ·refine And.intro (by kernel_rfl) ?_
   refine go_rq he fun he => ?_
   refine go_rq he fun he => ?_
   refine go_if he (fun he => ?_) fun he => ?_
   ·have he := ok_some he
    exact ⟨rfl, _, _, Leads.refl _ _, he⟩
   ·refine go_rq he fun he => ?_
    have he := ok_some he
    exact ⟨(i + (1:Int)), he, (leads_ren [] rfl rfl trivial ⟨.inl rfl, .inl rfl, rfl, trivial⟩)⟩
  ·have he := ok_some he
   exact ⟨rfl, _, _, Leads.refl _ _, he⟩

noncomputable def c_impl_isPart : Con := fun args st => match args, st with
  | [.c (.imm (.int .i64) keep), .c (.int .i64 count)], [] => .opt (Bool) (impl_isPart keep count) (fun r => .ret (.c (.bool r)) [])
  | _, _ => .fail

noncomputable def C_impl_isPart : Cfg := { y := tys, n := 33, h := 0, tab := [(127, c_impl_within)], cut := [], hand := [], good := [], deep := [], sched := [] }

theorem t_impl_isPart : TabOk Tryz.prog C_impl_isPart := by
  refine tabOk_of ?_
  simp only [C_impl_isPart, List.forall_mem_cons]
  exact ⟨k_impl_within, fun p h => by cases h⟩

theorem k_impl_isPart : Entry Tryz.prog 99 c_impl_isPart := by
 refine entry_by (C := C_impl_isPart) mixed tys_ok t_impl_isPart (fn := Tryz.f99) (c := bd Tryz.f99) (by kernel_rfl) (by kernel_rfl) (by kernel_rfl) (by kernel_rfl) ?_
 intro args st k he
 unfold c_impl_isPart at he
 split at he
 rotate_left
 ·exact he.elim
 rename_i keep count
 have he : Ok (impl_isPart keep count) (fun r => k (.c (.bool r)) []) := he
 refine ⟨rfl, rfl, ?_⟩
 refine loop_model mixed tys_ok t_impl_isPart (S := Int) (I := (fun i => (envOf [(0, .c (.imm y0_ keep)), (1, .c (.int .i64 count)), (7, .c (.imm y0_ keep)), (8, .c (.int .i64 (keep.length:Int))), (9, .c (.int .i64 i))], []))) (f := impl_isPart_l1 keep count) (K := (fun r => k (.c (.bool r)) [])) he (leads_ren [] rfl rfl trivial ⟨.inl rfl, rfl, .inl rfl, rfl, rfl, trivial⟩) ?_
 rintro i J1 he
 refine go_if he (fun he => ?_) fun he => ?_
 ·refine go_rq he fun he => ?_
  refine go_rq he fun he => ?_
  refine go_bind he fun r1_ he => ?_
  refine go_if2 he (fun he => ?_) fun he => ?_
  ·refine go_if he (fun he => ?_) fun he => ?_
   ·refine go_rq he fun he => ?_
    refine go_rq he fun he => ?_
    refine go_if he (fun he => ?_) fun he => ?_
    ·have he := ok_some he
     exact ⟨rfl, _, _, Leads.refl _ _, he⟩
    ·refine go_rq he fun he => ?_
     have he := ok_some he
     exact ⟨(i + (1:Int)), he, (leads_ren [] rfl rfl trivial ⟨.inl rfl, rfl, .inl rfl, rfl, rfl, trivial⟩)⟩
   ·refine go_rq he fun he => ?_
    have he := ok_some he
    exact ⟨(i + (1:Int)), he, (leads_ren [] rfl rfl trivial ⟨.inl rfl, rfl, .inl rfl, rfl, rfl, trivial⟩)⟩
  ·have he := ok_some he
   exact ⟨rfl, _, _, Leads.refl _ _, he⟩
 ·have he := ok_some he
  exact ⟨rfl, _, _, Leads.refl _ _, he⟩

noncomputable def c_slices_Clone_impl_Term : Con := fun args st => match args, st with
  | [.c (.imm (.pair (.int .i64) (.int .i64)) s_)], [] => .opt ((List D2_)) (slices_Clone_impl_Term s_) (fun r => .ret (.c (.own 900 false)) [(900, .sl 155 y2_ r .shallow)])
  | _, _ => .fail

noncomputable def C_slices_Clone_impl_Term : Cfg := { y := tys, n := 8, h := 0, tab := [], cut := [], hand := [], good := [], deep := [], sched := [] }

theorem t_slices_Clone_impl_Term : TabOk Tryz.prog C_slices_Clone_impl_Term := tabOk_of (fun p h => by cases h)

theorem k_slices_Clone_impl_Term : Entry Tryz.prog 224 c_slices_Clone_impl_Term := by
 refine entry_by (C := C_slices_Clone_impl_Term) mixed tys_ok t_slices_Clone_impl_Term (fn := Tryz.f224) (c := bd Tryz.f224) (by kernel_rfl) (by kernel_rfl) (by kernel_rfl) (by kernel_rfl) ?_
 intro args st k he
 unfold c_slices_Clone_impl_Term at he
 split at he
 rotate_left
 ·exact he.elim
 rename_i s_
 have he : Ok (slices_Clone_impl_Term s_) (fun r => k (.c (.own 900 false)) [(900, .sl 155 y2_ r .shallow)]) := he
 refine ⟨rfl, rfl, ?_⟩
 refine fun b1_ hb1_ => ?_
 have he := ok_nt he hb1_
 refine And.intro (fun hb => ?_) (fun hb => ?_)
 ·have he := ok_t he hb
  have he := ok_some he
  exact ⟨rfl, _, _, (leads_ren [] (l := [(2, .c (.own 900 false))]) (st' := [(900, .sl 155 y2_ ([] : List D2_) .shallow)]) rfl rfl ⟨trivial, trivial⟩ ⟨⟨rfl, trivial⟩, trivial⟩), he⟩
 ·have he := ok_f he hb
  refine go_rq he fun he => ?_
  have he := ok_some he
  exact ⟨rfl, _, _, (leads_ren [(900, 7)] (l := [(2, .c (.own 900 false))]) (st' := [(900, .sl 155 y2_ (([] : List D2_) ++ s_) .shallow)]) rfl rfl ⟨⟨rfl, rfl⟩, trivial⟩ ⟨⟨⟨rfl, rfl⟩, trivial⟩, trivial⟩), he⟩

noncomputable def c_impl_Constraint_own : Con := fun args st => match args, st with
  | [.agg [.imm (.pair (.int .i64) (.int .i64)) c__0, .int .i64 c__1]], [] => .opt (Int × (List D2_)) (impl_Constraint_own (c__0, c__1)) (fun r => .ret (.agg [.own 901 false, .int .i64 r.1]) [(900, .rc [.own 901 false, .int .i64 r.1]), (901, .sl 155 y2_ r.2 .shallow)])
  | _, _ => .fail

noncomputable def C_impl_Constraint_own : Cfg := { y := tys, n := 8, h := 0, tab := [(224, c_slices_Clone_impl_Term)], cut := [], hand := [], good := [], deep := [], sched := [] }

theorem t_impl_Constraint_own : TabOk Tryz.prog C_impl_Constraint_own := by
  refine tabOk_of ?_
  simp only [C_impl_Constraint_own, List.forall_mem_cons]
  exact ⟨k_slices_Clone_impl_Term, fun p h => by cases h⟩

theorem k_impl_Constraint_own : Entry Tryz.prog 160 c_impl_Constraint_own := by
 refine entry_by (C := C_impl_Constraint_own) mixed tys_ok t_impl_Constraint_own (fn := Tryz.f160) (c := bd Tryz.f160) (by kernel_rfl) (by kernel_rfl) (by kernel_rfl) (by kernel_rfl) ?_
 intro args st k he
 unfold c_impl_Constraint_own at he
 split at he
 rotate_left
 ·exact he.elim
 rename_i c__0 c__1
 have he : Ok (impl_Constraint_own (c__0, c__1)) (fun r => k (.agg [.own 901 false, .int .i64 r.1]) [(900, .rc [.own 901 false, .int .i64 r.1]), (901, .sl 155 y2_ r.2 .shallow)]) := he
 refine ⟨rfl, rfl, ?_⟩
 refine go_bind he fun r1_ he => ?_
 have he := ok_some he
 exact ⟨rfl, _, _, (leads_ren [(900, 2), (901, 6900)] (l := [(2, .c (.ptr 900 0))]) (st' := [(900, .rc [.own 901 false, .int .i64 (c__0, c__1).2]), (901, .sl 155 y2_ r1_ .shallow)]) rfl rfl ⟨⟨⟨⟨rfl, rfl⟩, trivial⟩, rfl, trivial⟩, ⟨rfl, rfl⟩, trivial⟩ ⟨⟨⟨rfl, rfl⟩, rfl⟩, trivial⟩), he⟩

noncomputable def c_impl_ownAll : Con := fun args st => match args, st with
  | [.c (.imm (.pair (.sl (.pair (.int .i64) (.int .i64))) (.int .i64)) list_)], [] => .opt ((List D3_)) (impl_ownAll list_) (fun r => .ret (.c (.own 900 false)) [(900, .sl 89 y3_ r (.deep true .no))])
  | _, _ => .fail

noncomputable def C_impl_ownAll : Cfg := { y := tys, n := 19, h := 0, tab := [(160, c_impl_Constraint_own)], cut := [], hand := [], good := [], deep := [15], sched := [] }

theorem t_impl_ownAll : TabOk Tryz.prog C_impl_ownAll := by
  refine tabOk_of ?_
  simp only [C_impl_ownAll, List.forall_mem_cons]
  exact ⟨k_impl_Constraint_own, fun p h => by cases h⟩

theorem k_impl_ownAll : Entry Tryz.prog 100 c_impl_ownAll := by
 refine entry_by (C := C_impl_ownAll) mixed tys_ok t_impl_ownAll (fn := Tryz.f100) (c := bd Tryz.f100) (by kernel_rfl) (by kernel_rfl) (by kernel_rfl) (by kernel_rfl) ?_
 intro args st k he
 unfold c_impl_ownAll at he
 split at he
 rotate_left
 ·exact he.elim
 rename_i list_
 have he : Ok (impl_ownAll list_) (fun r => k (.c (.own 900 false)) [(900, .sl 89 y3_ r (.deep true .no))]) := he
 refine ⟨rfl, rfl, ?_⟩
 refine loop_model mixed tys_ok t_impl_ownAll (S := Int × (List D3_)) (I := (fun (i, out) => (envOf [(3, .c (.own 10000000 false)), (6, .c (.imm y3_ list_)), (7, .c (.int .i64 (list_.length:Int))), (8, .c (.int .i64 i))], [(10000000, .sl 89 y3_ out (.deep true .no))]))) (f := impl_ownAll_l1 list_) (K := (fun r => k (.c (.own 900 false)) [(900, .sl 89 y3_ r (.deep true .no))])) he (leads_ren [] rfl rfl ⟨trivial, trivial⟩ ⟨⟨rfl, trivial⟩, .inl rfl, rfl, rfl, trivial⟩) ?_
 rintro ⟨i, out⟩ J1 he
 refine go_if he (fun he => ?_) fun he => ?_
 ·refine go_rq he fun he => ?_
  refine go_bind he fun r2_ he => ?_
  refine go_rq he fun he => ?_
  refine go_rq he fun he => ?_
  have he := ok_some he
  exact ⟨((i + (1:Int)), (out ++ [(r2_.2, r2_.1)])), he, (leads_ren [(10000000, 16)] rfl rfl ⟨⟨rfl, rfl⟩, trivial⟩ ⟨⟨⟨rfl, rfl⟩, trivial⟩, .inl rfl, rfl, rfl, trivial⟩)⟩
 ·have he := ok_some he
  exact ⟨rfl, _, _, (leads_ren [(900, 10000000)] (l := [(2, .c (.own 900 false))]) (st' := [(900, .sl 89 y3_ out (.deep true .no))]) rfl rfl ⟨⟨rfl, rfl⟩, trivial⟩ ⟨⟨⟨rfl, rfl⟩, trivial⟩, trivial⟩), he⟩

noncomputable def c_impl_SubProblem : Con := fun args st => match args, st with
  | [.c (.imm (.pair (.sl (.pair (.int .i64) (.int .i64))) (.int .i64)) list_), .c (.imm (.int .i64) keep)], [] => .opt (Bool × (List D3_)) (impl_SubProblem list_ keep) (fun r => .ret (.tup [.c (.own 900 false), .c (.bool r.1)]) [(900, .sl 89 y3_ r.2 (.deep true .no))])
  | _, _ => .fail

noncomputable def C_impl_SubProblem : Cfg := { y := tys, n := 20, h := 0, tab := [(98, c_impl_ProblemValid), (99, c_impl_isPart), (100, c_impl_ownAll), (101, c_impl_partOf)], cut := [], hand := [], good := [], deep := [], sched := [] }

theorem t_impl_SubProblem : TabOk Tryz.prog C_impl_SubProblem := by
  refine tabOk_of ?_
  simp only [C_impl_SubProblem, List.forall_mem_cons]
  exact ⟨k_impl_ProblemValid, k_impl_isPart, k_impl_ownAll, k_impl_partOf, fun p h => by cases h⟩

theorem k_impl_SubProblem : Entry Tryz.prog 39 c_impl_SubProblem := by
 refine entry_by (C := C_impl_SubProblem) mixed tys_ok t_impl_SubProblem (fn := Tryz.f39) (c := bd Tryz.f39) (by kernel_rfl) (by kernel_rfl) (by kernel_rfl) (by kernel_rfl) ?_
 intro args st k he
 unfold c_impl_SubProblem at he
 split at he
 rotate_left
 ·exact he.elim
 rename_i list_ keep
 have he : Ok (impl_SubProblem list_ keep) (fun r => k (.tup [.c (.own 900 false), .c (.bool r.1)]) [(900, .sl 89 y3_ r.2 (.deep true .no))]) := he
 refine ⟨rfl, rfl, ?_⟩
 refine go_bind he fun r1_ he => ?_
 refine go_if2 he (fun he => ?_) fun he => ?_
 ·refine go_bind he fun r2_ he => ?_
  refine go_if he (fun he => ?_) fun he => ?_
  ·have he := ok_some he
   exact ⟨rfl, _, _, (leads_ren [] (l := [(4, .c (.own 900 false)), (5, .c (.bool false))]) (st' := [(900, .sl 89 y3_ ([] : List D3_) (.deep true .no))]) rfl rfl ⟨trivial, trivial⟩ ⟨⟨rfl, trivial⟩, .inr rfl, trivial⟩), he⟩
  ·refine go_bind he fun r3_ he => ?_
   refine go_bind he fun r4_ he => ?_
   have he := ok_some he
   exact ⟨rfl, _, _, (leads_ren [(900, 20900)] (l := [(4, .c (.own 900 false)), (5, .c (.bool true))]) (st' := [(900, .sl 89 y3_ r4_ (.deep true .no))]) rfl rfl ⟨⟨rfl, rfl⟩, trivial⟩ ⟨⟨⟨rfl, rfl⟩, trivial⟩, .inr rfl, trivial⟩), he⟩
 ·have he := ok_some he
  exact ⟨rfl, _, _, (leads_ren [] (l := [(4, .c (.own 900 false)), (5, .c (.bool false))]) (st' := [(900, .sl 89 y3_ ([] : List D3_) (.deep true .no))]) rfl rfl ⟨trivial, trivial⟩ ⟨⟨rfl, trivial⟩, .inr rfl, trivial⟩), he⟩

noncomputable def c_impl_isFuel : Con := fun args st => match args, st with
  | [.c (.int .i64 fuel)], [] => .opt (Bool) (impl_isFuel fuel) (fun r => .ret (.c (.bool r)) [])
  | _, _ => .fail

noncomputable def C_impl_isFuel : Cfg := { y := tys, n := 5, h := 0, tab := [(127, c_impl_within)], cut := [], hand := [], good := [], deep := [], sched := [] }

theorem t_impl_isFuel : TabOk Tryz.prog C_impl_isFuel := by
  refine tabOk_of ?_
  simp only [C_impl_isFuel, List.forall_mem_cons]
  exact ⟨k_impl_within, fun p h => by cases h⟩

theorem k_impl_isFuel : Entry Tryz.prog 57 c_impl_isFuel := by
 refine entry_by (C := C_impl_isFuel) mixed tys_ok t_impl_isFuel (fn := Tryz.f57) (c := bd Tryz.f57) (by kernel_rfl) (by kernel_rfl) (by kernel_rfl) (by kernel_rfl) ?_
 intro args st k he
 unfold c_impl_isFuel at he
 split at he
 rotate_left
 ·exact he.elim
 rename_i fuel
 have he : Ok (impl_isFuel fuel) (fun r => k (.c (.bool r)) []) := he
 refine ⟨rfl, rfl, ?_⟩
 refine go_bind he fun r1_ he => ?_
 have he := ok_some he
 exact ⟨rfl, _, _, Leads.refl _ _, he⟩

end Go.AE.Y
