/-
  Walks: each function keeps the contract that its model gives. No conditions.
-/
import Derived.Test.YtaeeiddjpigemaaGreatR7Tab
import Derived.Test.YtaeeiddjpigemaaGreatR7W5
import Derived.Test.YtaeeiddjpigemaaGreatR7S
namespace Go.AE.Y
open Go Go.AE Go.Proofs
set_option linter.unusedVariables false
set_option maxHeartbeats 2000000
set_option maxRecDepth 100000

noncomputable def c_impl_running_step : Con := fun args st => match args, st with
  | [.c (.ptr 0 0), .agg [.int .i64 a1_0, .int .i64 a1_1, .int .i64 a1_2, .imm (.pair (.int .i64) (.int .i64)) a1_3, .int .i64 a1_4]], [(0, .rc [.own 1 false, .own 2 false]), (1, .sl 89 (.pair (.sl (.pair (.int .i64) (.int .i64))) (.int .i64)) o1 .shallow), (2, .sl 4 .bool o2 .shallow)] => .opt (Bool × (List D3_) × (List Bool)) (impl_running_step__Rss (a1_0, (a1_1, (a1_2, (a1_3, a1_4)))) o1 o2) (fun r => .ret (.c (.bool r.1)) [(0, .rc [.own 900 false, .own 901 false]), (1, .dead), (2, .dead), (900, .sl 89 y3_ r.2.1 .shallow), (901, .sl 4 .bool r.2.2 .shallow)])
  | _, _ => .fail

noncomputable def C_impl_running_step : Cfg := { y := tys, n := 177, h := 3, tab := [(155, c_impl_refers), (223, c_impl_ConstraintValid), (259, c_impl_Step_shaped), (260, c_impl_running_has__Rss), (261, c_impl_AddConstraints), (262, c_impl_MultiplyConstraint), (263, c_impl_DivideConstraint), (264, c_impl_SaturateConstraint), (265, c_impl_WeakenConstraint), (266, c_impl_LiteralAxiom), (267, c_impl_rup), (268, c_impl_running_left__Rss)], cut := [1, 4, 24, 25], hand := [], good := [], deep := [], sched := [(8, (.first 0 (.first 1 (.first 2 (.first 4 (.first 5 (.alt 3 (.first 6 (.alt 7 .done .stop)) .stop))))))), (11, (.first 0 (.first 1 (.first 2 (.first 4 (.first 5 (.first 8 (.first 9 (.first 10 (.first 12 (.first 13 (.alt 3 (.first 6 (.alt 7 (.alt 11 (.first 14 (.alt 15 (.alt 16 (.first 17 (.first 18 (.first 19 (.alt 20 (.first 21 .done) .stop)))) .stop) .stop)) .stop) (.alt 11 (.first 14 (.alt 7 (.alt 15 (.alt 16 (.first 17 (.first 18 (.first 19 (.alt 20 (.first 21 .done) .stop)))) .stop) .stop) (.alt 15 (.alt 7 (.alt 16 (.first 17 (.first 18 (.first 19 (.alt 20 (.first 21 .done) .stop)))) .stop) .stop) .stop))) .stop))) (.alt 11 (.first 14 (.alt 3 (.first 6 (.alt 7 (.alt 15 (.alt 16 (.first 17 (.first 18 (.first 19 (.alt 20 (.first 21 .done) .stop)))) .stop) .stop) (.alt 15 (.alt 7 (.alt 16 (.first 17 (.first 18 (.first 19 (.alt 20 (.first 21 .done) .stop)))) .stop) .stop) .stop))) (.alt 15 (.alt 3 (.first 6 (.alt 7 (.alt 16 (.first 17 (.first 18 (.first 19 (.alt 20 (.first 21 .done) .stop)))) .stop) .stop)) .stop) .stop))) .stop))))))))))))), (13, (.first 0 (.first 1 (.first 2 (.first 4 (.first 5 (.first 8 (.first 9 (.alt 3 (.first 6 (.alt 7 (.alt 10 (.first 11 (.first 12 (.first 13 (.alt 14 (.first 15 .done) .stop)))) .stop) .stop)) .stop))))))))), (15, (.first 0 (.first 1 (.first 2 (.first 4 (.first 5 (.first 8 (.first 9 (.alt 3 (.first 6 (.alt 7 (.alt 10 (.first 11 (.first 12 (.first 13 (.alt 14 (.first 15 .done) .stop)))) .stop) .stop)) .stop))))))))), (17, (.first 0 (.first 1 (.first 2 (.first 4 (.first 5 (.alt 3 (.first 6 (.alt 7 (.alt 8 (.first 9 (.first 10 (.first 11 (.alt 12 (.first 13 .done) .stop)))) .stop) .stop)) .stop))))))), (19, (.first 0 (.first 1 (.first 2 (.first 4 (.first 5 (.first 8 (.first 9 (.alt 3 (.first 6 (.alt 7 (.alt 10 (.first 11 (.first 12 (.first 13 (.alt 14 (.first 15 .done) .stop)))) .stop) .stop)) .stop))))))))), (23, (.first 0 (.first 1 (.first 2 (.first 3 (.alt 4 (.first 5 (.first 6 (.first 8 (.first 9 (.alt 7 (.alt 10 (.first 11 (.alt 12 (.first 13 .done) .stop)) .stop) .stop))))) .stop)))))), (24, (.first 0 (.first 1 (.first 2 (.first 3 (.first 4 (.first 6 (.first 9 (.first 10 (.first 11 (.alt 5 (.alt 7 (.alt 8 (.alt 12 (.alt 13 (.alt 14 (.first 15 (.first 16 (.alt 17 (.first 18 (.first 19 (.alt 20 .done .stop))) .stop))) .stop) .stop) (.alt 13 (.alt 12 (.alt 14 (.first 15 (.first 16 (.alt 17 (.first 18 (.first 19 (.alt 20 .done .stop))) .stop))) .stop) .stop) .stop)) (.alt 12 (.alt 8 (.alt 13 (.alt 14 (.first 15 (.first 16 (.alt 17 (.first 18 (.first 19 (.alt 20 .done .stop))) .stop))) .stop) .stop) (.alt 13 (.alt 8 (.alt 14 (.first 15 (.first 16 (.alt 17 (.first 18 (.first 19 (.alt 20 .done .stop))) .stop))) .stop) .stop) .stop)) (.alt 13 (.alt 8 (.alt 12 (.alt 14 (.first 15 (.first 16 (.alt 17 (.first 18 (.first 19 (.alt 20 .done .stop))) .stop))) .stop) .stop) (.alt 12 (.alt 8 (.alt 14 (.first 15 (.first 16 (.alt 17 (.first 18 (.first 19 (.alt 20 .done .stop))) .stop))) .stop) .stop) .stop)) .stop))) (.alt 12 (.alt 7 (.alt 8 (.alt 13 (.alt 14 (.first 15 (.first 16 (.alt 17 (.first 18 (.first 19 (.alt 20 .done .stop))) .stop))) .stop) .stop) (.alt 13 (.alt 8 (.alt 14 (.first 15 (.first 16 (.alt 17 (.first 18 (.first 19 (.alt 20 .done .stop))) .stop))) .stop) .stop) .stop)) (.alt 13 (.alt 7 (.alt 8 (.alt 14 (.first 15 (.first 16 (.alt 17 (.first 18 (.first 19 (.alt 20 .done .stop))) .stop))) .stop) .stop) .stop) .stop)) (.alt 13 (.alt 7 (.alt 8 (.alt 12 (.alt 14 (.first 15 (.first 16 (.alt 17 (.first 18 (.first 19 (.alt 20 .done .stop))) .stop))) .stop) .stop) (.alt 12 (.alt 8 (.alt 14 (.first 15 (.first 16 (.alt 17 (.first 18 (.first 19 (.alt 20 .done .stop))) .stop))) .stop) .stop) .stop)) (.alt 12 (.alt 7 (.alt 8 (.alt 14 (.first 15 (.first 16 (.alt 17 (.first 18 (.first 19 (.alt 20 .done .stop))) .stop))) .stop) .stop) .stop) .stop)) .stop))) (.alt 7 (.alt 5 (.alt 8 (.alt 12 (.alt 13 (.alt 14 (.first 15 (.first 16 (.alt 17 (.first 18 (.first 19 (.alt 20 .done .stop))) .stop))) .stop) .stop) (.alt 13 (.alt 12 (.alt 14 (.first 15 (.first 16 (.alt 17 (.first 18 (.first 19 (.alt 20 .done .stop))) .stop))) .stop) .stop) .stop)) (.alt 12 (.alt 8 (.alt 13 (.alt 14 (.first 15 (.first 16 (.alt 17 (.first 18 (.first 19 (.alt 20 .done .stop))) .stop))) .stop) .stop) (.alt 13 (.alt 8 (.alt 14 (.first 15 (.first 16 (.alt 17 (.first 18 (.first 19 (.alt 20 .done .stop))) .stop))) .stop) .stop) .stop)) (.alt 13 (.alt 8 (.alt 12 (.alt 14 (.first 15 (.first 16 (.alt 17 (.first 18 (.first 19 (.alt 20 .done .stop))) .stop))) .stop) .stop) (.alt 12 (.alt 8 (.alt 14 (.first 15 (.first 16 (.alt 17 (.first 18 (.first 19 (.alt 20 .done .stop))) .stop))) .stop) .stop) .stop)) .stop))) (.alt 12 (.alt 5 (.alt 8 (.alt 13 (.alt 14 (.first 15 (.first 16 (.alt 17 (.first 18 (.first 19 (.alt 20 .done .stop))) .stop))) .stop) .stop) (.alt 13 (.alt 8 (.alt 14 (.first 15 (.first 16 (.alt 17 (.first 18 (.first 19 (.alt 20 .done .stop))) .stop))) .stop) .stop) .stop)) (.alt 13 (.alt 5 (.alt 8 (.alt 14 (.first 15 (.first 16 (.alt 17 (.first 18 (.first 19 (.alt 20 .done .stop))) .stop))) .stop) .stop) .stop) .stop)) (.alt 13 (.alt 5 (.alt 8 (.alt 12 (.alt 14 (.first 15 (.first 16 (.alt 17 (.first 18 (.first 19 (.alt 20 .done .stop))) .stop))) .stop) .stop) (.alt 12 (.alt 8 (.alt 14 (.first 15 (.first 16 (.alt 17 (.first 18 (.first 19 (.alt 20 .done .stop))) .stop))) .stop) .stop) .stop)) (.alt 12 (.alt 5 (.alt 8 (.alt 14 (.first 15 (.first 16 (.alt 17 (.first 18 (.first 19 (.alt 20 .done .stop))) .stop))) .stop) .stop) .stop) .stop)) .stop))) (.alt 12 (.alt 5 (.alt 7 (.alt 8 (.alt 13 (.alt 14 (.first 15 (.first 16 (.alt 17 (.first 18 (.first 19 (.alt 20 .done .stop))) .stop))) .stop) .stop) (.alt 13 (.alt 8 (.alt 14 (.first 15 (.first 16 (.alt 17 (.first 18 (.first 19 (.alt 20 .done .stop))) .stop))) .stop) .stop) .stop)) (.alt 13 (.alt 7 (.alt 8 (.alt 14 (.first 15 (.first 16 (.alt 17 (.first 18 (.first 19 (.alt 20 .done .stop))) .stop))) .stop) .stop) .stop) .stop)) (.alt 7 (.alt 5 (.alt 8 (.alt 13 (.alt 14 (.first 15 (.first 16 (.alt 17 (.first 18 (.first 19 (.alt 20 .done .stop))) .stop))) .stop) .stop) (.alt 13 (.alt 8 (.alt 14 (.first 15 (.first 16 (.alt 17 (.first 18 (.first 19 (.alt 20 .done .stop))) .stop))) .stop) .stop) .stop)) (.alt 13 (.alt 5 (.alt 8 (.alt 14 (.first 15 (.first 16 (.alt 17 (.first 18 (.first 19 (.alt 20 .done .stop))) .stop))) .stop) .stop) .stop) .stop)) (.alt 13 (.alt 5 (.alt 7 (.alt 8 (.alt 14 (.first 15 (.first 16 (.alt 17 (.first 18 (.first 19 (.alt 20 .done .stop))) .stop))) .stop) .stop) .stop) (.alt 7 (.alt 5 (.alt 8 (.alt 14 (.first 15 (.first 16 (.alt 17 (.first 18 (.first 19 (.alt 20 .done .stop))) .stop))) .stop) .stop) .stop) .stop)) .stop))) (.alt 13 (.alt 5 (.alt 7 (.alt 8 (.alt 12 (.alt 14 (.first 15 (.first 16 (.alt 17 (.first 18 (.first 19 (.alt 20 .done .stop))) .stop))) .stop) .stop) (.alt 12 (.alt 8 (.alt 14 (.first 15 (.first 16 (.alt 17 (.first 18 (.first 19 (.alt 20 .done .stop))) .stop))) .stop) .stop) .stop)) (.alt 12 (.alt 7 (.alt 8 (.alt 14 (.first 15 (.first 16 (.alt 17 (.first 18 (.first 19 (.alt 20 .done .stop))) .stop))) .stop) .stop) .stop) .stop)) (.alt 7 (.alt 5 (.alt 8 (.alt 12 (.alt 14 (.first 15 (.first 16 (.alt 17 (.first 18 (.first 19 (.alt 20 .done .stop))) .stop))) .stop) .stop) (.alt 12 (.alt 8 (.alt 14 (.first 15 (.first 16 (.alt 17 (.first 18 (.first 19 (.alt 20 .done .stop))) .stop))) .stop) .stop) .stop)) (.alt 12 (.alt 5 (.alt 8 (.alt 14 (.first 15 (.first 16 (.alt 17 (.first 18 (.first 19 (.alt 20 .done .stop))) .stop))) .stop) .stop) .stop) .stop)) (.alt 12 (.alt 5 (.alt 7 (.alt 8 (.alt 14 (.first 15 (.first 16 (.alt 17 (.first 18 (.first 19 (.alt 20 .done .stop))) .stop))) .stop) .stop) .stop) (.alt 7 (.alt 5 (.alt 8 (.alt 14 (.first 15 (.first 16 (.alt 17 (.first 18 (.first 19 (.alt 20 .done .stop))) .stop))) .stop) .stop) .stop) .stop)) .stop))) .stop))))))))))))))] }

theorem t_impl_running_step : TabOk Tryz.prog C_impl_running_step := by
  refine tabOk_of ?_
  simp only [C_impl_running_step, List.forall_mem_cons]
  exact ⟨k_impl_refers, k_impl_ConstraintValid, k_impl_Step_shaped, k_impl_running_has__Rss, k_impl_AddConstraints, k_impl_MultiplyConstraint, k_impl_DivideConstraint, k_impl_SaturateConstraint, k_impl_WeakenConstraint, k_impl_LiteralAxiom, k_impl_rup, k_impl_running_left__Rss, fun p h => by cases h⟩

theorem k_impl_running_step : Entry Tryz.prog 235 c_impl_running_step := by
 refine entry_by (C := C_impl_running_step) mixed tys_ok t_impl_running_step (fn := Tryz.f235) (c := bd Tryz.f235) (by kernel_rfl) (by kernel_rfl) (by kernel_rfl) (by kernel_rfl) ?_
 intro args st k he
 unfold c_impl_running_step at he
 split at he
 rotate_left
 ·exact he.elim
 rename_i a1_0 a1_1 a1_2 a1_3 a1_4 o1 o2
 have he : Ok (impl_running_step__Rss (a1_0, (a1_1, (a1_2, (a1_3, a1_4)))) o1 o2) (fun r => k (.c (.bool r.1)) [(0, .rc [.own 900 false, .own 901 false]), (1, .dead), (2, .dead), (900, .sl 89 y3_ r.2.1 .shallow), (901, .sl 4 .bool r.2.2 .shallow)]) := he
 refine ⟨rfl, rfl, ?_⟩
 refine seq_model mixed tys_ok t_impl_running_step (S := Unit) (I := (fun _ => (envOf [(0, .c (.ptr 0 0)), (3, .c (.iptr y6_ (a1_0, (a1_1, (a1_2, (a1_3, a1_4)))) 0))], [(0, .rc [.own 1 false, .own 2 false]), (1, .sl 89 y3_ o1 .shallow), (2, .sl 4 .bool o2 .shallow)]))) (B := fun s => Ok (impl_running_step__Rss_j1 (a1_0, (a1_1, (a1_2, (a1_3, a1_4)))) o1 o2 s) (fun r => k (.c (.bool r.1)) [(0, .rc [.own 900 false, .own 901 false]), (1, .dead), (2, .dead), (900, .sl 89 y3_ r.2.1 .shallow), (901, .sl 4 .bool r.2.2 .shallow)])) ?_ ?_
 ·rintro ⟨⟩ he
  refine go_bind he fun r1_ he => ?_
  refine seq_model mixed tys_ok t_impl_running_step (S := Unit) (I := (fun _ => (envOf [(0, .c (.ptr 0 0)), (3, .c (.iptr y6_ (a1_0, (a1_1, (a1_2, (a1_3, a1_4)))) 0))], [(0, .rc [.own 1 false, .own 2 false]), (1, .sl 89 y3_ o1 .shallow), (2, .sl 4 .bool o2 .shallow)]))) (B := fun s => Ok (impl_running_step__Rss_j2 (a1_0, (a1_1, (a1_2, (a1_3, a1_4)))) o1 o2 s) (fun r => k (.c (.bool r.1)) [(0, .rc [.own 900 false, .own 901 false]), (1, .dead), (2, .dead), (900, .sl 89 y3_ r.2.1 .shallow), (901, .sl 4 .bool r.2.2 .shallow)])) ?_ ?_
  ·rintro ⟨⟩ he
   refine seq_model mixed tys_ok t_impl_running_step (S := D3_ × Bool) (I := (fun (i, i1) => (envOf [(0, .c (.ptr 0 0)), (7, .c (.iptr y3_ i 0)), (8, .c (.bool i1))], [(0, .rc [.own 1 false, .own 2 false]), (1, .sl 89 y3_ o1 .shallow), (2, .sl 4 .bool o2 .shallow)]))) (B := fun s => Ok (impl_running_step__Rss_j3 o1 o2 s) (fun r => k (.c (.bool r.1)) [(0, .rc [.own 900 false, .own 901 false]), (1, .dead), (2, .dead), (900, .sl 89 y3_ r.2.1 .shallow), (901, .sl 4 .bool r.2.2 .shallow)])) ?_ ?_
   ·rintro ⟨i, i1⟩ he
    refine seq_model mixed tys_ok t_impl_running_step (S := Unit) (I := (fun _ => (envOf [(8, .c (.bool i1))], [(0, .rc [.own 10003000 false, .own 10003001 false]), (1, .dead), (2, .dead), (10003000, .sl 89 y3_ (o1 ++ [i]) .shallow), (10003001, .sl 4 .bool (o2 ++ [false]) .shallow)]))) (B := fun s => Ok (impl_running_step__Rss_j4 o1 o2 i i1 s) (fun r => k (.c (.bool r.1)) [(0, .rc [.own 900 false, .own 901 false]), (1, .dead), (2, .dead), (900, .sl 89 y3_ r.2.1 .shallow), (901, .sl 4 .bool r.2.2 .shallow)])) ?_ ?_
    ·rintro ⟨⟩ he
     have he := ok_some he
     exact ⟨rfl, _, _, (leads_ren [(900, 10003000), (901, 10003001)] (l := [(4, .c (.bool i1))]) (st' := [(0, .rc [.own 900 false, .own 901 false]), (1, .dead), (2, .dead), (900, .sl 89 y3_ (o1 ++ [i]) .shallow), (901, .sl 4 .bool (o2 ++ [false]) .shallow)]) rfl rfl ⟨⟨⟨⟨rfl, rfl⟩, trivial⟩, ⟨⟨rfl, rfl⟩, trivial⟩, trivial⟩, trivial, trivial, ⟨rfl, rfl⟩, ⟨rfl, rfl⟩, trivial⟩ ⟨.inl rfl, trivial⟩), he⟩
    ·skip
     refine And.intro (by kernel_rfl) ?_
     have he := ok_rq he
     have hq1 := he.1
     have he := he.2
     have he := ok_rq he
     have hq2 := he.1
     have he := he.2
     refine And.intro ?_ (And.intro ?_ (And.intro ?_ (And.intro ?_ (trivial))))
     ·skip
      refine And.intro ?_ (And.intro ?_ (And.intro ?_ (trivial)))
      ·skip
       refine And.intro ?_ (And.intro ?_ (And.intro ?_ (trivial)))
       ·skip
        refine And.intro hq1 ?_
        refine And.intro ?_ (And.intro ?_ (trivial))
        ·skip
         refine And.intro ?_ trivial
         refine And.intro ?_ trivial
         refine And.intro hq2 ?_
         refine And.intro ?_ trivial
         refine And.intro ?_ trivial
         exact ⟨(), he, (leads_ren [(10003000, 165), (10003001, 171)] rfl rfl ⟨⟨⟨⟨rfl, rfl⟩, trivial⟩, ⟨⟨rfl, rfl⟩, trivial⟩, trivial⟩, trivial, trivial, ⟨rfl, rfl⟩, ⟨rfl, rfl⟩, trivial⟩ ⟨.inl rfl, trivial⟩)⟩
        ·skip
         refine And.intro ?_ trivial
         refine And.intro ?_ trivial
         refine And.intro hq2 ?_
         refine And.intro ?_ trivial
         refine And.intro ?_ trivial
         exact ⟨(), he, (leads_ren [(10003000, 165), (10003001, 171)] rfl rfl ⟨⟨⟨⟨rfl, rfl⟩, trivial⟩, ⟨⟨rfl, rfl⟩, trivial⟩, trivial⟩, trivial, trivial, ⟨rfl, rfl⟩, ⟨rfl, rfl⟩, trivial⟩ ⟨.inl rfl, trivial⟩)⟩
       ·skip
        refine And.intro ?_ (And.intro ?_ (trivial))
        ·skip
         refine And.intro hq1 ?_
         refine And.intro ?_ trivial
         refine And.intro ?_ trivial
         refine And.intro hq2 ?_
         refine And.intro ?_ trivial
         refine And.intro ?_ trivial
         exact ⟨(), he, (leads_ren [(10003000, 165), (10003001, 171)] rfl rfl ⟨⟨⟨⟨rfl, rfl⟩, trivial⟩, ⟨⟨rfl, rfl⟩, trivial⟩, trivial⟩, trivial, trivial, ⟨rfl, rfl⟩, ⟨rfl, rfl⟩, trivial⟩ ⟨.inl rfl, trivial⟩)⟩
        ·skip
         refine And.intro ?_ trivial
         refine And.intro hq1 ?_
         refine And.intro ?_ trivial
         refine And.intro hq2 ?_
         refine And.intro ?_ trivial
         refine And.intro ?_ trivial
         exact ⟨(), he, (leads_ren [(10003000, 165), (10003001, 171)] rfl rfl ⟨⟨⟨⟨rfl, rfl⟩, trivial⟩, ⟨⟨rfl, rfl⟩, trivial⟩, trivial⟩, trivial, trivial, ⟨rfl, rfl⟩, ⟨rfl, rfl⟩, trivial⟩ ⟨.inl rfl, trivial⟩)⟩
       ·skip
        refine And.intro ?_ (And.intro ?_ (trivial))
        ·skip
         refine And.intro hq1 ?_
         refine And.intro ?_ trivial
         refine And.intro ?_ trivial
         refine And.intro hq2 ?_
         refine And.intro ?_ trivial
         refine And.intro ?_ trivial
         exact ⟨(), he, (leads_ren [(10003000, 165), (10003001, 171)] rfl rfl ⟨⟨⟨⟨rfl, rfl⟩, trivial⟩, ⟨⟨rfl, rfl⟩, trivial⟩, trivial⟩, trivial, trivial, ⟨rfl, rfl⟩, ⟨rfl, rfl⟩, trivial⟩ ⟨.inl rfl, trivial⟩)⟩
        ·skip
         refine And.intro ?_ trivial
         refine And.intro hq1 ?_
         refine And.intro ?_ trivial
         refine And.intro hq2 ?_
         refine And.intro ?_ trivial
         refine And.intro ?_ trivial
         exact ⟨(), he, (leads_ren [(10003000, 165), (10003001, 171)] rfl rfl ⟨⟨⟨⟨rfl, rfl⟩, trivial⟩, ⟨⟨rfl, rfl⟩, trivial⟩, trivial⟩, trivial, trivial, ⟨rfl, rfl⟩, ⟨rfl, rfl⟩, trivial⟩ ⟨.inl rfl, trivial⟩)⟩
      ·skip
       refine And.intro ?_ (And.intro ?_ (trivial))
       ·skip
        refine And.intro ?_ (And.intro ?_ (trivial))
        ·skip
         refine And.intro hq1 ?_
         refine And.intro ?_ trivial
         refine And.intro ?_ trivial
         refine And.intro hq2 ?_
         refine And.intro ?_ trivial
         refine And.intro ?_ trivial
         exact ⟨(), he, (leads_ren [(10003000, 165), (10003001, 171)] rfl rfl ⟨⟨⟨⟨rfl, rfl⟩, trivial⟩, ⟨⟨rfl, rfl⟩, trivial⟩, trivial⟩, trivial, trivial, ⟨rfl, rfl⟩, ⟨rfl, rfl⟩, trivial⟩ ⟨.inl rfl, trivial⟩)⟩
        ·skip
         refine And.intro ?_ trivial
         refine And.intro hq1 ?_
         refine And.intro ?_ trivial
         refine And.intro hq2 ?_
         refine And.intro ?_ trivial
         refine And.intro ?_ trivial
         exact ⟨(), he, (leads_ren [(10003000, 165), (10003001, 171)] rfl rfl ⟨⟨⟨⟨rfl, rfl⟩, trivial⟩, ⟨⟨rfl, rfl⟩, trivial⟩, trivial⟩, trivial, trivial, ⟨rfl, rfl⟩, ⟨rfl, rfl⟩, trivial⟩ ⟨.inl rfl, trivial⟩)⟩
       ·skip
        refine And.intro ?_ trivial
        refine And.intro ?_ trivial
        refine And.intro hq1 ?_
        refine And.intro ?_ trivial
        refine And.intro hq2 ?_
        refine And.intro ?_ trivial
        refine And.intro ?_ trivial
        exact ⟨(), he, (leads_ren [(10003000, 165), (10003001, 171)] rfl rfl ⟨⟨⟨⟨rfl, rfl⟩, trivial⟩, ⟨⟨rfl, rfl⟩, trivial⟩, trivial⟩, trivial, trivial, ⟨rfl, rfl⟩, ⟨rfl, rfl⟩, trivial⟩ ⟨.inl rfl, trivial⟩)⟩
      ·skip
       refine And.intro ?_ (And.intro ?_ (trivial))
       ·skip
        refine And.intro ?_ (And.intro ?_ (trivial))
        ·skip
         refine And.intro hq1 ?_
         refine And.intro ?_ trivial
         refine And.intro ?_ trivial
         refine And.intro hq2 ?_
         refine And.intro ?_ trivial
         refine And.intro ?_ trivial
         exact ⟨(), he, (leads_ren [(10003000, 165), (10003001, 171)] rfl rfl ⟨⟨⟨⟨rfl, rfl⟩, trivial⟩, ⟨⟨rfl, rfl⟩, trivial⟩, trivial⟩, trivial, trivial, ⟨rfl, rfl⟩, ⟨rfl, rfl⟩, trivial⟩ ⟨.inl rfl, trivial⟩)⟩
        ·skip
         refine And.intro ?_ trivial
         refine And.intro hq1 ?_
         refine And.intro ?_ trivial
         refine And.intro hq2 ?_
         refine And.intro ?_ trivial
         refine And.intro ?_ trivial
         exact ⟨(), he, (leads_ren [(10003000, 165), (10003001, 171)] rfl rfl ⟨⟨⟨⟨rfl, rfl⟩, trivial⟩, ⟨⟨rfl, rfl⟩, trivial⟩, trivial⟩, trivial, trivial, ⟨rfl, rfl⟩, ⟨rfl, rfl⟩, trivial⟩ ⟨.inl rfl, trivial⟩)⟩
       ·skip
        refine And.intro ?_ trivial
        refine And.intro ?_ trivial
        refine And.intro hq1 ?_
        refine And.intro ?_ trivial
        refine And.intro hq2 ?_
        refine And.intro ?_ trivial
        refine And.intro ?_ trivial
        exact ⟨(), he, (leads_ren [(10003000, 165), (10003001, 171)] rfl rfl ⟨⟨⟨⟨rfl, rfl⟩, trivial⟩, ⟨⟨rfl, rfl⟩, trivial⟩, trivial⟩, trivial, trivial, ⟨rfl, rfl⟩, ⟨rfl, rfl⟩, trivial⟩ ⟨.inl rfl, trivial⟩)⟩
     ·skip
      refine And.intro ?_ (And.intro ?_ (And.intro ?_ (trivial)))
      ·skip
       refine And.intro ?_ (And.intro ?_ (And.intro ?_ (trivial)))
       ·skip
        refine And.intro hq1 ?_
        refine And.intro ?_ (And.intro ?_ (trivial))
        ·skip
         refine And.intro ?_ trivial
         refine And.intro ?_ trivial
         refine And.intro hq2 ?_
         refine And.intro ?_ trivial
         refine And.intro ?_ trivial
         exact ⟨(), he, (leads_ren [(10003000, 165), (10003001, 171)] rfl rfl ⟨⟨⟨⟨rfl, rfl⟩, trivial⟩, ⟨⟨rfl, rfl⟩, trivial⟩, trivial⟩, trivial, trivial, ⟨rfl, rfl⟩, ⟨rfl, rfl⟩, trivial⟩ ⟨.inl rfl, trivial⟩)⟩
        ·skip
         refine And.intro ?_ trivial
         refine And.intro ?_ trivial
         refine And.intro hq2 ?_
         refine And.intro ?_ trivial
         refine And.intro ?_ trivial
         exact ⟨(), he, (leads_ren [(10003000, 165), (10003001, 171)] rfl rfl ⟨⟨⟨⟨rfl, rfl⟩, trivial⟩, ⟨⟨rfl, rfl⟩, trivial⟩, trivial⟩, trivial, trivial, ⟨rfl, rfl⟩, ⟨rfl, rfl⟩, trivial⟩ ⟨.inl rfl, trivial⟩)⟩
       ·skip
        refine And.intro ?_ (And.intro ?_ (trivial))
        ·skip
         refine And.intro hq1 ?_
         refine And.intro ?_ trivial
         refine And.intro ?_ trivial
         refine And.intro hq2 ?_
         refine And.intro ?_ trivial
         refine And.intro ?_ trivial
         exact ⟨(), he, (leads_ren [(10003000, 165), (10003001, 171)] rfl rfl ⟨⟨⟨⟨rfl, rfl⟩, trivial⟩, ⟨⟨rfl, rfl⟩, trivial⟩, trivial⟩, trivial, trivial, ⟨rfl, rfl⟩, ⟨rfl, rfl⟩, trivial⟩ ⟨.inl rfl, trivial⟩)⟩
        ·skip
         refine And.intro ?_ trivial
         refine And.intro hq1 ?_
         refine And.intro ?_ trivial
         refine And.intro hq2 ?_
         refine And.intro ?_ trivial
         refine And.intro ?_ trivial
         exact ⟨(), he, (leads_ren [(10003000, 165), (10003001, 171)] rfl rfl ⟨⟨⟨⟨rfl, rfl⟩, trivial⟩, ⟨⟨rfl, rfl⟩, trivial⟩, trivial⟩, trivial, trivial, ⟨rfl, rfl⟩, ⟨rfl, rfl⟩, trivial⟩ ⟨.inl rfl, trivial⟩)⟩
       ·skip
        refine And.intro ?_ (And.intro ?_ (trivial))
        ·skip
         refine And.intro hq1 ?_
         refine And.intro ?_ trivial
         refine And.intro ?_ trivial
         refine And.intro hq2 ?_
         refine And.intro ?_ trivial
         refine And.intro ?_ trivial
         exact ⟨(), he, (leads_ren [(10003000, 165), (10003001, 171)] rfl rfl ⟨⟨⟨⟨rfl, rfl⟩, trivial⟩, ⟨⟨rfl, rfl⟩, trivial⟩, trivial⟩, trivial, trivial, ⟨rfl, rfl⟩, ⟨rfl, rfl⟩, trivial⟩ ⟨.inl rfl, trivial⟩)⟩
        ·skip
         refine And.intro ?_ trivial
         refine And.intro hq1 ?_
         refine And.intro ?_ trivial
         refine And.intro hq2 ?_
         refine And.intro ?_ trivial
         refine And.intro ?_ trivial
         exact ⟨(), he, (leads_ren [(10003000, 165), (10003001, 171)] rfl rfl ⟨⟨⟨⟨rfl, rfl⟩, trivial⟩, ⟨⟨rfl, rfl⟩, trivial⟩, trivial⟩, trivial, trivial, ⟨rfl, rfl⟩, ⟨rfl, rfl⟩, trivial⟩ ⟨.inl rfl, trivial⟩)⟩
      ·skip
       refine And.intro ?_ (And.intro ?_ (trivial))
       ·skip
        refine And.intro ?_ (And.intro ?_ (trivial))
        ·skip
         refine And.intro hq1 ?_
         refine And.intro ?_ trivial
         refine And.intro ?_ trivial
         refine And.intro hq2 ?_
         refine And.intro ?_ trivial
         refine And.intro ?_ trivial
         exact ⟨(), he, (leads_ren [(10003000, 165), (10003001, 171)] rfl rfl ⟨⟨⟨⟨rfl, rfl⟩, trivial⟩, ⟨⟨rfl, rfl⟩, trivial⟩, trivial⟩, trivial, trivial, ⟨rfl, rfl⟩, ⟨rfl, rfl⟩, trivial⟩ ⟨.inl rfl, trivial⟩)⟩
        ·skip
         refine And.intro ?_ trivial
         refine And.intro hq1 ?_
         refine And.intro ?_ trivial
         refine And.intro hq2 ?_
         refine And.intro ?_ trivial
         refine And.intro ?_ trivial
         exact ⟨(), he, (leads_ren [(10003000, 165), (10003001, 171)] rfl rfl ⟨⟨⟨⟨rfl, rfl⟩, trivial⟩, ⟨⟨rfl, rfl⟩, trivial⟩, trivial⟩, trivial, trivial, ⟨rfl, rfl⟩, ⟨rfl, rfl⟩, trivial⟩ ⟨.inl rfl, trivial⟩)⟩
       ·skip
        refine And.intro ?_ trivial
        refine And.intro ?_ trivial
        refine And.intro hq1 ?_
        refine And.intro ?_ trivial
        refine And.intro hq2 ?_
        refine And.intro ?_ trivial
        refine And.intro ?_ trivial
        exact ⟨(), he, (leads_ren [(10003000, 165), (10003001, 171)] rfl rfl ⟨⟨⟨⟨rfl, rfl⟩, trivial⟩, ⟨⟨rfl, rfl⟩, trivial⟩, trivial⟩, trivial, trivial, ⟨rfl, rfl⟩, ⟨rfl, rfl⟩, trivial⟩ ⟨.inl rfl, trivial⟩)⟩
      ·skip
       refine And.intro ?_ (And.intro ?_ (trivial))
       ·skip
        refine And.intro ?_ (And.intro ?_ (trivial))
        ·skip
         refine And.intro hq1 ?_
         refine And.intro ?_ trivial
         refine And.intro ?_ trivial
         refine And.intro hq2 ?_
         refine And.intro ?_ trivial
         refine And.intro ?_ trivial
         exact ⟨(), he, (leads_ren [(10003000, 165), (10003001, 171)] rfl rfl ⟨⟨⟨⟨rfl, rfl⟩, trivial⟩, ⟨⟨rfl, rfl⟩, trivial⟩, trivial⟩, trivial, trivial, ⟨rfl, rfl⟩, ⟨rfl, rfl⟩, trivial⟩ ⟨.inl rfl, trivial⟩)⟩
        ·skip
         refine And.intro ?_ trivial
         refine And.intro hq1 ?_
         refine And.intro ?_ trivial
         refine And.intro hq2 ?_
         refine And.intro ?_ trivial
         refine And.intro ?_ trivial
         exact ⟨(), he, (leads_ren [(10003000, 165), (10003001, 171)] rfl rfl ⟨⟨⟨⟨rfl, rfl⟩, trivial⟩, ⟨⟨rfl, rfl⟩, trivial⟩, trivial⟩, trivial, trivial, ⟨rfl, rfl⟩, ⟨rfl, rfl⟩, trivial⟩ ⟨.inl rfl, trivial⟩)⟩
       ·skip
        refine And.intro ?_ trivial
        refine And.intro ?_ trivial
        refine And.intro hq1 ?_
        refine And.intro ?_ trivial
        refine And.intro hq2 ?_
        refine And.intro ?_ trivial
        refine And.intro ?_ trivial
        exact ⟨(), he, (leads_ren [(10003000, 165), (10003001, 171)] rfl rfl ⟨⟨⟨⟨rfl, rfl⟩, trivial⟩, ⟨⟨rfl, rfl⟩, trivial⟩, trivial⟩, trivial, trivial, ⟨rfl, rfl⟩, ⟨rfl, rfl⟩, trivial⟩ ⟨.inl rfl, trivial⟩)⟩
     ·skip
      refine And.intro ?_ (And.intro ?_ (And.intro ?_ (trivial)))
      ·skip
       refine And.intro ?_ (And.intro ?_ (trivial))
       ·skip
        refine And.intro ?_ (And.intro ?_ (trivial))
        ·skip
         refine And.intro hq1 ?_
         refine And.intro ?_ trivial
         refine And.intro ?_ trivial
         refine And.intro hq2 ?_
         refine And.intro ?_ trivial
         refine And.intro ?_ trivial
         exact ⟨(), he, (leads_ren [(10003000, 165), (10003001, 171)] rfl rfl ⟨⟨⟨⟨rfl, rfl⟩, trivial⟩, ⟨⟨rfl, rfl⟩, trivial⟩, trivial⟩, trivial, trivial, ⟨rfl, rfl⟩, ⟨rfl, rfl⟩, trivial⟩ ⟨.inl rfl, trivial⟩)⟩
        ·skip
         refine And.intro ?_ trivial
         refine And.intro hq1 ?_
         refine And.intro ?_ trivial
         refine And.intro hq2 ?_
         refine And.intro ?_ trivial
         refine And.intro ?_ trivial
         exact ⟨(), he, (leads_ren [(10003000, 165), (10003001, 171)] rfl rfl ⟨⟨⟨⟨rfl, rfl⟩, trivial⟩, ⟨⟨rfl, rfl⟩, trivial⟩, trivial⟩, trivial, trivial, ⟨rfl, rfl⟩, ⟨rfl, rfl⟩, trivial⟩ ⟨.inl rfl, trivial⟩)⟩
       ·skip
        refine And.intro ?_ trivial
        refine And.intro ?_ trivial
        refine And.intro hq1 ?_
        refine And.intro ?_ trivial
        refine And.intro hq2 ?_
        refine And.intro ?_ trivial
        refine And.intro ?_ trivial
        exact ⟨(), he, (leads_ren [(10003000, 165), (10003001, 171)] rfl rfl ⟨⟨⟨⟨rfl, rfl⟩, trivial⟩, ⟨⟨rfl, rfl⟩, trivial⟩, trivial⟩, trivial, trivial, ⟨rfl, rfl⟩, ⟨rfl, rfl⟩, trivial⟩ ⟨.inl rfl, trivial⟩)⟩
      ·skip
       refine And.intro ?_ (And.intro ?_ (trivial))
       ·skip
        refine And.intro ?_ (And.intro ?_ (trivial))
        ·skip
         refine And.intro hq1 ?_
         refine And.intro ?_ trivial
         refine And.intro ?_ trivial
         refine And.intro hq2 ?_
         refine And.intro ?_ trivial
         refine And.intro ?_ trivial
         exact ⟨(), he, (leads_ren [(10003000, 165), (10003001, 171)] rfl rfl ⟨⟨⟨⟨rfl, rfl⟩, trivial⟩, ⟨⟨rfl, rfl⟩, trivial⟩, trivial⟩, trivial, trivial, ⟨rfl, rfl⟩, ⟨rfl, rfl⟩, trivial⟩ ⟨.inl rfl, trivial⟩)⟩
        ·skip
         refine And.intro ?_ trivial
         refine And.intro hq1 ?_
         refine And.intro ?_ trivial
         refine And.intro hq2 ?_
         refine And.intro ?_ trivial
         refine And.intro ?_ trivial
         exact ⟨(), he, (leads_ren [(10003000, 165), (10003001, 171)] rfl rfl ⟨⟨⟨⟨rfl, rfl⟩, trivial⟩, ⟨⟨rfl, rfl⟩, trivial⟩, trivial⟩, trivial, trivial, ⟨rfl, rfl⟩, ⟨rfl, rfl⟩, trivial⟩ ⟨.inl rfl, trivial⟩)⟩
       ·skip
        refine And.intro ?_ trivial
        refine And.intro ?_ trivial
        refine And.intro hq1 ?_
        refine And.intro ?_ trivial
        refine And.intro hq2 ?_
        refine And.intro ?_ trivial
        refine And.intro ?_ trivial
        exact ⟨(), he, (leads_ren [(10003000, 165), (10003001, 171)] rfl rfl ⟨⟨⟨⟨rfl, rfl⟩, trivial⟩, ⟨⟨rfl, rfl⟩, trivial⟩, trivial⟩, trivial, trivial, ⟨rfl, rfl⟩, ⟨rfl, rfl⟩, trivial⟩ ⟨.inl rfl, trivial⟩)⟩
      ·skip
       refine And.intro ?_ (And.intro ?_ (trivial))
       ·skip
        refine And.intro ?_ trivial
        refine And.intro ?_ trivial
        refine And.intro hq1 ?_
        refine And.intro ?_ trivial
        refine And.intro hq2 ?_
        refine And.intro ?_ trivial
        refine And.intro ?_ trivial
        exact ⟨(), he, (leads_ren [(10003000, 165), (10003001, 171)] rfl rfl ⟨⟨⟨⟨rfl, rfl⟩, trivial⟩, ⟨⟨rfl, rfl⟩, trivial⟩, trivial⟩, trivial, trivial, ⟨rfl, rfl⟩, ⟨rfl, rfl⟩, trivial⟩ ⟨.inl rfl, trivial⟩)⟩
       ·skip
        refine And.intro ?_ trivial
        refine And.intro ?_ trivial
        refine And.intro hq1 ?_
        refine And.intro ?_ trivial
        refine And.intro hq2 ?_
        refine And.intro ?_ trivial
        refine And.intro ?_ trivial
        exact ⟨(), he, (leads_ren [(10003000, 165), (10003001, 171)] rfl rfl ⟨⟨⟨⟨rfl, rfl⟩, trivial⟩, ⟨⟨rfl, rfl⟩, trivial⟩, trivial⟩, trivial, trivial, ⟨rfl, rfl⟩, ⟨rfl, rfl⟩, trivial⟩ ⟨.inl rfl, trivial⟩)⟩
     ·skip
      refine And.intro ?_ (And.intro ?_ (And.intro ?_ (trivial)))
      ·skip
       refine And.intro ?_ (And.intro ?_ (trivial))
       ·skip
        refine And.intro ?_ (And.intro ?_ (trivial))
        ·skip
         refine And.intro hq1 ?_
         refine And.intro ?_ trivial
         refine And.intro ?_ trivial
         refine And.intro hq2 ?_
         refine And.intro ?_ trivial
         refine And.intro ?_ trivial
         exact ⟨(), he, (leads_ren [(10003000, 165), (10003001, 171)] rfl rfl ⟨⟨⟨⟨rfl, rfl⟩, trivial⟩, ⟨⟨rfl, rfl⟩, trivial⟩, trivial⟩, trivial, trivial, ⟨rfl, rfl⟩, ⟨rfl, rfl⟩, trivial⟩ ⟨.inl rfl, trivial⟩)⟩
        ·skip
         refine And.intro ?_ trivial
         refine And.intro hq1 ?_
         refine And.intro ?_ trivial
         refine And.intro hq2 ?_
         refine And.intro ?_ trivial
         refine And.intro ?_ trivial
         exact ⟨(), he, (leads_ren [(10003000, 165), (10003001, 171)] rfl rfl ⟨⟨⟨⟨rfl, rfl⟩, trivial⟩, ⟨⟨rfl, rfl⟩, trivial⟩, trivial⟩, trivial, trivial, ⟨rfl, rfl⟩, ⟨rfl, rfl⟩, trivial⟩ ⟨.inl rfl, trivial⟩)⟩
       ·skip
        refine And.intro ?_ trivial
        refine And.intro ?_ trivial
        refine And.intro hq1 ?_
        refine And.intro ?_ trivial
        refine And.intro hq2 ?_
        refine And.intro ?_ trivial
        refine And.intro ?_ trivial
        exact ⟨(), he, (leads_ren [(10003000, 165), (10003001, 171)] rfl rfl ⟨⟨⟨⟨rfl, rfl⟩, trivial⟩, ⟨⟨rfl, rfl⟩, trivial⟩, trivial⟩, trivial, trivial, ⟨rfl, rfl⟩, ⟨rfl, rfl⟩, trivial⟩ ⟨.inl rfl, trivial⟩)⟩
      ·skip
       refine And.intro ?_ (And.intro ?_ (trivial))
       ·skip
        refine And.intro ?_ (And.intro ?_ (trivial))
        ·skip
         refine And.intro hq1 ?_
         refine And.intro ?_ trivial
         refine And.intro ?_ trivial
         refine And.intro hq2 ?_
         refine And.intro ?_ trivial
         refine And.intro ?_ trivial
         exact ⟨(), he, (leads_ren [(10003000, 165), (10003001, 171)] rfl rfl ⟨⟨⟨⟨rfl, rfl⟩, trivial⟩, ⟨⟨rfl, rfl⟩, trivial⟩, trivial⟩, trivial, trivial, ⟨rfl, rfl⟩, ⟨rfl, rfl⟩, trivial⟩ ⟨.inl rfl, trivial⟩)⟩
        ·skip
         refine And.intro ?_ trivial
         refine And.intro hq1 ?_
         refine And.intro ?_ trivial
         refine And.intro hq2 ?_
         refine And.intro ?_ trivial
         refine And.intro ?_ trivial
         exact ⟨(), he, (leads_ren [(10003000, 165), (10003001, 171)] rfl rfl ⟨⟨⟨⟨rfl, rfl⟩, trivial⟩, ⟨⟨rfl, rfl⟩, trivial⟩, trivial⟩, trivial, trivial, ⟨rfl, rfl⟩, ⟨rfl, rfl⟩, trivial⟩ ⟨.inl rfl, trivial⟩)⟩
       ·skip
        refine And.intro ?_ trivial
        refine And.intro ?_ trivial
        refine And.intro hq1 ?_
        refine And.intro ?_ trivial
        refine And.intro hq2 ?_
        refine And.intro ?_ trivial
        refine And.intro ?_ trivial
        exact ⟨(), he, (leads_ren [(10003000, 165), (10003001, 171)] rfl rfl ⟨⟨⟨⟨rfl, rfl⟩, trivial⟩, ⟨⟨rfl, rfl⟩, trivial⟩, trivial⟩, trivial, trivial, ⟨rfl, rfl⟩, ⟨rfl, rfl⟩, trivial⟩ ⟨.inl rfl, trivial⟩)⟩
      ·skip
       refine And.intro ?_ (And.intro ?_ (trivial))
       ·skip
        refine And.intro ?_ trivial
        refine And.intro ?_ trivial
        refine And.intro hq1 ?_
        refine And.intro ?_ trivial
        refine And.intro hq2 ?_
        refine And.intro ?_ trivial
        refine And.intro ?_ trivial
        exact ⟨(), he, (leads_ren [(10003000, 165), (10003001, 171)] rfl rfl ⟨⟨⟨⟨rfl, rfl⟩, trivial⟩, ⟨⟨rfl, rfl⟩, trivial⟩, trivial⟩, trivial, trivial, ⟨rfl, rfl⟩, ⟨rfl, rfl⟩, trivial⟩ ⟨.inl rfl, trivial⟩)⟩
       ·skip
        refine And.intro ?_ trivial
        refine And.intro ?_ trivial
        refine And.intro hq1 ?_
        refine And.intro ?_ trivial
        refine And.intro hq2 ?_
        refine And.intro ?_ trivial
        refine And.intro ?_ trivial
        exact ⟨(), he, (leads_ren [(10003000, 165), (10003001, 171)] rfl rfl ⟨⟨⟨⟨rfl, rfl⟩, trivial⟩, ⟨⟨rfl, rfl⟩, trivial⟩, trivial⟩, trivial, trivial, ⟨rfl, rfl⟩, ⟨rfl, rfl⟩, trivial⟩ ⟨.inl rfl, trivial⟩)⟩
   ·skip
    refine go_if he (fun he => ?_) fun he => ?_
    ·refine And.intro (by kernel_rfl) ?_
     refine And.intro ?_ trivial
     refine go_rq he fun he => ?_
     refine And.intro ?_ trivial
     have he := ok_some he
     exact ⟨rfl, _, _, (leads_ren [(900, 1), (901, 2)] (l := [(4, .c (.bool true))]) (st' := [(0, .rc [.own 900 false, .own 901 false]), (1, .dead), (2, .dead), (900, .sl 89 y3_ o1 .shallow), (901, .sl 4 .bool (o2.set (a1_0, (a1_1, (a1_2, (a1_3, a1_4)))).2.1.toNat true) .shallow)]) rfl rfl ⟨⟨⟨⟨rfl, rfl⟩, trivial⟩, ⟨⟨rfl, rfl⟩, trivial⟩, trivial⟩, trivial, trivial, ⟨rfl, rfl⟩, ⟨rfl, rfl⟩, trivial⟩ ⟨.inr rfl, trivial⟩), he⟩
    ·refine go_if he (fun he => ?_) fun he => ?_
     ·refine And.intro (by kernel_rfl) ?_
      have he := ok_rq he
      have hq1 := he.1
      have he := he.2
      have he := ok_rq he
      have hq2 := he.1
      have he := he.2
      obtain ⟨r7_, hq3, he⟩ := ok_bind he
      refine And.intro ?_ (And.intro ?_ (trivial))
      ·skip
       refine And.intro hq1 ?_
       refine And.intro ?_ (And.intro ?_ (trivial))
       ·skip
        refine And.intro ?_ trivial
        refine And.intro hq2 ?_
        refine And.intro ?_ trivial
        refine And.intro ?_ trivial
        refine ⟨r7_, hq3, ?_⟩
        refine And.intro ?_ trivial
        exact ⟨((r7_.2.2, r7_.2.1), r7_.1), he, ((leads_freeze [71901]).trans (leads_ren [] (l := [(0, .c (.ptr 0 0)), (7, .c (.iptr y3_ (r7_.2.2, r7_.2.1) 0)), (8, .c (.bool r7_.1))]) (st' := [(0, .rc [.own 1 false, .own 2 false]), (1, .sl 89 y3_ o1 .shallow), (2, .sl 4 .bool o2 .shallow)]) rfl rfl ⟨⟨⟨⟨rfl, rfl⟩, trivial⟩, ⟨⟨rfl, rfl⟩, trivial⟩, trivial⟩, ⟨rfl, rfl⟩, ⟨rfl, rfl⟩, trivial⟩ ⟨⟨⟨rfl, rfl⟩, rfl⟩, .inr ⟨7, rfl, ⟨rfl, by repeat (first | exact trivial | refine And.intro trivial ?_)⟩, rfl⟩, .inl rfl, trivial⟩))⟩
       ·skip
        refine And.intro hq2 ?_
        refine And.intro ?_ (And.intro ?_ (trivial))
        ·skip
         refine And.intro ?_ trivial
         refine And.intro ?_ trivial
         refine ⟨r7_, hq3, ?_⟩
         refine And.intro ?_ trivial
         exact ⟨((r7_.2.2, r7_.2.1), r7_.1), he, ((leads_freeze [71901]).trans (leads_ren [] (l := [(0, .c (.ptr 0 0)), (7, .c (.iptr y3_ (r7_.2.2, r7_.2.1) 0)), (8, .c (.bool r7_.1))]) (st' := [(0, .rc [.own 1 false, .own 2 false]), (1, .sl 89 y3_ o1 .shallow), (2, .sl 4 .bool o2 .shallow)]) rfl rfl ⟨⟨⟨⟨rfl, rfl⟩, trivial⟩, ⟨⟨rfl, rfl⟩, trivial⟩, trivial⟩, ⟨rfl, rfl⟩, ⟨rfl, rfl⟩, trivial⟩ ⟨⟨⟨rfl, rfl⟩, rfl⟩, .inr ⟨7, rfl, ⟨rfl, by repeat (first | exact trivial | refine And.intro trivial ?_)⟩, rfl⟩, .inl rfl, trivial⟩))⟩
        ·skip
         refine And.intro ?_ trivial
         refine And.intro ?_ trivial
         refine ⟨r7_, hq3, ?_⟩
         refine And.intro ?_ trivial
         exact ⟨((r7_.2.2, r7_.2.1), r7_.1), he, ((leads_freeze [71901]).trans (leads_ren [] (l := [(0, .c (.ptr 0 0)), (7, .c (.iptr y3_ (r7_.2.2, r7_.2.1) 0)), (8, .c (.bool r7_.1))]) (st' := [(0, .rc [.own 1 false, .own 2 false]), (1, .sl 89 y3_ o1 .shallow), (2, .sl 4 .bool o2 .shallow)]) rfl rfl ⟨⟨⟨⟨rfl, rfl⟩, trivial⟩, ⟨⟨rfl, rfl⟩, trivial⟩, trivial⟩, ⟨rfl, rfl⟩, ⟨rfl, rfl⟩, trivial⟩ ⟨⟨⟨rfl, rfl⟩, rfl⟩, .inr ⟨7, rfl, ⟨rfl, by repeat (first | exact trivial | refine And.intro trivial ?_)⟩, rfl⟩, .inl rfl, trivial⟩))⟩
      ·skip
       refine And.intro hq2 ?_
       refine And.intro ?_ (And.intro ?_ (trivial))
       ·skip
        refine And.intro hq1 ?_
        refine And.intro ?_ (And.intro ?_ (trivial))
        ·skip
         refine And.intro ?_ trivial
         refine And.intro ?_ trivial
         refine ⟨r7_, hq3, ?_⟩
         refine And.intro ?_ trivial
         exact ⟨((r7_.2.2, r7_.2.1), r7_.1), he, ((leads_freeze [71901]).trans (leads_ren [] (l := [(0, .c (.ptr 0 0)), (7, .c (.iptr y3_ (r7_.2.2, r7_.2.1) 0)), (8, .c (.bool r7_.1))]) (st' := [(0, .rc [.own 1 false, .own 2 false]), (1, .sl 89 y3_ o1 .shallow), (2, .sl 4 .bool o2 .shallow)]) rfl rfl ⟨⟨⟨⟨rfl, rfl⟩, trivial⟩, ⟨⟨rfl, rfl⟩, trivial⟩, trivial⟩, ⟨rfl, rfl⟩, ⟨rfl, rfl⟩, trivial⟩ ⟨⟨⟨rfl, rfl⟩, rfl⟩, .inr ⟨7, rfl, ⟨rfl, by repeat (first | exact trivial | refine And.intro trivial ?_)⟩, rfl⟩, .inl rfl, trivial⟩))⟩
        ·skip
         refine And.intro ?_ trivial
         refine And.intro ?_ trivial
         refine ⟨r7_, hq3, ?_⟩
         refine And.intro ?_ trivial
         exact ⟨((r7_.2.2, r7_.2.1), r7_.1), he, ((leads_freeze [71901]).trans (leads_ren [] (l := [(0, .c (.ptr 0 0)), (7, .c (.iptr y3_ (r7_.2.2, r7_.2.1) 0)), (8, .c (.bool r7_.1))]) (st' := [(0, .rc [.own 1 false, .own 2 false]), (1, .sl 89 y3_ o1 .shallow), (2, .sl 4 .bool o2 .shallow)]) rfl rfl ⟨⟨⟨⟨rfl, rfl⟩, trivial⟩, ⟨⟨rfl, rfl⟩, trivial⟩, trivial⟩, ⟨rfl, rfl⟩, ⟨rfl, rfl⟩, trivial⟩ ⟨⟨⟨rfl, rfl⟩, rfl⟩, .inr ⟨7, rfl, ⟨rfl, by repeat (first | exact trivial | refine And.intro trivial ?_)⟩, rfl⟩, .inl rfl, trivial⟩))⟩
       ·skip
        refine And.intro ?_ trivial
        refine And.intro hq1 ?_
        refine And.intro ?_ trivial
        refine And.intro ?_ trivial
        refine ⟨r7_, hq3, ?_⟩
        refine And.intro ?_ trivial
        exact ⟨((r7_.2.2, r7_.2.1), r7_.1), he, ((leads_freeze [71901]).trans (leads_ren [] (l := [(0, .c (.ptr 0 0)), (7, .c (.iptr y3_ (r7_.2.2, r7_.2.1) 0)), (8, .c (.bool r7_.1))]) (st' := [(0, .rc [.own 1 false, .own 2 false]), (1, .sl 89 y3_ o1 .shallow), (2, .sl 4 .bool o2 .shallow)]) rfl rfl ⟨⟨⟨⟨rfl, rfl⟩, trivial⟩, ⟨⟨rfl, rfl⟩, trivial⟩, trivial⟩, ⟨rfl, rfl⟩, ⟨rfl, rfl⟩, trivial⟩ ⟨⟨⟨rfl, rfl⟩, rfl⟩, .inr ⟨7, rfl, ⟨rfl, by repeat (first | exact trivial | refine And.intro trivial ?_)⟩, rfl⟩, .inl rfl, trivial⟩))⟩
     ·refine go_if he (fun he => ?_) fun he => ?_
      ·refine And.intro (by kernel_rfl) ?_
       refine And.intro ?_ trivial
       refine go_rq he fun he => ?_
       refine And.intro ?_ trivial
       refine And.intro ?_ trivial
       refine go_bind he fun r9_ he => ?_
       refine And.intro ?_ trivial
       exact ⟨(r9_.2, r9_.1), he, (leads_ren [] rfl rfl ⟨⟨⟨⟨rfl, rfl⟩, trivial⟩, ⟨⟨rfl, rfl⟩, trivial⟩, trivial⟩, ⟨rfl, rfl⟩, ⟨rfl, rfl⟩, trivial⟩ ⟨⟨⟨rfl, rfl⟩, rfl⟩, .inr ⟨7, rfl, ⟨rfl, by repeat (first | exact trivial | refine And.intro trivial ?_)⟩, rfl⟩, .inl rfl, trivial⟩)⟩
      ·refine go_if he (fun he => ?_) fun he => ?_
       ·refine And.intro (by kernel_rfl) ?_
        refine And.intro ?_ trivial
        refine go_rq he fun he => ?_
        refine And.intro ?_ trivial
        refine And.intro ?_ trivial
        refine go_bind he fun r11_ he => ?_
        refine And.intro ?_ trivial
        exact ⟨(r11_.2, r11_.1), he, (leads_ren [] rfl rfl ⟨⟨⟨⟨rfl, rfl⟩, trivial⟩, ⟨⟨rfl, rfl⟩, trivial⟩, trivial⟩, ⟨rfl, rfl⟩, ⟨rfl, rfl⟩, trivial⟩ ⟨⟨⟨rfl, rfl⟩, rfl⟩, .inr ⟨7, rfl, ⟨rfl, by repeat (first | exact trivial | refine And.intro trivial ?_)⟩, rfl⟩, .inl rfl, trivial⟩)⟩
       ·refine go_if he (fun he => ?_) fun he => ?_
        ·refine And.intro (by kernel_rfl) ?_
         refine And.intro ?_ trivial
         refine go_rq he fun he => ?_
         refine And.intro ?_ trivial
         refine And.intro ?_ trivial
         refine go_bind he fun r13_ he => ?_
         refine And.intro ?_ trivial
         exact ⟨((r13_.2.2, r13_.2.1), r13_.1), he, ((leads_freeze [117901]).trans (leads_ren [] (l := [(0, .c (.ptr 0 0)), (7, .c (.iptr y3_ (r13_.2.2, r13_.2.1) 0)), (8, .c (.bool r13_.1))]) (st' := [(0, .rc [.own 1 false, .own 2 false]), (1, .sl 89 y3_ o1 .shallow), (2, .sl 4 .bool o2 .shallow)]) rfl rfl ⟨⟨⟨⟨rfl, rfl⟩, trivial⟩, ⟨⟨rfl, rfl⟩, trivial⟩, trivial⟩, ⟨rfl, rfl⟩, ⟨rfl, rfl⟩, trivial⟩ ⟨⟨⟨rfl, rfl⟩, rfl⟩, .inr ⟨7, rfl, ⟨rfl, by repeat (first | exact trivial | refine And.intro trivial ?_)⟩, rfl⟩, .inl rfl, trivial⟩))⟩
        ·refine go_if he (fun he => ?_) fun he => ?_
         ·refine And.intro (by kernel_rfl) ?_
          refine And.intro ?_ trivial
          refine go_rq he fun he => ?_
          refine And.intro ?_ trivial
          refine And.intro ?_ trivial
          refine go_bind he fun r15_ he => ?_
          refine And.intro ?_ trivial
          exact ⟨((r15_.2.2, r15_.2.1), r15_.1), he, ((leads_freeze [133901]).trans (leads_ren [] (l := [(0, .c (.ptr 0 0)), (7, .c (.iptr y3_ (r15_.2.2, r15_.2.1) 0)), (8, .c (.bool r15_.1))]) (st' := [(0, .rc [.own 1 false, .own 2 false]), (1, .sl 89 y3_ o1 .shallow), (2, .sl 4 .bool o2 .shallow)]) rfl rfl ⟨⟨⟨⟨rfl, rfl⟩, trivial⟩, ⟨⟨rfl, rfl⟩, trivial⟩, trivial⟩, ⟨rfl, rfl⟩, ⟨rfl, rfl⟩, trivial⟩ ⟨⟨⟨rfl, rfl⟩, rfl⟩, .inr ⟨7, rfl, ⟨rfl, by repeat (first | exact trivial | refine And.intro trivial ?_)⟩, rfl⟩, .inl rfl, trivial⟩))⟩
         ·refine go_if he (fun he => ?_) fun he => ?_
          ·refine go_bind he fun r16_ he => ?_
           exact ⟨((r16_.2.2, r16_.2.1), r16_.1), he, ((leads_freeze [141901]).trans (leads_ren [] (l := [(0, .c (.ptr 0 0)), (7, .c (.iptr y3_ (r16_.2.2, r16_.2.1) 0)), (8, .c (.bool r16_.1))]) (st' := [(0, .rc [.own 1 false, .own 2 false]), (1, .sl 89 y3_ o1 .shallow), (2, .sl 4 .bool o2 .shallow)]) rfl rfl ⟨⟨⟨⟨rfl, rfl⟩, trivial⟩, ⟨⟨rfl, rfl⟩, trivial⟩, trivial⟩, ⟨rfl, rfl⟩, ⟨rfl, rfl⟩, trivial⟩ ⟨⟨⟨rfl, rfl⟩, rfl⟩, .inr ⟨7, rfl, ⟨rfl, by repeat (first | exact trivial | refine And.intro trivial ?_)⟩, rfl⟩, .inl rfl, trivial⟩))⟩
          ·refine go_if he (fun he => ?_) fun he => ?_
           ·refine And.intro (by kernel_rfl) ?_
            refine And.intro ?_ trivial
            refine go_bind he fun r20_ he => ?_
            refine go_if he (fun he => ?_) fun he => ?_
            ·refine And.intro ?_ trivial
             refine go_bind he fun r21_ he => ?_
             refine And.intro ?_ trivial
             refine go_bind he fun r22_ he => ?_
             refine And.intro ?_ trivial
             exact ⟨((a1_0, (a1_1, (a1_2, (a1_3, a1_4)))).2.2.2, r22_), he, (leads_ren [] rfl rfl ⟨⟨⟨⟨rfl, rfl⟩, trivial⟩, ⟨⟨rfl, rfl⟩, trivial⟩, trivial⟩, ⟨rfl, rfl⟩, ⟨rfl, rfl⟩, trivial⟩ ⟨⟨⟨rfl, rfl⟩, rfl⟩, .inr ⟨7, rfl, ⟨rfl, by repeat (first | exact trivial | refine And.intro trivial ?_)⟩, rfl⟩, .inl rfl, trivial⟩)⟩
            ·refine And.intro ?_ trivial
             refine And.intro ?_ trivial
             refine And.intro ?_ trivial
             exact ⟨((a1_0, (a1_1, (a1_2, (a1_3, a1_4)))).2.2.2, false), he, (leads_ren [] rfl rfl ⟨⟨⟨⟨rfl, rfl⟩, trivial⟩, ⟨⟨rfl, rfl⟩, trivial⟩, trivial⟩, ⟨rfl, rfl⟩, ⟨rfl, rfl⟩, trivial⟩ ⟨⟨⟨rfl, rfl⟩, rfl⟩, .inr ⟨7, rfl, ⟨rfl, by repeat (first | exact trivial | refine And.intro trivial ?_)⟩, rfl⟩, .inr rfl, trivial⟩)⟩
           ·exact ⟨((([] : List D2_), (0:Int)), false), he, (leads_ren [] rfl rfl ⟨⟨⟨⟨rfl, rfl⟩, trivial⟩, ⟨⟨rfl, rfl⟩, trivial⟩, trivial⟩, ⟨rfl, rfl⟩, ⟨rfl, rfl⟩, trivial⟩ ⟨⟨⟨rfl, rfl⟩, rfl⟩, .inr ⟨7, rfl, ⟨rfl, by repeat (first | exact trivial | refine And.intro trivial ?_)⟩, rfl⟩, .inr rfl, trivial⟩)⟩
  ·skip
   refine go_bind he fun r2_ he => ?_
   refine go_if2 he (fun he => ?_) fun he => ?_
   ·refine go_if he (fun he => ?_) fun he => ?_
    ·refine go_bind he fun r3_ he => ?_
     refine go_if2 he (fun he => ?_) fun he => ?_
     ·refine go_if he (fun he => ?_) fun he => ?_
      ·refine go_bind he fun r4_ he => ?_
       refine go_if he (fun he => ?_) fun he => ?_
       ·have he := ok_some he
        exact ⟨rfl, _, _, (leads_ren [(900, 1), (901, 2)] (l := [(4, .c (.bool false))]) (st' := [(0, .rc [.own 900 false, .own 901 false]), (1, .dead), (2, .dead), (900, .sl 89 y3_ o1 .shallow), (901, .sl 4 .bool o2 .shallow)]) rfl rfl ⟨⟨⟨⟨rfl, rfl⟩, trivial⟩, ⟨⟨rfl, rfl⟩, trivial⟩, trivial⟩, trivial, trivial, ⟨rfl, rfl⟩, ⟨rfl, rfl⟩, trivial⟩ ⟨.inr rfl, trivial⟩), he⟩
       ·exact ⟨(), he, (leads_ren [] rfl rfl ⟨⟨⟨⟨rfl, rfl⟩, trivial⟩, ⟨⟨rfl, rfl⟩, trivial⟩, trivial⟩, ⟨rfl, rfl⟩, ⟨rfl, rfl⟩, trivial⟩ ⟨⟨⟨rfl, rfl⟩, rfl⟩, .inl rfl, trivial⟩)⟩
      ·exact ⟨(), he, (leads_ren [] rfl rfl ⟨⟨⟨⟨rfl, rfl⟩, trivial⟩, ⟨⟨rfl, rfl⟩, trivial⟩, trivial⟩, ⟨rfl, rfl⟩, ⟨rfl, rfl⟩, trivial⟩ ⟨⟨⟨rfl, rfl⟩, rfl⟩, .inl rfl, trivial⟩)⟩
     ·have he := ok_some he
      exact ⟨rfl, _, _, (leads_ren [(900, 1), (901, 2)] (l := [(4, .c (.bool false))]) (st' := [(0, .rc [.own 900 false, .own 901 false]), (1, .dead), (2, .dead), (900, .sl 89 y3_ o1 .shallow), (901, .sl 4 .bool o2 .shallow)]) rfl rfl ⟨⟨⟨⟨rfl, rfl⟩, trivial⟩, ⟨⟨rfl, rfl⟩, trivial⟩, trivial⟩, trivial, trivial, ⟨rfl, rfl⟩, ⟨rfl, rfl⟩, trivial⟩ ⟨.inr rfl, trivial⟩), he⟩
    ·refine go_if he (fun he => ?_) fun he => ?_
     ·refine go_bind he fun r5_ he => ?_
      refine go_if he (fun he => ?_) fun he => ?_
      ·have he := ok_some he
       exact ⟨rfl, _, _, (leads_ren [(900, 1), (901, 2)] (l := [(4, .c (.bool false))]) (st' := [(0, .rc [.own 900 false, .own 901 false]), (1, .dead), (2, .dead), (900, .sl 89 y3_ o1 .shallow), (901, .sl 4 .bool o2 .shallow)]) rfl rfl ⟨⟨⟨⟨rfl, rfl⟩, trivial⟩, ⟨⟨rfl, rfl⟩, trivial⟩, trivial⟩, trivial, trivial, ⟨rfl, rfl⟩, ⟨rfl, rfl⟩, trivial⟩ ⟨.inr rfl, trivial⟩), he⟩
      ·exact ⟨(), he, (leads_ren [] rfl rfl ⟨⟨⟨⟨rfl, rfl⟩, trivial⟩, ⟨⟨rfl, rfl⟩, trivial⟩, trivial⟩, ⟨rfl, rfl⟩, ⟨rfl, rfl⟩, trivial⟩ ⟨⟨⟨rfl, rfl⟩, rfl⟩, .inl rfl, trivial⟩)⟩
     ·exact ⟨(), he, (leads_ren [] rfl rfl ⟨⟨⟨⟨rfl, rfl⟩, trivial⟩, ⟨⟨rfl, rfl⟩, trivial⟩, trivial⟩, ⟨rfl, rfl⟩, ⟨rfl, rfl⟩, trivial⟩ ⟨⟨⟨rfl, rfl⟩, rfl⟩, .inl rfl, trivial⟩)⟩
   ·have he := ok_some he
    exact ⟨rfl, _, _, (leads_ren [(900, 1), (901, 2)] (l := [(4, .c (.bool false))]) (st' := [(0, .rc [.own 900 false, .own 901 false]), (1, .dead), (2, .dead), (900, .sl 89 y3_ o1 .shallow), (901, .sl 4 .bool o2 .shallow)]) rfl rfl ⟨⟨⟨⟨rfl, rfl⟩, trivial⟩, ⟨⟨rfl, rfl⟩, trivial⟩, trivial⟩, trivial, trivial, ⟨rfl, rfl⟩, ⟨rfl, rfl⟩, trivial⟩ ⟨.inr rfl, trivial⟩), he⟩
 ·skip
  exact ⟨(), he, (leads_ren [] rfl rfl ⟨⟨⟨⟨rfl, rfl⟩, trivial⟩, ⟨⟨rfl, rfl⟩, trivial⟩, trivial⟩, ⟨rfl, rfl⟩, ⟨rfl, rfl⟩, trivial⟩ ⟨⟨⟨rfl, rfl⟩, rfl⟩, .inr ⟨3, rfl, ⟨rfl, by repeat (first | exact trivial | refine And.intro trivial ?_)⟩, rfl⟩, trivial⟩)⟩

noncomputable def c_impl_run : Con := fun args st => match args, st with
  | [.c (.imm (.pair (.sl (.pair (.int .i64) (.int .i64))) (.int .i64)) list_), .c (.imm (.pair (.int .i64) (.pair (.int .i64) (.pair (.int .i64) (.pair (.sl (.pair (.int .i64) (.int .i64))) (.int .i64))))) steps)], [] => .opt (Bool × Int × (List D3_) × (List Bool) × Int) (impl_run list_ steps) (fun r => .ite r.1 (.ret (.tup [.c (.ptr 900 0), .c (.int .i64 r.2.1)]) [(900, .rc [.own 901 false, .own 902 false]), (901, .sl 89 y3_ r.2.2.1 .shallow), (902, .sl 4 .bool r.2.2.2.1 .shallow)]) (.ret (.tup [.c (.undef), .c (.int .i64 r.2.2.2.2)]) []))
  | _, _ => .fail

noncomputable def C_impl_run : Cfg := { y := tys, n := 38, h := 0, tab := [(61, c_slices_Clone_impl_Constraint), (98, c_impl_ProblemValid), (235, c_impl_running_step)], cut := [4], hand := [], good := [], deep := [], sched := [(3, (.first 0 (.first 2 (.first 3 (.alt 1 (.alt 4 (.alt 5 (.alt 6 (.first 7 .done) .stop) .stop) .stop) (.alt 4 (.alt 1 (.alt 5 (.alt 6 (.first 7 .done) .stop) .stop) .stop) .stop))))))] }

theorem t_impl_run : TabOk Tryz.prog C_impl_run := by
  refine tabOk_of ?_
  simp only [C_impl_run, List.forall_mem_cons]
  exact ⟨k_slices_Clone_impl_Constraint, k_impl_ProblemValid, k_impl_running_step, fun p h => by cases h⟩

theorem k_impl_run : Entry Tryz.prog 174 c_impl_run := by
 refine entry_by (C := C_impl_run) mixed tys_ok t_impl_run (fn := Tryz.f174) (c := bd Tryz.f174) (by kernel_rfl) (by kernel_rfl) (by kernel_rfl) (by kernel_rfl) ?_
 intro args st k he
 unfold c_impl_run at he
 split at he
 rotate_left
 ·exact he.elim
 rename_i list_ steps
 have he : Ok (impl_run list_ steps) (fun r => (r.1 = true → k (.tup [.c (.ptr 900 0), .c (.int .i64 r.2.1)]) [(900, .rc [.own 901 false, .own 902 false]), (901, .sl 89 y3_ r.2.2.1 .shallow), (902, .sl 4 .bool r.2.2.2.1 .shallow)]) ∧ (r.1 = false → k (.tup [.c (.undef), .c (.int .i64 r.2.2.2.2)]) [])) := he
 refine ⟨rfl, rfl, ?_⟩
 refine go_bind he fun r1_ he => ?_
 refine go_if2 he (fun he => ?_) fun he => ?_
 ·refine go_if he (fun he => ?_) fun he => ?_
  ·have he := ok_some he
   have he := he.2 rfl
   exact ⟨rfl, _, _, Leads.refl _ _, he⟩
  ·refine seq_model mixed tys_ok t_impl_run (S := (List D3_)) (I := (fun r_0 => (envOf [(1, .c (.imm y6_ steps)), (6, .c (.ptr 10000000 0))], [(10000000, .rc [.own 10000001 false, .own 10000002 false]), (10000001, .sl 89 y3_ r_0 .shallow), (10000002, .sl 4 .bool (List.replicate (list_.length:Int).toNat false) .shallow)]))) (B := fun s => Ok (impl_run_j1 list_ steps s) (fun r => (r.1 = true → k (.tup [.c (.ptr 900 0), .c (.int .i64 r.2.1)]) [(900, .rc [.own 901 false, .own 902 false]), (901, .sl 89 y3_ r.2.2.1 .shallow), (902, .sl 4 .bool r.2.2.2.1 .shallow)]) ∧ (r.1 = false → k (.tup [.c (.undef), .c (.int .i64 r.2.2.2.2)]) []))) ?_ ?_
   ·rintro r_0 he
    refine loop_model mixed tys_ok t_impl_run (S := Int × (List D3_) × (List Bool)) (I := (fun (i, r_01, r_1) => (envOf [(6, .c (.ptr 10001000 0)), (24, .c (.imm y6_ steps)), (25, .c (.int .i64 (steps.length:Int))), (26, .c (.int .i64 i))], [(10001000, .rc [.own 10001001 false, .own 10001002 false]), (10001001, .sl 89 y3_ r_01 .shallow), (10001002, .sl 4 .bool r_1 .shallow)]))) (f := impl_run_l1 steps) (K := (fun r => (r.1 = true → k (.tup [.c (.ptr 900 0), .c (.int .i64 r.2.1)]) [(900, .rc [.own 901 false, .own 902 false]), (901, .sl 89 y3_ r.2.2.1 .shallow), (902, .sl 4 .bool r.2.2.2.1 .shallow)]) ∧ (r.1 = false → k (.tup [.c (.undef), .c (.int .i64 r.2.2.2.2)]) []))) he (leads_ren [(10001000, 10000000), (10001001, 10000001), (10001002, 10000002)] rfl rfl ⟨⟨⟨⟨rfl, rfl⟩, trivial⟩, ⟨⟨rfl, rfl⟩, trivial⟩, trivial⟩, ⟨rfl, rfl⟩, ⟨rfl, rfl⟩, trivial⟩ ⟨⟨⟨rfl, rfl⟩, rfl⟩, .inl rfl, rfl, rfl, trivial⟩) ?_
    rintro ⟨i, r_01, r_1⟩ J1 he
    refine go_if he (fun he => ?_) fun he => ?_
    ·refine go_rq he fun he => ?_
     refine go_bind he fun r5_ he => ?_
     refine go_if he (fun he => ?_) fun he => ?_
     ·have he := ok_some he
      have he := he.2 rfl
      exact ⟨rfl, _, _, (leads_ren [] (l := [(4, .c (.undef)), (5, .c (.int .i64 i))]) (st' := []) rfl rfl trivial ⟨trivial, rfl, trivial⟩), he⟩
     ·refine go_rq he fun he => ?_
      have he := ok_some he
      exact ⟨((i + (1:Int)), r5_.2.1, r5_.2.2), he, (leads_ren [(10001001, 34900), (10001002, 34901)] rfl rfl ⟨⟨⟨⟨rfl, rfl⟩, trivial⟩, ⟨⟨rfl, rfl⟩, trivial⟩, trivial⟩, ⟨rfl, rfl⟩, ⟨rfl, rfl⟩, trivial⟩ ⟨⟨⟨rfl, rfl⟩, rfl⟩, .inl rfl, rfl, rfl, trivial⟩)⟩
    ·have he := ok_some he
     have he := he.1 rfl
     exact ⟨rfl, _, _, (leads_ren [(900, 10001000), (901, 10001001), (902, 10001002)] (l := [(4, .c (.ptr 900 0)), (5, .c (.int .i64 (-1:Int)))]) (st' := [(900, .rc [.own 901 false, .own 902 false]), (901, .sl 89 y3_ r_01 .shallow), (902, .sl 4 .bool r_1 .shallow)]) rfl rfl ⟨⟨⟨⟨rfl, rfl⟩, trivial⟩, ⟨⟨rfl, rfl⟩, trivial⟩, trivial⟩, ⟨rfl, rfl⟩, ⟨rfl, rfl⟩, trivial⟩ ⟨⟨⟨rfl, rfl⟩, rfl⟩, rfl, trivial⟩), he⟩
   ·skip
    refine And.intro (by kernel_rfl) ?_
    obtain ⟨r3_, hq1, he⟩ := ok_bind he
    have he := ok_rq he
    have hq2 := he.1
    have he := he.2
    refine And.intro ?_ (And.intro ?_ (trivial))
    ·skip
     refine ⟨r3_, hq1, ?_⟩
     refine And.intro ?_ trivial
     refine And.intro hq2 ?_
     refine And.intro ?_ trivial
     refine And.intro ?_ trivial
     exact ⟨r3_, he, (leads_ren [(10000000, 23), (10000001, 19900), (10000002, 21)] rfl rfl ⟨⟨⟨⟨rfl, rfl⟩, trivial⟩, ⟨⟨rfl, rfl⟩, trivial⟩, trivial⟩, ⟨rfl, rfl⟩, ⟨rfl, rfl⟩, trivial⟩ ⟨.inl rfl, ⟨⟨rfl, rfl⟩, rfl⟩, trivial⟩)⟩
    ·skip
     refine And.intro hq2 ?_
     refine And.intro ?_ trivial
     refine ⟨r3_, hq1, ?_⟩
     refine And.intro ?_ trivial
     refine And.intro ?_ trivial
     exact ⟨r3_, he, (leads_ren [(10000000, 23), (10000001, 19900), (10000002, 21)] rfl rfl ⟨⟨⟨⟨rfl, rfl⟩, trivial⟩, ⟨⟨rfl, rfl⟩, trivial⟩, trivial⟩, ⟨rfl, rfl⟩, ⟨rfl, rfl⟩, trivial⟩ ⟨.inl rfl, ⟨⟨rfl, rfl⟩, rfl⟩, trivial⟩)⟩
 ·have he := ok_some he
  have he := he.2 rfl
  exact ⟨rfl, _, _, Leads.refl _ _, he⟩

noncomputable def c_impl_ConstraintFalse : Con := fun args st => match args, st with
  | [.agg [.imm (.pair (.int .i64) (.int .i64)) c__0, .int .i64 c__1]], [] => .opt (Bool) (impl_ConstraintFalse (c__0, c__1)) (fun r => .ret (.c (.bool r)) [])
  | _, _ => .fail

noncomputable def C_impl_ConstraintFalse : Cfg := { y := tys, n := 12, h := 0, tab := [(223, c_impl_ConstraintValid), (236, c_impl_Constraint_total)], cut := [], hand := [], good := [], deep := [], sched := [(1, (.alt 0 (.alt 1 (.first 2 (.first 3 (.alt 4 (.alt 5 (.alt 6 (.first 7 (.first 8 (.first 9 .done))) .stop) .stop) (.alt 5 (.alt 4 (.alt 6 (.first 7 (.first 8 (.first 9 .done))) .stop) (.alt 6 (.alt 4 (.first 7 (.first 8 (.first 9 .done))) .stop) .stop)) .stop)))) .stop) .stop))] }

theorem t_impl_ConstraintFalse : TabOk Tryz.prog C_impl_ConstraintFalse := by
  refine tabOk_of ?_
  simp only [C_impl_ConstraintFalse, List.forall_mem_cons]
  exact ⟨k_impl_ConstraintValid, k_impl_Constraint_total, fun p h => by cases h⟩

theorem k_impl_ConstraintFalse : Entry Tryz.prog 175 c_impl_ConstraintFalse := by
 refine entry_by (C := C_impl_ConstraintFalse) mixed tys_ok t_impl_ConstraintFalse (fn := Tryz.f175) (c := bd Tryz.f175) (by kernel_rfl) (by kernel_rfl) (by kernel_rfl) (by kernel_rfl) ?_
 intro args st k he
 unfold c_impl_ConstraintFalse at he
 split at he
 rotate_left
 ·exact he.elim
 rename_i c__0 c__1
 have he : Ok (impl_ConstraintFalse (c__0, c__1)) (fun r => k (.c (.bool r)) []) := he
 refine ⟨rfl, rfl, ?_⟩
 refine And.intro (by kernel_rfl) ?_
 refine And.intro ?_ trivial
 refine And.intro ?_ trivial
 refine go_bind he fun r3_ he => ?_
 refine go_if he (fun he => ?_) fun he => ?_
 ·obtain ⟨r4_, hq1, he⟩ := ok_bind he
  refine And.intro ?_ (And.intro ?_ (trivial))
  ·skip
   refine And.intro ?_ trivial
   refine And.intro ?_ trivial
   refine ⟨r4_, hq1, ?_⟩
   have he := ok_some he
   exact ⟨rfl, _, _, (leads_ren [] (l := [(2, .c (.bool (decide (r4_ < (c__0, c__1).2))))]) (st' := []) rfl rfl trivial ⟨.inl rfl, trivial⟩), he⟩
  ·skip
   refine And.intro ?_ (And.intro ?_ (trivial))
   ·skip
    refine And.intro ?_ trivial
    refine ⟨r4_, hq1, ?_⟩
    have he := ok_some he
    exact ⟨rfl, _, _, (leads_ren [] (l := [(2, .c (.bool (decide (r4_ < (c__0, c__1).2))))]) (st' := []) rfl rfl trivial ⟨.inl rfl, trivial⟩), he⟩
   ·skip
    refine ⟨r4_, hq1, ?_⟩
    refine And.intro ?_ trivial
    have he := ok_some he
    exact ⟨rfl, _, _, (leads_ren [] (l := [(2, .c (.bool (decide (r4_ < (c__0, c__1).2))))]) (st' := []) rfl rfl trivial ⟨.inl rfl, trivial⟩), he⟩
 ·refine And.intro ?_ (And.intro ?_ (trivial))
  ·skip
   refine And.intro ?_ trivial
   refine And.intro ?_ trivial
   have he := ok_some he
   exact ⟨rfl, _, _, (leads_ren [] (l := [(2, .c (.bool false))]) (st' := []) rfl rfl trivial ⟨.inr rfl, trivial⟩), he⟩
  ·skip
   refine And.intro ?_ (And.intro ?_ (trivial))
   ·skip
    refine And.intro ?_ trivial
    have he := ok_some he
    exact ⟨rfl, _, _, (leads_ren [] (l := [(2, .c (.bool false))]) (st' := []) rfl rfl trivial ⟨.inr rfl, trivial⟩), he⟩
   ·skip
    refine And.intro ?_ trivial
    have he := ok_some he
    exact ⟨rfl, _, _, (leads_ren [] (l := [(2, .c (.bool false))]) (st' := []) rfl rfl trivial ⟨.inr rfl, trivial⟩), he⟩

noncomputable def c_impl_refuting : Con := fun args st => match args, st with
  | [.c (.imm (.pair (.sl (.pair (.int .i64) (.int .i64))) (.int .i64)) list_), .c (.imm (.pair (.int .i64) (.pair (.int .i64) (.pair (.int .i64) (.pair (.sl (.pair (.int .i64) (.int .i64))) (.int .i64))))) steps)], [] => .opt (Bool × Int × (List D3_) × (List Bool) × Int) (impl_refuting list_ steps) (fun r => .ite r.1 (.ret (.tup [.c (.ptr 900 0), .c (.int .i64 r.2.1)]) [(900, .rc [.own 901 false, .own 902 false]), (901, .sl 89 y3_ r.2.2.1 .shallow), (902, .sl 4 .bool r.2.2.2.1 .shallow)]) (.ret (.tup [.c (.undef), .c (.int .i64 r.2.2.2.2)]) []))
  | _, _ => .fail

noncomputable def C_impl_refuting : Cfg := { y := tys, n := 44, h := 0, tab := [(174, c_impl_run), (175, c_impl_ConstraintFalse)], cut := [], hand := [], good := [], deep := [], sched := [] }

theorem t_impl_refuting : TabOk Tryz.prog C_impl_refuting := by
  refine tabOk_of ?_
  simp only [C_impl_refuting, List.forall_mem_cons]
  exact ⟨k_impl_run, k_impl_ConstraintFalse, fun p h => by cases h⟩

theorem k_impl_refuting : Entry Tryz.prog 115 c_impl_refuting := by
 refine entry_by (C := C_impl_refuting) mixed tys_ok t_impl_refuting (fn := Tryz.f115) (c := bd Tryz.f115) (by kernel_rfl) (by kernel_rfl) (by kernel_rfl) (by kernel_rfl) ?_
 intro args st k he
 unfold c_impl_refuting at he
 split at he
 rotate_left
 ·exact he.elim
 rename_i list_ steps
 have he : Ok (impl_refuting list_ steps) (fun r => (r.1 = true → k (.tup [.c (.ptr 900 0), .c (.int .i64 r.2.1)]) [(900, .rc [.own 901 false, .own 902 false]), (901, .sl 89 y3_ r.2.2.1 .shallow), (902, .sl 4 .bool r.2.2.2.1 .shallow)]) ∧ (r.1 = false → k (.tup [.c (.undef), .c (.int .i64 r.2.2.2.2)]) [])) := he
 refine ⟨rfl, rfl, ?_⟩
 refine go_bind he fun r1_ he => ?_
 refine go_if he (fun he => ?_) fun he => ?_
 ·refine go_if he (fun he => ?_) fun he => ?_
  ·have he := ok_some he
   have he := he.2 rfl
   exact ⟨rfl, _, _, (leads_ren [] (l := [(4, .c (.undef)), (5, .c (.int .i64 (-1:Int)))]) (st' := []) rfl rfl trivial ⟨trivial, rfl, trivial⟩), he⟩
  ·refine loop_model mixed tys_ok t_impl_refuting (S := Int) (I := (fun i => (envOf [(6, .c (.ptr 10000000 0)), (21, .c (.own 10000001 false)), (22, .c (.int .i64 (r1_.2.2.1.length:Int))), (23, .c (.int .i64 i))], [(10000000, .rc [.own 10000001 false, .own 10000002 false]), (10000001, .sl 89 y3_ r1_.2.2.1 .shallow), (10000002, .sl 4 .bool r1_.2.2.2.1 .shallow)]))) (f := impl_refuting_l1 r1_) (K := (fun r => (r.1 = true → k (.tup [.c (.ptr 900 0), .c (.int .i64 r.2.1)]) [(900, .rc [.own 901 false, .own 902 false]), (901, .sl 89 y3_ r.2.2.1 .shallow), (902, .sl 4 .bool r.2.2.2.1 .shallow)]) ∧ (r.1 = false → k (.tup [.c (.undef), .c (.int .i64 r.2.2.2.2)]) []))) he (leads_ren [(10000000, 14900), (10000001, 14901), (10000002, 14902)] rfl rfl ⟨⟨⟨⟨rfl, rfl⟩, trivial⟩, ⟨⟨rfl, rfl⟩, trivial⟩, trivial⟩, ⟨rfl, rfl⟩, ⟨rfl, rfl⟩, trivial⟩ ⟨⟨⟨rfl, rfl⟩, rfl⟩, ⟨⟨rfl, rfl⟩, trivial⟩, rfl, rfl, trivial⟩) ?_
   rintro i J1 he
   refine go_if he (fun he => ?_) fun he => ?_
   ·refine go_rq he fun he => ?_
    refine go_rq he fun he => ?_
    refine go_if he (fun he => ?_) fun he => ?_
    ·refine go_bind he fun r2_ he => ?_
     refine go_if he (fun he => ?_) fun he => ?_
     ·have he := ok_some he
      have he := he.1 rfl
      exact ⟨rfl, _, _, (leads_ren [(900, 10000000), (901, 10000001), (902, 10000002)] (l := [(4, .c (.ptr 900 0)), (5, .c (.int .i64 i))]) (st' := [(900, .rc [.own 901 false, .own 902 false]), (901, .sl 89 y3_ r1_.2.2.1 .shallow), (902, .sl 4 .bool r1_.2.2.2.1 .shallow)]) rfl rfl ⟨⟨⟨⟨rfl, rfl⟩, trivial⟩, ⟨⟨rfl, rfl⟩, trivial⟩, trivial⟩, ⟨rfl, rfl⟩, ⟨rfl, rfl⟩, trivial⟩ ⟨⟨⟨rfl, rfl⟩, rfl⟩, rfl, trivial⟩), he⟩
     ·refine go_rq he fun he => ?_
      have he := ok_some he
      exact ⟨(i + (1:Int)), he, (leads_ren [] rfl rfl ⟨⟨⟨⟨rfl, rfl⟩, trivial⟩, ⟨⟨rfl, rfl⟩, trivial⟩, trivial⟩, ⟨rfl, rfl⟩, ⟨rfl, rfl⟩, trivial⟩ ⟨⟨⟨rfl, rfl⟩, rfl⟩, ⟨⟨rfl, rfl⟩, trivial⟩, rfl, rfl, trivial⟩)⟩
    ·refine go_rq he fun he => ?_
     have he := ok_some he
     exact ⟨(i + (1:Int)), he, (leads_ren [] rfl rfl ⟨⟨⟨⟨rfl, rfl⟩, trivial⟩, ⟨⟨rfl, rfl⟩, trivial⟩, trivial⟩, ⟨rfl, rfl⟩, ⟨rfl, rfl⟩, trivial⟩ ⟨⟨⟨rfl, rfl⟩, rfl⟩, ⟨⟨rfl, rfl⟩, trivial⟩, rfl, rfl, trivial⟩)⟩
   ·have he := ok_some he
    have he := he.1 rfl
    exact ⟨rfl, _, _, (leads_ren [(900, 10000000), (901, 10000001), (902, 10000002)] (l := [(4, .c (.ptr 900 0)), (5, .c (.int .i64 (-1:Int)))]) (st' := [(900, .rc [.own 901 false, .own 902 false]), (901, .sl 89 y3_ r1_.2.2.1 .shallow), (902, .sl 4 .bool r1_.2.2.2.1 .shallow)]) rfl rfl ⟨⟨⟨⟨rfl, rfl⟩, trivial⟩, ⟨⟨rfl, rfl⟩, trivial⟩, trivial⟩, ⟨rfl, rfl⟩, ⟨rfl, rfl⟩, trivial⟩ ⟨⟨⟨rfl, rfl⟩, rfl⟩, rfl, trivial⟩), he⟩
 ·refine go_if he (fun he => ?_) fun he => ?_
  ·have he := ok_some he
   have he := he.2 rfl
   exact ⟨rfl, _, _, Leads.refl _ _, he⟩
  ·exact (ok_none he).elim

noncomputable def c_impl_needed : Con := fun args st => match args, st with
  | [.c (.imm (.pair (.sl (.pair (.int .i64) (.int .i64))) (.int .i64)) a0), .c (.imm (.pair (.int .i64) (.pair (.int .i64) (.pair (.int .i64) (.pair (.sl (.pair (.int .i64) (.int .i64))) (.int .i64))))) a1)], [] => .opt (Bool × (List Bool)) (impl_needed a0 a1) (fun r => .ret (.tup [.c (.own 900 false), .c (.bool r.1)]) [(900, .sl 4 .bool r.2 .shallow)])
  | _, _ => .fail

noncomputable def C_impl_needed : Cfg := { y := tys, n := 105, h := 0, tab := [(115, c_impl_refuting), (155, c_impl_refers)], cut := [11, 27], hand := [], good := [], deep := [], sched := [] }

theorem t_impl_needed : TabOk Tryz.prog C_impl_needed := by
  refine tabOk_of ?_
  simp only [C_impl_needed, List.forall_mem_cons]
  exact ⟨k_impl_refuting, k_impl_refers, fun p h => by cases h⟩

theorem k_impl_needed : Entry Tryz.prog 94 c_impl_needed := by
 refine entry_by (C := C_impl_needed) mixed tys_ok t_impl_needed (fn := Tryz.f94) (c := bd Tryz.f94) (by kernel_rfl) (by kernel_rfl) (by kernel_rfl) (by kernel_rfl) ?_
 intro args st k he
 unfold c_impl_needed at he
 split at he
 rotate_left
 ·exact he.elim
 rename_i a0 a1
 have he : Ok (impl_needed a0 a1) (fun r => k (.tup [.c (.own 900 false), .c (.bool r.1)]) [(900, .sl 4 .bool r.2 .shallow)]) := he
 refine ⟨rfl, rfl, ?_⟩
 refine go_bind he fun r1_ he => ?_
 refine go_if he (fun he => ?_) fun he => ?_
 ·refine go_if he (fun he => ?_) fun he => ?_
  ·have he := ok_some he
   exact ⟨rfl, _, _, (leads_ren [] (l := [(4, .c (.own 900 false)), (5, .c (.bool false))]) (st' := [(900, .sl 4 .bool ([] : List Bool) .shallow)]) rfl rfl ⟨trivial, trivial⟩ ⟨⟨rfl, trivial⟩, .inr rfl, trivial⟩), he⟩
  ·refine seq_model mixed tys_ok t_impl_needed (S := (List D6_)) (I := (fun i2 => (envOf [(0, .c (.imm y3_ a0)), (6, .c (.ptr 10001000 0)), (7, .c (.int .i64 r1_.2.1)), (8, .c (.own 10001001 false))], [(10001000, .rc [.own 10001002 false, .own 10001003 false]), (10001001, .sl 96 y6_ i2 .shallow), (10001002, .sl 89 y3_ r1_.2.2.1 .shallow), (10001003, .sl 4 .bool r1_.2.2.2.1 .shallow)]))) (B := fun s => Ok (impl_needed_j1 a0 r1_ s) (fun r => k (.tup [.c (.own 900 false), .c (.bool r.1)]) [(900, .sl 4 .bool r.2 .shallow)])) ?_ ?_
   ·rintro i2 he
    refine go_rq he fun he => ?_
    refine go_rq he fun he => ?_
    refine go_rq he fun he => ?_
    refine loop_model mixed tys_ok t_impl_needed (S := Int × (List Bool)) (I := (fun (i3, i7) => (envOf [(0, .c (.imm y3_ a0)), (8, .c (.own 10002000 false)), (11, .c (.own 10002001 false)), (12, .c (.int .i64 i3))], [(10002000, .sl 96 y6_ i2 .shallow), (10002001, .sl 4 .bool i7 .shallow)]))) (f := impl_needed_l1 a0 i2) (K := (fun r => k (.tup [.c (.own 900 false), .c (.bool r.1)]) [(900, .sl 4 .bool r.2 .shallow)])) he (leads_ren [(10002000, 10001001), (10002001, 44)] rfl rfl ⟨⟨rfl, rfl⟩, ⟨rfl, rfl⟩, trivial⟩ ⟨.inl rfl, ⟨⟨rfl, rfl⟩, trivial⟩, ⟨⟨rfl, rfl⟩, trivial⟩, rfl, trivial⟩) ?_
    rintro ⟨i3, i7⟩ J1 he
    refine go_if he (fun he => ?_) fun he => ?_
    ·refine go_rq he fun he => ?_
     refine go_rq he fun he => ?_
     refine go_bind he fun r3_ he => ?_
     refine go_rq he fun he => ?_
     refine go_if he (fun he => ?_) fun he => ?_
     ·refine go_rq he fun he => ?_
      have he := ok_some he
      exact ⟨((i3 - (1:Int)), i7), he, (leads_ren [] rfl rfl ⟨⟨rfl, rfl⟩, ⟨rfl, rfl⟩, trivial⟩ ⟨.inl rfl, ⟨⟨rfl, rfl⟩, trivial⟩, ⟨⟨rfl, rfl⟩, trivial⟩, rfl, trivial⟩)⟩
     ·refine go_if he (fun he => ?_) fun he => ?_
      ·refine loop_model mixed tys_ok t_impl_needed (S := Int × (List Bool)) (I := (fun (i8, i9) => (envOf [(0, .c (.imm y3_ a0)), (8, .c (.own 10005000 false)), (11, .c (.own 10005001 false)), (12, .c (.int .i64 i3)), (83, .c (.int .i64 i3)), (84, .c (.int .i64 i8))], [(10005000, .sl 96 y6_ i2 .shallow), (10005001, .sl 4 .bool i9 .shallow)]))) (f := impl_needed_l2 i3) (K := (LK J1 (fun r => k (.tup [.c (.own 900 false), .c (.bool r.1)]) [(900, .sl 4 .bool r.2 .shallow)]))) he (leads_ren [(10005000, 10002000), (10005001, 10002001)] rfl rfl ⟨⟨rfl, rfl⟩, ⟨rfl, rfl⟩, trivial⟩ ⟨.inl rfl, ⟨⟨rfl, rfl⟩, trivial⟩, ⟨⟨rfl, rfl⟩, trivial⟩, rfl, rfl, rfl, trivial⟩) ?_
       rintro ⟨i8, i9⟩ J2 he
       refine go_if he (fun he => ?_) fun he => ?_
       ·refine go_rq he fun he => ?_
        refine go_rq he fun he => ?_
        have he := ok_some he
        exact ⟨((i8 + (1:Int)), (i9.set i8.toNat true)), he, (leads_ren [] rfl rfl ⟨⟨rfl, rfl⟩, ⟨rfl, rfl⟩, trivial⟩ ⟨.inl rfl, ⟨⟨rfl, rfl⟩, trivial⟩, ⟨⟨rfl, rfl⟩, trivial⟩, rfl, rfl, rfl, trivial⟩)⟩
       ·refine go_rq he fun he => ?_
        have he := ok_some he
        exact ⟨((i3 - (1:Int)), i9), he, (leads_ren [(10002000, 10005000), (10002001, 10005001)] rfl rfl ⟨⟨rfl, rfl⟩, ⟨rfl, rfl⟩, trivial⟩ ⟨.inl rfl, ⟨⟨rfl, rfl⟩, trivial⟩, ⟨⟨rfl, rfl⟩, trivial⟩, rfl, trivial⟩)⟩
      ·refine go_if he (fun he => ?_) fun he => ?_
       ·refine seq_model mixed tys_ok t_impl_needed (S := Unit) (I := (fun _ => (envOf [(0, .c (.imm y3_ a0)), (8, .c (.own 10006000 false)), (11, .c (.own 10006001 false)), (12, .c (.int .i64 i3)), (13, .c (.ptr 10006002 0)), (14, .c (.int .i64 r3_.1))], [(10006000, .sl 96 y6_ i2 .shallow), (10006001, .sl 4 .bool (i7.set (i2.getD (i3 - (a0.length:Int)).toNat (0, (0, (0, ([], 0))))).2.1.toNat true) .shallow), (10006002, .rc [.int .i64 (i2.getD (i3 - (a0.length:Int)).toNat (0, (0, (0, ([], 0))))).1, .int .i64 (i2.getD (i3 - (a0.length:Int)).toNat (0, (0, (0, ([], 0))))).2.1, .int .i64 (i2.getD (i3 - (a0.length:Int)).toNat (0, (0, (0, ([], 0))))).2.2.1, .imm y2_ (i2.getD (i3 - (a0.length:Int)).toNat (0, (0, (0, ([], 0))))).2.2.2.1, .int .i64 (i2.getD (i3 - (a0.length:Int)).toNat (0, (0, (0, ([], 0))))).2.2.2.2])]))) (B := fun s => Ok (impl_needed_j2 a0 i2 i3 i7 r3_ s) (LK J1 (fun r => k (.tup [.c (.own 900 false), .c (.bool r.1)]) [(900, .sl 4 .bool r.2 .shallow)]))) ?_ ?_
        ·rintro ⟨⟩ he
         refine go_if he (fun he => ?_) fun he => ?_
         ·refine go_rq he fun he => ?_
          refine go_rq he fun he => ?_
          have he := ok_some he
          exact ⟨((i3 - (1:Int)), ((i7.set (i2.getD (i3 - (a0.length:Int)).toNat (0, (0, (0, ([], 0))))).2.1.toNat true).set (i2.getD (i3 - (a0.length:Int)).toNat (0, (0, (0, ([], 0))))).2.2.1.toNat true)), he, (leads_ren [(10002000, 10006000), (10002001, 10006001)] rfl rfl ⟨⟨rfl, rfl⟩, ⟨rfl, rfl⟩, trivial⟩ ⟨.inl rfl, ⟨⟨rfl, rfl⟩, trivial⟩, ⟨⟨rfl, rfl⟩, trivial⟩, rfl, trivial⟩)⟩
         ·refine go_rq he fun he => ?_
          have he := ok_some he
          exact ⟨((i3 - (1:Int)), (i7.set (i2.getD (i3 - (a0.length:Int)).toNat (0, (0, (0, ([], 0))))).2.1.toNat true)), he, (leads_ren [(10002000, 10006000), (10002001, 10006001)] rfl rfl ⟨⟨rfl, rfl⟩, ⟨rfl, rfl⟩, trivial⟩ ⟨.inl rfl, ⟨⟨rfl, rfl⟩, trivial⟩, ⟨⟨rfl, rfl⟩, trivial⟩, rfl, trivial⟩)⟩
        ·skip
         refine go_rq he fun he => ?_
         exact ⟨(), he, (leads_ren [(10006000, 10002000), (10006001, 10002001), (10006002, 13)] rfl rfl ⟨⟨rfl, rfl⟩, ⟨rfl, rfl⟩, ⟨rfl, rfl, rfl, .inl rfl, rfl, trivial⟩, trivial⟩ ⟨.inl rfl, ⟨⟨rfl, rfl⟩, trivial⟩, ⟨⟨rfl, rfl⟩, trivial⟩, rfl, ⟨⟨rfl, rfl⟩, rfl⟩, rfl, trivial⟩)⟩
       ·refine go_rq he fun he => ?_
        have he := ok_some he
        exact ⟨((i3 - (1:Int)), i7), he, (leads_ren [] rfl rfl ⟨⟨rfl, rfl⟩, ⟨rfl, rfl⟩, trivial⟩ ⟨.inl rfl, ⟨⟨rfl, rfl⟩, trivial⟩, ⟨⟨rfl, rfl⟩, trivial⟩, rfl, trivial⟩)⟩
    ·have he := ok_some he
     exact ⟨rfl, _, _, (leads_ren [(900, 10002001)] (l := [(4, .c (.own 900 false)), (5, .c (.bool true))]) (st' := [(900, .sl 4 .bool i7 .shallow)]) rfl rfl ⟨⟨rfl, rfl⟩, trivial⟩ ⟨⟨⟨rfl, rfl⟩, trivial⟩, .inr rfl, trivial⟩), he⟩
   ·skip
    refine loop_model mixed tys_ok t_impl_needed (S := Int × (List D6_)) (I := (fun (i, i1) => (envOf [(0, .c (.imm y3_ a0)), (6, .c (.ptr 10000000 0)), (7, .c (.int .i64 r1_.2.1)), (8, .c (.own 10000001 false)), (25, .c (.imm y6_ a1)), (26, .c (.int .i64 (a1.length:Int))), (27, .c (.int .i64 i))], [(10000000, .rc [.own 10000002 false, .own 10000003 false]), (10000001, .sl 96 y6_ i1 .shallow), (10000002, .sl 89 y3_ r1_.2.2.1 .shallow), (10000003, .sl 4 .bool r1_.2.2.2.1 .shallow)]))) (f := impl_needed_l3 a0 a1 r1_) (K := (fun r => k (.tup [.c (.own 900 false), .c (.bool r.1)]) [(900, .sl 4 .bool r.2 .shallow)])) he (leads_ren [(10000000, 21900), (10000002, 21901), (10000003, 21902)] rfl rfl ⟨⟨⟨⟨rfl, rfl⟩, trivial⟩, ⟨⟨rfl, rfl⟩, trivial⟩, trivial⟩, trivial, ⟨rfl, rfl⟩, ⟨rfl, rfl⟩, trivial⟩ ⟨.inl rfl, ⟨⟨rfl, rfl⟩, rfl⟩, rfl, ⟨rfl, trivial⟩, .inl rfl, rfl, rfl, trivial⟩) ?_
    rintro ⟨i, i1⟩ J1 he
    refine go_if he (fun he => ?_) fun he => ?_
    ·refine go_rq he fun he => ?_
     refine go_if he (fun he => ?_) fun he => ?_
     ·refine go_rq he fun he => ?_
      refine go_rq he fun he => ?_
      have he := ok_some he
      exact ⟨((i + (1:Int)), (i1 ++ [(a1.getD i.toNat (0, (0, (0, ([], 0)))))])), he, (leads_ren [(10000001, 37)] rfl rfl ⟨⟨⟨⟨rfl, rfl⟩, trivial⟩, ⟨⟨rfl, rfl⟩, trivial⟩, trivial⟩, ⟨rfl, rfl⟩, ⟨rfl, rfl⟩, ⟨rfl, rfl⟩, trivial⟩ ⟨.inl rfl, ⟨⟨rfl, rfl⟩, rfl⟩, rfl, ⟨⟨rfl, rfl⟩, trivial⟩, .inl rfl, rfl, rfl, trivial⟩)⟩
     ·refine go_rq he fun he => ?_
      have he := ok_some he
      exact ⟨((i + (1:Int)), i1), he, (leads_ren [] rfl rfl ⟨⟨⟨⟨rfl, rfl⟩, trivial⟩, ⟨⟨rfl, rfl⟩, trivial⟩, trivial⟩, ⟨rfl, rfl⟩, ⟨rfl, rfl⟩, ⟨rfl, rfl⟩, trivial⟩ ⟨.inl rfl, ⟨⟨rfl, rfl⟩, rfl⟩, rfl, ⟨⟨rfl, rfl⟩, trivial⟩, .inl rfl, rfl, rfl, trivial⟩)⟩
    ·exact ⟨i1, ok_up he, (leads_ren [(10001000, 10000000), (10001001, 10000001), (10001002, 10000002), (10001003, 10000003)] rfl rfl ⟨⟨⟨⟨rfl, rfl⟩, trivial⟩, ⟨⟨rfl, rfl⟩, trivial⟩, trivial⟩, ⟨rfl, rfl⟩, ⟨rfl, rfl⟩, ⟨rfl, rfl⟩, trivial⟩ ⟨.inl rfl, ⟨⟨rfl, rfl⟩, rfl⟩, rfl, ⟨⟨rfl, rfl⟩, trivial⟩, trivial⟩)⟩
 ·refine go_if he (fun he => ?_) fun he => ?_
  ·have he := ok_some he
   exact ⟨rfl, _, _, (leads_ren [] (l := [(4, .c (.own 900 false)), (5, .c (.bool false))]) (st' := [(900, .sl 4 .bool ([] : List Bool) .shallow)]) rfl rfl ⟨trivial, trivial⟩ ⟨⟨rfl, trivial⟩, .inr rfl, trivial⟩), he⟩
  ·refine seq_model mixed tys_ok t_impl_needed (S := (List D6_)) (I := (fun i12 => (envOf [(0, .c (.imm y3_ a0)), (7, .c (.int .i64 r1_.2.2.2.2)), (8, .c (.own 10008000 false))], [(10008000, .sl 96 y6_ i12 .shallow)]))) (B := fun s => Ok (impl_needed_j3 s) (fun r => k (.tup [.c (.own 900 false), .c (.bool r.1)]) [(900, .sl 4 .bool r.2 .shallow)])) ?_ ?_
   ·rintro i12 he
    exact (ok_none he).elim
   ·skip
    refine loop_model mixed tys_ok t_impl_needed (S := Int × (List D6_)) (I := (fun (i10, i11) => (envOf [(0, .c (.imm y3_ a0)), (7, .c (.int .i64 r1_.2.2.2.2)), (8, .c (.own 10007000 false)), (25, .c (.imm y6_ a1)), (26, .c (.int .i64 (a1.length:Int))), (27, .c (.int .i64 i10))], [(10007000, .sl 96 y6_ i11 .shallow)]))) (f := impl_needed_l4 a1) (K := (fun r => k (.tup [.c (.own 900 false), .c (.bool r.1)]) [(900, .sl 4 .bool r.2 .shallow)])) he (leads_ren [] rfl rfl ⟨trivial, trivial⟩ ⟨.inl rfl, rfl, ⟨rfl, trivial⟩, .inl rfl, rfl, rfl, trivial⟩) ?_
    rintro ⟨i10, i11⟩ J1 he
    refine go_if he (fun he => ?_) fun he => ?_
    ·refine go_rq he fun he => ?_
     refine go_if he (fun he => ?_) fun he => ?_
     ·refine go_rq he fun he => ?_
      refine go_rq he fun he => ?_
      have he := ok_some he
      exact ⟨((i10 + (1:Int)), (i11 ++ [(a1.getD i10.toNat (0, (0, (0, ([], 0)))))])), he, (leads_ren [(10007000, 37)] rfl rfl ⟨⟨rfl, rfl⟩, trivial⟩ ⟨.inl rfl, rfl, ⟨⟨rfl, rfl⟩, trivial⟩, .inl rfl, rfl, rfl, trivial⟩)⟩
     ·refine go_rq he fun he => ?_
      have he := ok_some he
      exact ⟨((i10 + (1:Int)), i11), he, (leads_ren [] rfl rfl ⟨⟨rfl, rfl⟩, trivial⟩ ⟨.inl rfl, rfl, ⟨⟨rfl, rfl⟩, trivial⟩, .inl rfl, rfl, rfl, trivial⟩)⟩
    ·exact ⟨i11, ok_up he, (leads_ren [(10008000, 10007000)] rfl rfl ⟨⟨rfl, rfl⟩, trivial⟩ ⟨.inl rfl, rfl, ⟨⟨rfl, rfl⟩, trivial⟩, trivial⟩)⟩

noncomputable def c_impl_UsedInputs : Con := fun args st => match args, st with
  | [.c (.imm (.pair (.sl (.pair (.int .i64) (.int .i64))) (.int .i64)) list_), .c (.imm (.pair (.int .i64) (.pair (.int .i64) (.pair (.int .i64) (.pair (.sl (.pair (.int .i64) (.int .i64))) (.int .i64))))) steps)], [] => .opt (Bool × (List Int)) (impl_UsedInputs list_ steps) (fun r => .ret (.tup [.c (.own 900 false), .c (.bool r.1)]) [(900, .sl 3 y0_ r.2 .shallow)])
  | _, _ => .fail

noncomputable def C_impl_UsedInputs : Cfg := { y := tys, n := 33, h := 0, tab := [(94, c_impl_needed)], cut := [], hand := [], good := [], deep := [], sched := [] }

theorem t_impl_UsedInputs : TabOk Tryz.prog C_impl_UsedInputs := by
  refine tabOk_of ?_
  simp only [C_impl_UsedInputs, List.forall_mem_cons]
  exact ⟨k_impl_needed, fun p h => by cases h⟩

theorem k_impl_UsedInputs : Entry Tryz.prog 32 c_impl_UsedInputs := by
 refine entry_by (C := C_impl_UsedInputs) mixed tys_ok t_impl_UsedInputs (fn := Tryz.f32) (c := bd Tryz.f32) (by kernel_rfl) (by kernel_rfl) (by kernel_rfl) (by kernel_rfl) ?_
 intro args st k he
 unfold c_impl_UsedInputs at he
 split at he
 rotate_left
 ·exact he.elim
 rename_i list_ steps
 have he : Ok (impl_UsedInputs list_ steps) (fun r => k (.tup [.c (.own 900 false), .c (.bool r.1)]) [(900, .sl 3 y0_ r.2 .shallow)]) := he
 refine ⟨rfl, rfl, ?_⟩
 refine go_bind he fun r1_ he => ?_
 refine go_if he (fun he => ?_) fun he => ?_
 ·have he := ok_some he
  exact ⟨rfl, _, _, (leads_ren [] (l := [(4, .c (.own 900 false)), (5, .c (.bool false))]) (st' := [(900, .sl 3 y0_ ([] : List Int) .shallow)]) rfl rfl ⟨trivial, trivial⟩ ⟨⟨rfl, trivial⟩, .inr rfl, trivial⟩), he⟩
 ·refine loop_model mixed tys_ok t_impl_UsedInputs (S := Int × (List Int)) (I := (fun (i, out) => (envOf [(6, .c (.own 10000000 false)), (8, .c (.own 10000001 false)), (19, .c (.int .i64 (list_.length:Int))), (20, .c (.int .i64 i))], [(10000000, .sl 4 .bool r1_.2 .shallow), (10000001, .sl 3 y0_ out .shallow)]))) (f := impl_UsedInputs_l1 list_ r1_) (K := (fun r => k (.tup [.c (.own 900 false), .c (.bool r.1)]) [(900, .sl 3 y0_ r.2 .shallow)])) he (leads_ren [(10000000, 14900)] rfl rfl ⟨⟨rfl, rfl⟩, trivial, trivial⟩ ⟨⟨⟨rfl, rfl⟩, trivial⟩, ⟨rfl, trivial⟩, rfl, rfl, trivial⟩) ?_
  rintro ⟨i, out⟩ J1 he
  refine go_if he (fun he => ?_) fun he => ?_
  ·refine go_rq he fun he => ?_
   refine go_if he (fun he => ?_) fun he => ?_
   ·refine go_rq he fun he => ?_
    refine go_rq he fun he => ?_
    have he := ok_some he
    exact ⟨((i + (1:Int)), (out ++ [i])), he, (leads_ren [(10000001, 30)] rfl rfl ⟨⟨rfl, rfl⟩, ⟨rfl, rfl⟩, trivial⟩ ⟨⟨⟨rfl, rfl⟩, trivial⟩, ⟨⟨rfl, rfl⟩, trivial⟩, rfl, rfl, trivial⟩)⟩
   ·refine go_rq he fun he => ?_
    have he := ok_some he
    exact ⟨((i + (1:Int)), out), he, (leads_ren [] rfl rfl ⟨⟨rfl, rfl⟩, ⟨rfl, rfl⟩, trivial⟩ ⟨⟨⟨rfl, rfl⟩, trivial⟩, ⟨⟨rfl, rfl⟩, trivial⟩, rfl, rfl, trivial⟩)⟩
  ·have he := ok_some he
   exact ⟨rfl, _, _, (leads_ren [(900, 10000001)] (l := [(4, .c (.own 900 false)), (5, .c (.bool true))]) (st' := [(900, .sl 3 y0_ out .shallow)]) rfl rfl ⟨⟨rfl, rfl⟩, trivial⟩ ⟨⟨⟨rfl, rfl⟩, trivial⟩, .inr rfl, trivial⟩), he⟩

noncomputable def c_impl_CheckRefutation : Con := fun args st => match args, st with
  | [.c (.imm (.pair (.sl (.pair (.int .i64) (.int .i64))) (.int .i64)) list_), .c (.imm (.pair (.int .i64) (.pair (.int .i64) (.pair (.int .i64) (.pair (.sl (.pair (.int .i64) (.int .i64))) (.int .i64))))) steps)], [] => .opt (Bool) (impl_CheckRefutation list_ steps) (fun r => .ret (.c (.bool r)) [])
  | _, _ => .fail

noncomputable def C_impl_CheckRefutation : Cfg := { y := tys, n := 15, h := 0, tab := [(115, c_impl_refuting)], cut := [], hand := [], good := [], deep := [], sched := [] }

theorem t_impl_CheckRefutation : TabOk Tryz.prog C_impl_CheckRefutation := by
  refine tabOk_of ?_
  simp only [C_impl_CheckRefutation, List.forall_mem_cons]
  exact ⟨k_impl_refuting, fun p h => by cases h⟩

theorem k_impl_CheckRefutation : Entry Tryz.prog 45 c_impl_CheckRefutation := by
 refine entry_by (C := C_impl_CheckRefutation) mixed tys_ok t_impl_CheckRefutation (fn := Tryz.f45) (c := bd Tryz.f45) (by kernel_rfl) (by kernel_rfl) (by kernel_rfl) (by kernel_rfl) ?_
 intro args st k he
 unfold c_impl_CheckRefutation at he
 split at he
 rotate_left
 ·exact he.elim
 rename_i list_ steps
 have he : Ok (impl_CheckRefutation list_ steps) (fun r => k (.c (.bool r)) []) := he
 refine ⟨rfl, rfl, ?_⟩
 refine go_bind he fun r1_ he => ?_
 refine go_if he (fun he => ?_) fun he => ?_
 ·have he := ok_some he
  exact ⟨rfl, _, _, (leads_ren [] (l := [(4, .c (.bool (decide ((0:Int) ≤ r1_.2.1))))]) (st' := []) rfl rfl trivial ⟨.inl rfl, trivial⟩), he⟩
 ·have he := ok_some he
  exact ⟨rfl, _, _, Leads.refl _ _, he⟩

noncomputable def c_laws_FnCoreSearch : Con := fun args st => match args, st with
  | [.c (.imm (.int .u8) a0)], [] => .opt (Bool) (laws_FnCoreSearch a0) (fun r => .ret (.c (.bool r)) [])
  | _, _ => .fail

noncomputable def C_laws_FnCoreSearch : Cfg := { y := tys, n := 93, h := 0, tab := [(14, c_laws_cpInts), (32, c_impl_UsedInputs), (39, c_impl_SubProblem), (41, c_spec_DrawMinimalCore), (42, c_impl_MinimalCore), (43, c_spec_MinimalCore), (44, c_impl_SolveProblem), (45, c_impl_CheckRefutation)], cut := [], hand := [], good := [], deep := [], sched := [] }

theorem t_laws_FnCoreSearch : TabOk Tryz.prog C_laws_FnCoreSearch := by
  refine tabOk_of ?_
  simp only [C_laws_FnCoreSearch, List.forall_mem_cons]
  exact ⟨k_laws_cpInts, k_impl_UsedInputs, k_impl_SubProblem, k_spec_DrawMinimalCore, k_impl_MinimalCore, k_spec_MinimalCore, k_impl_SolveProblem, k_impl_CheckRefutation, fun p h => by cases h⟩

theorem k_laws_FnCoreSearch : Entry Tryz.prog 8 c_laws_FnCoreSearch := by
 refine entry_by (C := C_laws_FnCoreSearch) mixed tys_ok t_laws_FnCoreSearch (fn := Tryz.f8) (c := bd Tryz.f8) (by kernel_rfl) (by kernel_rfl) (by kernel_rfl) (by kernel_rfl) ?_
 intro args st k he
 unfold c_laws_FnCoreSearch at he
 split at he
 rotate_left
 ·exact he.elim
 rename_i a0
 have he : Ok (laws_FnCoreSearch a0) (fun r => k (.c (.bool r)) []) := he
 refine ⟨rfl, rfl, ?_⟩
 refine go_if he (fun he => ?_) fun he => ?_
 ·have he := ok_some he
  exact ⟨rfl, _, _, Leads.refl _ _, he⟩
 ·refine go_bind he fun r1_ he => ?_
  refine go_bind he fun r2_ he => ?_
  refine go_bind he fun r3_ he => ?_
  refine go_if2 he (fun he => ?_) fun he => ?_
  ·refine go_bind he fun r4_ he => ?_
   refine go_if2 he (fun he => ?_) fun he => ?_
   ·refine go_if he (fun he => ?_) fun he => ?_
    ·refine go_if he (fun he => ?_) fun he => ?_
     ·refine go_bind he fun r5_ he => ?_
      have he := ok_some he
      exact ⟨rfl, _, _, (leads_ren [] (l := [(2, .c (.bool r5_))]) (st' := []) rfl rfl trivial ⟨.inl rfl, trivial⟩), he⟩
     ·have he := ok_some he
      exact ⟨rfl, _, _, (leads_ren [] (l := [(2, .c (.bool false))]) (st' := []) rfl rfl trivial ⟨.inr rfl, trivial⟩), he⟩
    ·refine go_bind he fun r8_ he => ?_
     refine go_bind he fun r9_ he => ?_
     refine go_if2 he (fun he => ?_) fun he => ?_
     ·refine go_if he (fun he => ?_) fun he => ?_
      ·refine go_if he (fun he => ?_) fun he => ?_
       ·have he := ok_some he
        exact ⟨rfl, _, _, (leads_ren [] (l := [(2, .c (.bool (r9_.1 == (0:Int))))]) (st' := []) rfl rfl trivial ⟨.inl rfl, trivial⟩), he⟩
       ·have he := ok_some he
        exact ⟨rfl, _, _, (leads_ren [] (l := [(2, .c (.bool false))]) (st' := []) rfl rfl trivial ⟨.inr rfl, trivial⟩), he⟩
      ·refine go_bind he fun r10_ he => ?_
       refine go_if he (fun he => ?_) fun he => ?_
       ·refine go_if he (fun he => ?_) fun he => ?_
        ·refine go_bind he fun r11_ he => ?_
         have he := ok_some he
         exact ⟨rfl, _, _, (leads_ren [] (l := [(2, .c (.bool r11_))]) (st' := []) rfl rfl trivial ⟨.inl rfl, trivial⟩), he⟩
        ·have he := ok_some he
         exact ⟨rfl, _, _, (leads_ren [] (l := [(2, .c (.bool false))]) (st' := []) rfl rfl trivial ⟨.inr rfl, trivial⟩), he⟩
       ·have he := ok_some he
        exact ⟨rfl, _, _, (leads_ren [] (l := [(2, .c (.bool false))]) (st' := []) rfl rfl trivial ⟨.inr rfl, trivial⟩), he⟩
     ·refine go_if he (fun he => ?_) fun he => ?_
      ·have he := ok_some he
       exact ⟨rfl, _, _, (leads_ren [] (l := [(2, .c (.bool (r9_.1 == (0:Int))))]) (st' := []) rfl rfl trivial ⟨.inl rfl, trivial⟩), he⟩
      ·have he := ok_some he
       exact ⟨rfl, _, _, (leads_ren [] (l := [(2, .c (.bool false))]) (st' := []) rfl rfl trivial ⟨.inr rfl, trivial⟩), he⟩
   ·refine go_if he (fun he => ?_) fun he => ?_
    ·refine go_bind he fun r6_ he => ?_
     have he := ok_some he
     exact ⟨rfl, _, _, (leads_ren [] (l := [(2, .c (.bool r6_))]) (st' := []) rfl rfl trivial ⟨.inl rfl, trivial⟩), he⟩
    ·have he := ok_some he
     exact ⟨rfl, _, _, (leads_ren [] (l := [(2, .c (.bool false))]) (st' := []) rfl rfl trivial ⟨.inr rfl, trivial⟩), he⟩
  ·refine go_if he (fun he => ?_) fun he => ?_
   ·refine go_bind he fun r7_ he => ?_
    have he := ok_some he
    exact ⟨rfl, _, _, (leads_ren [] (l := [(2, .c (.bool r7_))]) (st' := []) rfl rfl trivial ⟨.inl rfl, trivial⟩), he⟩
   ·have he := ok_some he
    exact ⟨rfl, _, _, (leads_ren [] (l := [(2, .c (.bool false))]) (st' := []) rfl rfl trivial ⟨.inr rfl, trivial⟩), he⟩

end Go.AE.Y
