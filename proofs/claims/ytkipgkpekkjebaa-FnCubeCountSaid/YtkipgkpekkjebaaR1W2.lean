/-
  Walks: each function keeps the contract that its model gives. No conditions.
-/
import Derived.Test.YtkipgkpekkjebaaR1Tab
import Derived.Test.YtkipgkpekkjebaaR1W1
namespace Go.AE.Y
open Go Go.AE Go.Proofs
set_option linter.unusedVariables false
set_option maxHeartbeats 2000000
set_option maxRecDepth 100000

noncomputable def c_spec_l12Cubes : Con := fun args st => match args, st with
  | [.c (.imm (.int .i64) vars)], [] => .opt ((List (List Int))) (spec_l12Cubes vars) (fun r => .ret (.c (.own 900)) [(900, .sl 22 (.sl (.int .i64)) r (.deep true .no))])
  | _, _ => .fail

noncomputable def C_spec_l12Cubes : Cfg := { y := tys, n := 55, h := 0, tab := [], cut := [10], hand := [], good := [], deep := [8, 15, 35, 51], sched := [(9, (.first 0 (.first 2 (.first 3 (.first 4 (.first 7 (.first 8 (.first 9 (.first 10 (.alt 1 (.alt 5 (.alt 6 (.alt 11 (.alt 12 (.alt 13 (.alt 14 (.first 15 .done) .stop) .stop) .stop) .stop) (.alt 11 (.alt 6 (.alt 12 (.alt 13 (.alt 14 (.first 15 .done) .stop) .stop) .stop) .stop) .stop)) (.alt 11 (.alt 5 (.alt 6 (.alt 12 (.alt 13 (.alt 14 (.first 15 .done) .stop) .stop) .stop) .stop) .stop) .stop)) (.alt 5 (.alt 1 (.alt 6 (.alt 11 (.alt 12 (.alt 13 (.alt 14 (.first 15 .done) .stop) .stop) .stop) .stop) (.alt 11 (.alt 6 (.alt 12 (.alt 13 (.alt 14 (.first 15 .done) .stop) .stop) .stop) .stop) .stop)) (.alt 11 (.alt 1 (.alt 6 (.alt 12 (.alt 13 (.alt 14 (.first 15 .done) .stop) .stop) .stop) .stop) .stop) .stop)) (.alt 11 (.alt 1 (.alt 5 (.alt 6 (.alt 12 (.alt 13 (.alt 14 (.first 15 .done) .stop) .stop) .stop) .stop) .stop) (.alt 5 (.alt 1 (.alt 6 (.alt 12 (.alt 13 (.alt 14 (.first 15 .done) .stop) .stop) .stop) .stop) .stop) .stop)) .stop)))))))))))), (10, (.first 0 (.first 2 (.first 3 (.first 4 (.first 7 (.first 8 (.first 9 (.first 10 (.first 11 (.alt 1 (.alt 5 (.alt 6 (.alt 12 (.alt 13 (.alt 14 (.alt 15 (.first 16 .done) .stop) .stop) .stop) .stop) (.alt 12 (.alt 6 (.alt 13 (.alt 14 (.alt 15 (.first 16 .done) .stop) .stop) .stop) .stop) .stop)) (.alt 12 (.alt 5 (.alt 6 (.alt 13 (.alt 14 (.alt 15 (.first 16 .done) .stop) .stop) .stop) .stop) .stop) .stop)) (.alt 5 (.alt 1 (.alt 6 (.alt 12 (.alt 13 (.alt 14 (.alt 15 (.first 16 .done) .stop) .stop) .stop) .stop) (.alt 12 (.alt 6 (.alt 13 (.alt 14 (.alt 15 (.first 16 .done) .stop) .stop) .stop) .stop) .stop)) (.alt 12 (.alt 1 (.alt 6 (.alt 13 (.alt 14 (.alt 15 (.first 16 .done) .stop) .stop) .stop) .stop) .stop) .stop)) (.alt 12 (.alt 1 (.alt 5 (.alt 6 (.alt 13 (.alt 14 (.alt 15 (.first 16 .done) .stop) .stop) .stop) .stop) .stop) (.alt 5 (.alt 1 (.alt 6 (.alt 13 (.alt 14 (.alt 15 (.first 16 .done) .stop) .stop) .stop) .stop) .stop) .stop)) .stop)))))))))))))] }

theorem t_spec_l12Cubes : TabOk Try.prog C_spec_l12Cubes := tabOk_of (fun p h => by cases h)

theorem k_spec_l12Cubes : Entry Try.prog 61 c_spec_l12Cubes := by
  refine entry_by (C := C_spec_l12Cubes) mixed tys_ok t_spec_l12Cubes (fn := Try.f61) (c := bd Try.f61) (by kernel_rfl) (by kernel_rfl) (by kernel_rfl) (by kernel_rfl) ?_
  intro args st k he
  unfold c_spec_l12Cubes at he
  split at he
  rotate_left
  · exact he.elim
  rename_i vars
  have he : Ok (spec_l12Cubes vars) (fun r => k (.c (.own 900)) [(900, .sl 22 (.sl (.int .i64)) r (.deep true .no))]) := he
  refine ⟨rfl, rfl, ?_⟩
  refine loop_model mixed tys_ok t_spec_l12Cubes (S := Int × (List (List Int))) (I := (fun (i, out1) => (envOf [(0, .c (.imm (.int .i64) vars)), (3, .c (.own 10000000)), (4, .c (.int .i64 i))], [(10000000, .sl 22 (.sl (.int .i64)) out1 (.deep true .no))]))) (f := spec_l12Cubes_l1 vars) (K := (fun r => k (.c (.own 900)) [(900, .sl 22 (.sl (.int .i64)) r (.deep true .no))])) he (leads_ren [(10000000, 8)] (l := [(0, .c (.imm (.int .i64) vars)), (3, .c (.own 10000000)), (4, .c (.int .i64 (0:Int)))]) (st' := [(10000000, .sl 22 (.sl (.int .i64)) [([] : List Int)] (.deep true .no))]) rfl rfl ⟨⟨rfl, rfl⟩, trivial⟩ ⟨.inl rfl, ⟨rfl, rfl⟩, rfl, trivial⟩) ?_
  rintro ⟨i, out1⟩ J1 he
  refine And.intro (fun hb => ?_) (fun hb => ?_)
  · have he := ok_t he hb
    refine loop_model mixed tys_ok t_spec_l12Cubes (S := Int × (List (List Int)) × (List (List Int))) (I := (fun (k_1, out2, next1) => (envOf [(0, .c (.imm (.int .i64) vars)), (3, .c (.own 10004000)), (4, .c (.int .i64 i)), (5, .c (.own 10004001)), (6, .c (.int .i64 k_1))], [(10004000, .sl 22 (.sl (.int .i64)) out2 (.deep true .no)), (10004001, .sl 22 (.sl (.int .i64)) next1 (.deep true .no))]))) (f := spec_l12Cubes_l2 vars i) (K := (LK J1 (fun r => k (.c (.own 900)) [(900, .sl 22 (.sl (.int .i64)) r (.deep true .no))]))) he (leads_ren [(10004000, 10000000), (10004001, 15)] (l := [(0, .c (.imm (.int .i64) vars)), (3, .c (.own 10004000)), (4, .c (.int .i64 i)), (5, .c (.own 10004001)), (6, .c (.int .i64 (0:Int)))]) (st' := [(10004000, .sl 22 (.sl (.int .i64)) out1 (.deep true .no)), (10004001, .sl 22 (.sl (.int .i64)) ([] : List (List Int)) (.deep true .no))]) rfl rfl ⟨⟨rfl, rfl⟩, ⟨rfl, rfl⟩, trivial⟩ ⟨.inl rfl, ⟨rfl, rfl⟩, rfl, ⟨rfl, rfl⟩, rfl, trivial⟩) ?_
    rintro ⟨k_1, out2, next1⟩ J2 he
    refine And.intro (fun hb => ?_) (fun hb => ?_)
    · have he := ok_t he hb
      refine seq_model mixed tys_ok t_spec_l12Cubes (S := Unit) (I := (fun _ => (envOf [(0, .c (.imm (.int .i64) vars)), (3, .c (.own 10006000)), (4, .c (.int .i64 i)), (5, .c (.own 10006001)), (6, .c (.int .i64 k_1))], [(10006000, .sl 22 (.sl (.int .i64)) (out2.set k_1.toNat (out2.getD k_1.toNat [])) (.deep true .no)), (10006001, .sl 22 (.sl (.int .i64)) (next1 ++ [((([] : List Int) ++ (out2.getD k_1.toNat [])) ++ [(vars.getD i.toNat 0)])]) (.deep true .no))]))) (B := fun s => Ok (spec_l12Cubes_j1 vars i k_1 out2 next1 s) (LK J2 (LK J1 (fun r => k (.c (.own 900)) [(900, .sl 22 (.sl (.int .i64)) r (.deep true .no))])))) ?_ ?_
      · rintro ⟨⟩ he
        refine And.intro (by kernel_rfl) ?_
        have he := ok_rq he
        refine And.intro he.1 ?_
        have he := he.2
        have he := ok_rq he
        refine And.intro he.1 ?_
        have he := he.2
        have he := ok_rq he
        refine And.intro he.1 ?_
        have he := he.2
        have he := ok_rq he
        have hq1 := he.1
        have he := he.2
        have he := ok_rq he
        have hq2 := he.1
        have he := he.2
        have he := ok_rq he
        have hq3 := he.1
        have he := he.2
        refine And.intro ?_ (And.intro ?_ (And.intro ?_ (trivial)))
        · skip
          refine And.intro ?_ (And.intro ?_ (trivial))
          · skip
            refine And.intro ?_ (And.intro ?_ (trivial))
            · skip
              refine And.intro hq1 ?_
              refine And.intro ?_ trivial
              refine And.intro ?_ trivial
              refine And.intro hq2 ?_
              refine And.intro ?_ trivial
              refine And.intro ?_ trivial
              refine And.intro hq3 ?_
              have he := ok_rq he
              refine And.intro he.1 ?_
              have he := he.2
              have he := ok_some he
              exact ⟨((k_1 + (1:Int)), ((out2.set k_1.toNat (out2.getD k_1.toNat [])).set k_1.toNat ((out2.set k_1.toNat (out2.getD k_1.toNat [])).getD k_1.toNat [])), ((next1 ++ [((([] : List Int) ++ (out2.getD k_1.toNat [])) ++ [(vars.getD i.toNat 0)])]) ++ [((([] : List Int) ++ ((out2.set k_1.toNat (out2.getD k_1.toNat [])).getD k_1.toNat [])) ++ [(0 - (vars.getD i.toNat 0))])])), he, ((leads_close [10006000] rfl).trans (leads_ren [(10004000, 10006000), (10004001, 52)] (l := [(0, .c (.imm (.int .i64) vars)), (3, .c (.own 10004000)), (4, .c (.int .i64 i)), (5, .c (.own 10004001)), (6, .c (.int .i64 (k_1 + (1:Int))))]) (st' := [(10004000, .sl 22 (.sl (.int .i64)) ((out2.set k_1.toNat (out2.getD k_1.toNat [])).set k_1.toNat ((out2.set k_1.toNat (out2.getD k_1.toNat [])).getD k_1.toNat [])) (.deep true .no)), (10004001, .sl 22 (.sl (.int .i64)) ((next1 ++ [((([] : List Int) ++ (out2.getD k_1.toNat [])) ++ [(vars.getD i.toNat 0)])]) ++ [((([] : List Int) ++ ((out2.set k_1.toNat (out2.getD k_1.toNat [])).getD k_1.toNat [])) ++ [(0 - (vars.getD i.toNat 0))])]) (.deep true .no))]) rfl rfl ⟨⟨rfl, rfl⟩, ⟨rfl, rfl⟩, trivial⟩ ⟨.inl rfl, ⟨rfl, rfl⟩, rfl, ⟨rfl, rfl⟩, rfl, trivial⟩))⟩
            · skip
              refine And.intro ?_ trivial
              refine And.intro hq1 ?_
              refine And.intro ?_ trivial
              refine And.intro hq2 ?_
              refine And.intro ?_ trivial
              refine And.intro ?_ trivial
              refine And.intro hq3 ?_
              have he := ok_rq he
              refine And.intro he.1 ?_
              have he := he.2
              have he := ok_some he
              exact ⟨((k_1 + (1:Int)), ((out2.set k_1.toNat (out2.getD k_1.toNat [])).set k_1.toNat ((out2.set k_1.toNat (out2.getD k_1.toNat [])).getD k_1.toNat [])), ((next1 ++ [((([] : List Int) ++ (out2.getD k_1.toNat [])) ++ [(vars.getD i.toNat 0)])]) ++ [((([] : List Int) ++ ((out2.set k_1.toNat (out2.getD k_1.toNat [])).getD k_1.toNat [])) ++ [(0 - (vars.getD i.toNat 0))])])), he, ((leads_close [10006000] rfl).trans (leads_ren [(10004000, 10006000), (10004001, 52)] (l := [(0, .c (.imm (.int .i64) vars)), (3, .c (.own 10004000)), (4, .c (.int .i64 i)), (5, .c (.own 10004001)), (6, .c (.int .i64 (k_1 + (1:Int))))]) (st' := [(10004000, .sl 22 (.sl (.int .i64)) ((out2.set k_1.toNat (out2.getD k_1.toNat [])).set k_1.toNat ((out2.set k_1.toNat (out2.getD k_1.toNat [])).getD k_1.toNat [])) (.deep true .no)), (10004001, .sl 22 (.sl (.int .i64)) ((next1 ++ [((([] : List Int) ++ (out2.getD k_1.toNat [])) ++ [(vars.getD i.toNat 0)])]) ++ [((([] : List Int) ++ ((out2.set k_1.toNat (out2.getD k_1.toNat [])).getD k_1.toNat [])) ++ [(0 - (vars.getD i.toNat 0))])]) (.deep true .no))]) rfl rfl ⟨⟨rfl, rfl⟩, ⟨rfl, rfl⟩, trivial⟩ ⟨.inl rfl, ⟨rfl, rfl⟩, rfl, ⟨rfl, rfl⟩, rfl, trivial⟩))⟩
          · skip
            refine And.intro ?_ trivial
            refine And.intro ?_ trivial
            refine And.intro hq1 ?_
            refine And.intro ?_ trivial
            refine And.intro hq2 ?_
            refine And.intro ?_ trivial
            refine And.intro ?_ trivial
            refine And.intro hq3 ?_
            have he := ok_rq he
            refine And.intro he.1 ?_
            have he := he.2
            have he := ok_some he
            exact ⟨((k_1 + (1:Int)), ((out2.set k_1.toNat (out2.getD k_1.toNat [])).set k_1.toNat ((out2.set k_1.toNat (out2.getD k_1.toNat [])).getD k_1.toNat [])), ((next1 ++ [((([] : List Int) ++ (out2.getD k_1.toNat [])) ++ [(vars.getD i.toNat 0)])]) ++ [((([] : List Int) ++ ((out2.set k_1.toNat (out2.getD k_1.toNat [])).getD k_1.toNat [])) ++ [(0 - (vars.getD i.toNat 0))])])), he, ((leads_close [10006000] rfl).trans (leads_ren [(10004000, 10006000), (10004001, 52)] (l := [(0, .c (.imm (.int .i64) vars)), (3, .c (.own 10004000)), (4, .c (.int .i64 i)), (5, .c (.own 10004001)), (6, .c (.int .i64 (k_1 + (1:Int))))]) (st' := [(10004000, .sl 22 (.sl (.int .i64)) ((out2.set k_1.toNat (out2.getD k_1.toNat [])).set k_1.toNat ((out2.set k_1.toNat (out2.getD k_1.toNat [])).getD k_1.toNat [])) (.deep true .no)), (10004001, .sl 22 (.sl (.int .i64)) ((next1 ++ [((([] : List Int) ++ (out2.getD k_1.toNat [])) ++ [(vars.getD i.toNat 0)])]) ++ [((([] : List Int) ++ ((out2.set k_1.toNat (out2.getD k_1.toNat [])).getD k_1.toNat [])) ++ [(0 - (vars.getD i.toNat 0))])]) (.deep true .no))]) rfl rfl ⟨⟨rfl, rfl⟩, ⟨rfl, rfl⟩, trivial⟩ ⟨.inl rfl, ⟨rfl, rfl⟩, rfl, ⟨rfl, rfl⟩, rfl, trivial⟩))⟩
        · skip
          refine And.intro ?_ (And.intro ?_ (trivial))
          · skip
            refine And.intro ?_ (And.intro ?_ (trivial))
            · skip
              refine And.intro hq1 ?_
              refine And.intro ?_ trivial
              refine And.intro ?_ trivial
              refine And.intro hq2 ?_
              refine And.intro ?_ trivial
              refine And.intro ?_ trivial
              refine And.intro hq3 ?_
              have he := ok_rq he
              refine And.intro he.1 ?_
              have he := he.2
              have he := ok_some he
              exact ⟨((k_1 + (1:Int)), ((out2.set k_1.toNat (out2.getD k_1.toNat [])).set k_1.toNat ((out2.set k_1.toNat (out2.getD k_1.toNat [])).getD k_1.toNat [])), ((next1 ++ [((([] : List Int) ++ (out2.getD k_1.toNat [])) ++ [(vars.getD i.toNat 0)])]) ++ [((([] : List Int) ++ ((out2.set k_1.toNat (out2.getD k_1.toNat [])).getD k_1.toNat [])) ++ [(0 - (vars.getD i.toNat 0))])])), he, ((leads_close [10006000] rfl).trans (leads_ren [(10004000, 10006000), (10004001, 52)] (l := [(0, .c (.imm (.int .i64) vars)), (3, .c (.own 10004000)), (4, .c (.int .i64 i)), (5, .c (.own 10004001)), (6, .c (.int .i64 (k_1 + (1:Int))))]) (st' := [(10004000, .sl 22 (.sl (.int .i64)) ((out2.set k_1.toNat (out2.getD k_1.toNat [])).set k_1.toNat ((out2.set k_1.toNat (out2.getD k_1.toNat [])).getD k_1.toNat [])) (.deep true .no)), (10004001, .sl 22 (.sl (.int .i64)) ((next1 ++ [((([] : List Int) ++ (out2.getD k_1.toNat [])) ++ [(vars.getD i.toNat 0)])]) ++ [((([] : List Int) ++ ((out2.set k_1.toNat (out2.getD k_1.toNat [])).getD k_1.toNat [])) ++ [(0 - (vars.getD i.toNat 0))])]) (.deep true .no))]) rfl rfl ⟨⟨rfl, rfl⟩, ⟨rfl, rfl⟩, trivial⟩ ⟨.inl rfl, ⟨rfl, rfl⟩, rfl, ⟨rfl, rfl⟩, rfl, trivial⟩))⟩
            · skip
              refine And.intro ?_ trivial
              refine And.intro hq1 ?_
              refine And.intro ?_ trivial
              refine And.intro hq2 ?_
              refine And.intro ?_ trivial
              refine And.intro ?_ trivial
              refine And.intro hq3 ?_
              have he := ok_rq he
              refine And.intro he.1 ?_
              have he := he.2
              have he := ok_some he
              exact ⟨((k_1 + (1:Int)), ((out2.set k_1.toNat (out2.getD k_1.toNat [])).set k_1.toNat ((out2.set k_1.toNat (out2.getD k_1.toNat [])).getD k_1.toNat [])), ((next1 ++ [((([] : List Int) ++ (out2.getD k_1.toNat [])) ++ [(vars.getD i.toNat 0)])]) ++ [((([] : List Int) ++ ((out2.set k_1.toNat (out2.getD k_1.toNat [])).getD k_1.toNat [])) ++ [(0 - (vars.getD i.toNat 0))])])), he, ((leads_close [10006000] rfl).trans (leads_ren [(10004000, 10006000), (10004001, 52)] (l := [(0, .c (.imm (.int .i64) vars)), (3, .c (.own 10004000)), (4, .c (.int .i64 i)), (5, .c (.own 10004001)), (6, .c (.int .i64 (k_1 + (1:Int))))]) (st' := [(10004000, .sl 22 (.sl (.int .i64)) ((out2.set k_1.toNat (out2.getD k_1.toNat [])).set k_1.toNat ((out2.set k_1.toNat (out2.getD k_1.toNat [])).getD k_1.toNat [])) (.deep true .no)), (10004001, .sl 22 (.sl (.int .i64)) ((next1 ++ [((([] : List Int) ++ (out2.getD k_1.toNat [])) ++ [(vars.getD i.toNat 0)])]) ++ [((([] : List Int) ++ ((out2.set k_1.toNat (out2.getD k_1.toNat [])).getD k_1.toNat [])) ++ [(0 - (vars.getD i.toNat 0))])]) (.deep true .no))]) rfl rfl ⟨⟨rfl, rfl⟩, ⟨rfl, rfl⟩, trivial⟩ ⟨.inl rfl, ⟨rfl, rfl⟩, rfl, ⟨rfl, rfl⟩, rfl, trivial⟩))⟩
          · skip
            refine And.intro ?_ trivial
            refine And.intro ?_ trivial
            refine And.intro hq1 ?_
            refine And.intro ?_ trivial
            refine And.intro hq2 ?_
            refine And.intro ?_ trivial
            refine And.intro ?_ trivial
            refine And.intro hq3 ?_
            have he := ok_rq he
            refine And.intro he.1 ?_
            have he := he.2
            have he := ok_some he
            exact ⟨((k_1 + (1:Int)), ((out2.set k_1.toNat (out2.getD k_1.toNat [])).set k_1.toNat ((out2.set k_1.toNat (out2.getD k_1.toNat [])).getD k_1.toNat [])), ((next1 ++ [((([] : List Int) ++ (out2.getD k_1.toNat [])) ++ [(vars.getD i.toNat 0)])]) ++ [((([] : List Int) ++ ((out2.set k_1.toNat (out2.getD k_1.toNat [])).getD k_1.toNat [])) ++ [(0 - (vars.getD i.toNat 0))])])), he, ((leads_close [10006000] rfl).trans (leads_ren [(10004000, 10006000), (10004001, 52)] (l := [(0, .c (.imm (.int .i64) vars)), (3, .c (.own 10004000)), (4, .c (.int .i64 i)), (5, .c (.own 10004001)), (6, .c (.int .i64 (k_1 + (1:Int))))]) (st' := [(10004000, .sl 22 (.sl (.int .i64)) ((out2.set k_1.toNat (out2.getD k_1.toNat [])).set k_1.toNat ((out2.set k_1.toNat (out2.getD k_1.toNat [])).getD k_1.toNat [])) (.deep true .no)), (10004001, .sl 22 (.sl (.int .i64)) ((next1 ++ [((([] : List Int) ++ (out2.getD k_1.toNat [])) ++ [(vars.getD i.toNat 0)])]) ++ [((([] : List Int) ++ ((out2.set k_1.toNat (out2.getD k_1.toNat [])).getD k_1.toNat [])) ++ [(0 - (vars.getD i.toNat 0))])]) (.deep true .no))]) rfl rfl ⟨⟨rfl, rfl⟩, ⟨rfl, rfl⟩, trivial⟩ ⟨.inl rfl, ⟨rfl, rfl⟩, rfl, ⟨rfl, rfl⟩, rfl, trivial⟩))⟩
        · skip
          refine And.intro ?_ (And.intro ?_ (trivial))
          · skip
            refine And.intro ?_ trivial
            refine And.intro ?_ trivial
            refine And.intro hq1 ?_
            refine And.intro ?_ trivial
            refine And.intro hq2 ?_
            refine And.intro ?_ trivial
            refine And.intro ?_ trivial
            refine And.intro hq3 ?_
            have he := ok_rq he
            refine And.intro he.1 ?_
            have he := he.2
            have he := ok_some he
            exact ⟨((k_1 + (1:Int)), ((out2.set k_1.toNat (out2.getD k_1.toNat [])).set k_1.toNat ((out2.set k_1.toNat (out2.getD k_1.toNat [])).getD k_1.toNat [])), ((next1 ++ [((([] : List Int) ++ (out2.getD k_1.toNat [])) ++ [(vars.getD i.toNat 0)])]) ++ [((([] : List Int) ++ ((out2.set k_1.toNat (out2.getD k_1.toNat [])).getD k_1.toNat [])) ++ [(0 - (vars.getD i.toNat 0))])])), he, ((leads_close [10006000] rfl).trans (leads_ren [(10004000, 10006000), (10004001, 52)] (l := [(0, .c (.imm (.int .i64) vars)), (3, .c (.own 10004000)), (4, .c (.int .i64 i)), (5, .c (.own 10004001)), (6, .c (.int .i64 (k_1 + (1:Int))))]) (st' := [(10004000, .sl 22 (.sl (.int .i64)) ((out2.set k_1.toNat (out2.getD k_1.toNat [])).set k_1.toNat ((out2.set k_1.toNat (out2.getD k_1.toNat [])).getD k_1.toNat [])) (.deep true .no)), (10004001, .sl 22 (.sl (.int .i64)) ((next1 ++ [((([] : List Int) ++ (out2.getD k_1.toNat [])) ++ [(vars.getD i.toNat 0)])]) ++ [((([] : List Int) ++ ((out2.set k_1.toNat (out2.getD k_1.toNat [])).getD k_1.toNat [])) ++ [(0 - (vars.getD i.toNat 0))])]) (.deep true .no))]) rfl rfl ⟨⟨rfl, rfl⟩, ⟨rfl, rfl⟩, trivial⟩ ⟨.inl rfl, ⟨rfl, rfl⟩, rfl, ⟨rfl, rfl⟩, rfl, trivial⟩))⟩
          · skip
            refine And.intro ?_ trivial
            refine And.intro ?_ trivial
            refine And.intro hq1 ?_
            refine And.intro ?_ trivial
            refine And.intro hq2 ?_
            refine And.intro ?_ trivial
            refine And.intro ?_ trivial
            refine And.intro hq3 ?_
            have he := ok_rq he
            refine And.intro he.1 ?_
            have he := he.2
            have he := ok_some he
            exact ⟨((k_1 + (1:Int)), ((out2.set k_1.toNat (out2.getD k_1.toNat [])).set k_1.toNat ((out2.set k_1.toNat (out2.getD k_1.toNat [])).getD k_1.toNat [])), ((next1 ++ [((([] : List Int) ++ (out2.getD k_1.toNat [])) ++ [(vars.getD i.toNat 0)])]) ++ [((([] : List Int) ++ ((out2.set k_1.toNat (out2.getD k_1.toNat [])).getD k_1.toNat [])) ++ [(0 - (vars.getD i.toNat 0))])])), he, ((leads_close [10006000] rfl).trans (leads_ren [(10004000, 10006000), (10004001, 52)] (l := [(0, .c (.imm (.int .i64) vars)), (3, .c (.own 10004000)), (4, .c (.int .i64 i)), (5, .c (.own 10004001)), (6, .c (.int .i64 (k_1 + (1:Int))))]) (st' := [(10004000, .sl 22 (.sl (.int .i64)) ((out2.set k_1.toNat (out2.getD k_1.toNat [])).set k_1.toNat ((out2.set k_1.toNat (out2.getD k_1.toNat [])).getD k_1.toNat [])) (.deep true .no)), (10004001, .sl 22 (.sl (.int .i64)) ((next1 ++ [((([] : List Int) ++ (out2.getD k_1.toNat [])) ++ [(vars.getD i.toNat 0)])]) ++ [((([] : List Int) ++ ((out2.set k_1.toNat (out2.getD k_1.toNat [])).getD k_1.toNat [])) ++ [(0 - (vars.getD i.toNat 0))])]) (.deep true .no))]) rfl rfl ⟨⟨rfl, rfl⟩, ⟨rfl, rfl⟩, trivial⟩ ⟨.inl rfl, ⟨rfl, rfl⟩, rfl, ⟨rfl, rfl⟩, rfl, trivial⟩))⟩
      · skip
        refine And.intro (by kernel_rfl) ?_
        have he := ok_rq he
        refine And.intro he.1 ?_
        have he := he.2
        have he := ok_rq he
        refine And.intro he.1 ?_
        have he := he.2
        have he := ok_rq he
        have hq1 := he.1
        have he := he.2
        have he := ok_rq he
        have hq2 := he.1
        have he := he.2
        have he := ok_rq he
        have hq3 := he.1
        have he := he.2
        refine And.intro ?_ (And.intro ?_ (And.intro ?_ (trivial)))
        · skip
          refine And.intro ?_ (And.intro ?_ (trivial))
          · skip
            refine And.intro ?_ (And.intro ?_ (trivial))
            · skip
              refine And.intro hq1 ?_
              refine And.intro ?_ trivial
              refine And.intro ?_ trivial
              refine And.intro hq2 ?_
              refine And.intro ?_ trivial
              refine And.intro ?_ trivial
              refine And.intro hq3 ?_
              exact ⟨(), he, ((leads_close [10004000] rfl).trans (leads_ren [(10006000, 10004000), (10006001, 36)] (l := [(0, .c (.imm (.int .i64) vars)), (3, .c (.own 10006000)), (4, .c (.int .i64 i)), (5, .c (.own 10006001)), (6, .c (.int .i64 k_1))]) (st' := [(10006000, .sl 22 (.sl (.int .i64)) (out2.set k_1.toNat (out2.getD k_1.toNat [])) (.deep true .no)), (10006001, .sl 22 (.sl (.int .i64)) (next1 ++ [((([] : List Int) ++ (out2.getD k_1.toNat [])) ++ [(vars.getD i.toNat 0)])]) (.deep true .no))]) rfl rfl ⟨⟨rfl, rfl⟩, ⟨rfl, rfl⟩, trivial⟩ ⟨.inl rfl, ⟨rfl, rfl⟩, rfl, ⟨rfl, rfl⟩, rfl, trivial⟩))⟩
            · skip
              refine And.intro ?_ trivial
              refine And.intro hq1 ?_
              refine And.intro ?_ trivial
              refine And.intro hq2 ?_
              refine And.intro ?_ trivial
              refine And.intro ?_ trivial
              refine And.intro hq3 ?_
              exact ⟨(), he, ((leads_close [10004000] rfl).trans (leads_ren [(10006000, 10004000), (10006001, 36)] (l := [(0, .c (.imm (.int .i64) vars)), (3, .c (.own 10006000)), (4, .c (.int .i64 i)), (5, .c (.own 10006001)), (6, .c (.int .i64 k_1))]) (st' := [(10006000, .sl 22 (.sl (.int .i64)) (out2.set k_1.toNat (out2.getD k_1.toNat [])) (.deep true .no)), (10006001, .sl 22 (.sl (.int .i64)) (next1 ++ [((([] : List Int) ++ (out2.getD k_1.toNat [])) ++ [(vars.getD i.toNat 0)])]) (.deep true .no))]) rfl rfl ⟨⟨rfl, rfl⟩, ⟨rfl, rfl⟩, trivial⟩ ⟨.inl rfl, ⟨rfl, rfl⟩, rfl, ⟨rfl, rfl⟩, rfl, trivial⟩))⟩
          · skip
            refine And.intro ?_ trivial
            refine And.intro ?_ trivial
            refine And.intro hq1 ?_
            refine And.intro ?_ trivial
            refine And.intro hq2 ?_
            refine And.intro ?_ trivial
            refine And.intro ?_ trivial
            refine And.intro hq3 ?_
            exact ⟨(), he, ((leads_close [10004000] rfl).trans (leads_ren [(10006000, 10004000), (10006001, 36)] (l := [(0, .c (.imm (.int .i64) vars)), (3, .c (.own 10006000)), (4, .c (.int .i64 i)), (5, .c (.own 10006001)), (6, .c (.int .i64 k_1))]) (st' := [(10006000, .sl 22 (.sl (.int .i64)) (out2.set k_1.toNat (out2.getD k_1.toNat [])) (.deep true .no)), (10006001, .sl 22 (.sl (.int .i64)) (next1 ++ [((([] : List Int) ++ (out2.getD k_1.toNat [])) ++ [(vars.getD i.toNat 0)])]) (.deep true .no))]) rfl rfl ⟨⟨rfl, rfl⟩, ⟨rfl, rfl⟩, trivial⟩ ⟨.inl rfl, ⟨rfl, rfl⟩, rfl, ⟨rfl, rfl⟩, rfl, trivial⟩))⟩
        · skip
          refine And.intro ?_ (And.intro ?_ (trivial))
          · skip
            refine And.intro ?_ (And.intro ?_ (trivial))
            · skip
              refine And.intro hq1 ?_
              refine And.intro ?_ trivial
              refine And.intro ?_ trivial
              refine And.intro hq2 ?_
              refine And.intro ?_ trivial
              refine And.intro ?_ trivial
              refine And.intro hq3 ?_
              exact ⟨(), he, ((leads_close [10004000] rfl).trans (leads_ren [(10006000, 10004000), (10006001, 36)] (l := [(0, .c (.imm (.int .i64) vars)), (3, .c (.own 10006000)), (4, .c (.int .i64 i)), (5, .c (.own 10006001)), (6, .c (.int .i64 k_1))]) (st' := [(10006000, .sl 22 (.sl (.int .i64)) (out2.set k_1.toNat (out2.getD k_1.toNat [])) (.deep true .no)), (10006001, .sl 22 (.sl (.int .i64)) (next1 ++ [((([] : List Int) ++ (out2.getD k_1.toNat [])) ++ [(vars.getD i.toNat 0)])]) (.deep true .no))]) rfl rfl ⟨⟨rfl, rfl⟩, ⟨rfl, rfl⟩, trivial⟩ ⟨.inl rfl, ⟨rfl, rfl⟩, rfl, ⟨rfl, rfl⟩, rfl, trivial⟩))⟩
            · skip
              refine And.intro ?_ trivial
              refine And.intro hq1 ?_
              refine And.intro ?_ trivial
              refine And.intro hq2 ?_
              refine And.intro ?_ trivial
              refine And.intro ?_ trivial
              refine And.intro hq3 ?_
              exact ⟨(), he, ((leads_close [10004000] rfl).trans (leads_ren [(10006000, 10004000), (10006001, 36)] (l := [(0, .c (.imm (.int .i64) vars)), (3, .c (.own 10006000)), (4, .c (.int .i64 i)), (5, .c (.own 10006001)), (6, .c (.int .i64 k_1))]) (st' := [(10006000, .sl 22 (.sl (.int .i64)) (out2.set k_1.toNat (out2.getD k_1.toNat [])) (.deep true .no)), (10006001, .sl 22 (.sl (.int .i64)) (next1 ++ [((([] : List Int) ++ (out2.getD k_1.toNat [])) ++ [(vars.getD i.toNat 0)])]) (.deep true .no))]) rfl rfl ⟨⟨rfl, rfl⟩, ⟨rfl, rfl⟩, trivial⟩ ⟨.inl rfl, ⟨rfl, rfl⟩, rfl, ⟨rfl, rfl⟩, rfl, trivial⟩))⟩
          · skip
            refine And.intro ?_ trivial
            refine And.intro ?_ trivial
            refine And.intro hq1 ?_
            refine And.intro ?_ trivial
            refine And.intro hq2 ?_
            refine And.intro ?_ trivial
            refine And.intro ?_ trivial
            refine And.intro hq3 ?_
            exact ⟨(), he, ((leads_close [10004000] rfl).trans (leads_ren [(10006000, 10004000), (10006001, 36)] (l := [(0, .c (.imm (.int .i64) vars)), (3, .c (.own 10006000)), (4, .c (.int .i64 i)), (5, .c (.own 10006001)), (6, .c (.int .i64 k_1))]) (st' := [(10006000, .sl 22 (.sl (.int .i64)) (out2.set k_1.toNat (out2.getD k_1.toNat [])) (.deep true .no)), (10006001, .sl 22 (.sl (.int .i64)) (next1 ++ [((([] : List Int) ++ (out2.getD k_1.toNat [])) ++ [(vars.getD i.toNat 0)])]) (.deep true .no))]) rfl rfl ⟨⟨rfl, rfl⟩, ⟨rfl, rfl⟩, trivial⟩ ⟨.inl rfl, ⟨rfl, rfl⟩, rfl, ⟨rfl, rfl⟩, rfl, trivial⟩))⟩
        · skip
          refine And.intro ?_ (And.intro ?_ (trivial))
          · skip
            refine And.intro ?_ trivial
            refine And.intro ?_ trivial
            refine And.intro hq1 ?_
            refine And.intro ?_ trivial
            refine And.intro hq2 ?_
            refine And.intro ?_ trivial
            refine And.intro ?_ trivial
            refine And.intro hq3 ?_
            exact ⟨(), he, ((leads_close [10004000] rfl).trans (leads_ren [(10006000, 10004000), (10006001, 36)] (l := [(0, .c (.imm (.int .i64) vars)), (3, .c (.own 10006000)), (4, .c (.int .i64 i)), (5, .c (.own 10006001)), (6, .c (.int .i64 k_1))]) (st' := [(10006000, .sl 22 (.sl (.int .i64)) (out2.set k_1.toNat (out2.getD k_1.toNat [])) (.deep true .no)), (10006001, .sl 22 (.sl (.int .i64)) (next1 ++ [((([] : List Int) ++ (out2.getD k_1.toNat [])) ++ [(vars.getD i.toNat 0)])]) (.deep true .no))]) rfl rfl ⟨⟨rfl, rfl⟩, ⟨rfl, rfl⟩, trivial⟩ ⟨.inl rfl, ⟨rfl, rfl⟩, rfl, ⟨rfl, rfl⟩, rfl, trivial⟩))⟩
          · skip
            refine And.intro ?_ trivial
            refine And.intro ?_ trivial
            refine And.intro hq1 ?_
            refine And.intro ?_ trivial
            refine And.intro hq2 ?_
            refine And.intro ?_ trivial
            refine And.intro ?_ trivial
            refine And.intro hq3 ?_
            exact ⟨(), he, ((leads_close [10004000] rfl).trans (leads_ren [(10006000, 10004000), (10006001, 36)] (l := [(0, .c (.imm (.int .i64) vars)), (3, .c (.own 10006000)), (4, .c (.int .i64 i)), (5, .c (.own 10006001)), (6, .c (.int .i64 k_1))]) (st' := [(10006000, .sl 22 (.sl (.int .i64)) (out2.set k_1.toNat (out2.getD k_1.toNat [])) (.deep true .no)), (10006001, .sl 22 (.sl (.int .i64)) (next1 ++ [((([] : List Int) ++ (out2.getD k_1.toNat [])) ++ [(vars.getD i.toNat 0)])]) (.deep true .no))]) rfl rfl ⟨⟨rfl, rfl⟩, ⟨rfl, rfl⟩, trivial⟩ ⟨.inl rfl, ⟨rfl, rfl⟩, rfl, ⟨rfl, rfl⟩, rfl, trivial⟩))⟩
    · have he := ok_f he hb
      have he := ok_rq he
      refine And.intro he.1 ?_
      have he := he.2
      have he := ok_some he
      exact ⟨((i + (1:Int)), next1), he, (leads_ren [(10000000, 10004001)] (l := [(0, .c (.imm (.int .i64) vars)), (3, .c (.own 10000000)), (4, .c (.int .i64 (i + (1:Int))))]) (st' := [(10000000, .sl 22 (.sl (.int .i64)) next1 (.deep true .no))]) rfl rfl ⟨⟨rfl, rfl⟩, trivial⟩ ⟨.inl rfl, ⟨rfl, rfl⟩, rfl, trivial⟩)⟩
  · have he := ok_f he hb
    have he := ok_some he
    exact ⟨rfl, _, _, (leads_ren [(900, 10000000)] (l := [(2, .c (.own 900))]) (st' := [(900, .sl 22 (.sl (.int .i64)) out1 (.deep true .no))]) rfl rfl ⟨⟨rfl, rfl⟩, trivial⟩ ⟨⟨rfl, rfl⟩, trivial⟩), he⟩

noncomputable def c_spec_SplitCubes : Con := fun args st => match args, st with
  | [.c (.imm (.int .i64) vars)], [] => .opt (Bool × (List (List Int))) (spec_SplitCubes vars) (fun r => .ret (.tup [.c (.own 900), .c (.bool r.1)]) [(900, .sl 22 (.sl (.int .i64)) r.2 (.deep true .no))])
  | _, _ => .fail

noncomputable def C_spec_SplitCubes : Cfg := { y := tys, n := 10, h := 0, tab := [(60, c_spec_l12Vars), (61, c_spec_l12Cubes)], cut := [], hand := [], good := [], deep := [7], sched := [] }

theorem t_spec_SplitCubes : TabOk Try.prog C_spec_SplitCubes := by
  refine tabOk_of ?_
  simp only [C_spec_SplitCubes, List.forall_mem_cons]
  exact ⟨k_spec_l12Vars, k_spec_l12Cubes, fun p h => by cases h⟩

theorem k_spec_SplitCubes : Entry Try.prog 21 c_spec_SplitCubes := by
  refine entry_by (C := C_spec_SplitCubes) mixed tys_ok t_spec_SplitCubes (fn := Try.f21) (c := bd Try.f21) (by kernel_rfl) (by kernel_rfl) (by kernel_rfl) (by kernel_rfl) ?_
  intro args st k he
  unfold c_spec_SplitCubes at he
  split at he
  rotate_left
  · exact he.elim
  rename_i vars
  have he : Ok (spec_SplitCubes vars) (fun r => k (.tup [.c (.own 900), .c (.bool r.1)]) [(900, .sl 22 (.sl (.int .i64)) r.2 (.deep true .no))]) := he
  refine ⟨rfl, rfl, ?_⟩
  obtain ⟨r1_, hr, he⟩ := ok_bind he
  refine ⟨r1_, hr, ?_⟩
  refine And.intro (fun hb => ?_) (fun hb => ?_)
  · have he := ok_t he hb
    have he := ok_some he
    exact ⟨rfl, _, _, (leads_ren [(900, 7)] (l := [(2, .c (.own 900)), (3, .c (.bool false))]) (st' := [(900, .sl 22 (.sl (.int .i64)) ([] : List (List Int)) (.deep true .no))]) rfl rfl ⟨⟨rfl, rfl⟩, trivial⟩ ⟨⟨rfl, rfl⟩, .inr rfl, trivial⟩), he⟩
  · have he := ok_f he hb
    obtain ⟨r2_, hr, he⟩ := ok_bind he
    refine ⟨r2_, hr, ?_⟩
    have he := ok_some he
    exact ⟨rfl, _, _, (leads_ren [(900, 10900)] (l := [(2, .c (.own 900)), (3, .c (.bool true))]) (st' := [(900, .sl 22 (.sl (.int .i64)) r2_ (.deep true .no))]) rfl rfl ⟨⟨rfl, rfl⟩, trivial⟩ ⟨⟨rfl, rfl⟩, .inr rfl, trivial⟩), he⟩

noncomputable def c_impl_areVars : Con := fun args st => match args, st with
  | [.c (.imm (.int .i64) vars)], [] => .opt (Bool) (impl_areVars vars) (fun r => .ret (.c (.bool r)) [])
  | _, _ => .fail

noncomputable def C_impl_areVars : Cfg := { y := tys, n := 29, h := 0, tab := [(100, c_impl_within)], cut := [], hand := [], good := [], deep := [], sched := [] }

theorem t_impl_areVars : TabOk Try.prog C_impl_areVars := by
  refine tabOk_of ?_
  simp only [C_impl_areVars, List.forall_mem_cons]
  exact ⟨k_impl_within, fun p h => by cases h⟩

theorem k_impl_areVars : Entry Try.prog 62 c_impl_areVars := by
  refine entry_by (C := C_impl_areVars) mixed tys_ok t_impl_areVars (fn := Try.f62) (c := bd Try.f62) (by kernel_rfl) (by kernel_rfl) (by kernel_rfl) (by kernel_rfl) ?_
  intro args st k he
  unfold c_impl_areVars at he
  split at he
  rotate_left
  · exact he.elim
  rename_i vars
  have he : Ok (impl_areVars vars) (fun r => k (.c (.bool r)) []) := he
  refine ⟨rfl, rfl, ?_⟩
  refine loop_model mixed tys_ok t_impl_areVars (S := Int) (I := (fun i => (envOf [(0, .c (.imm (.int .i64) vars)), (5, .c (.imm (.int .i64) vars)), (6, .c (.int .i64 (vars.length:Int))), (7, .c (.int .i64 i))], []))) (f := impl_areVars_l1 vars) (K := (fun r => k (.c (.bool r)) [])) he (leads_ren [] (l := [(0, .c (.imm (.int .i64) vars)), (5, .c (.imm (.int .i64) vars)), (6, .c (.int .i64 (vars.length:Int))), (7, .c (.int .i64 (0:Int)))]) (st' := []) rfl rfl trivial ⟨.inl rfl, .inl rfl, rfl, rfl, trivial⟩) ?_
  rintro i J1 he
  refine And.intro (fun hb => ?_) (fun hb => ?_)
  · have he := ok_t he hb
    have he := ok_rq he
    refine And.intro he.1 ?_
    have he := he.2
    obtain ⟨r1_, hr, he⟩ := ok_bind he
    refine ⟨r1_, hr, ?_⟩
    refine And.intro (fun hb => ?_) (fun hb => ?_)
    · have he := ok_f he hb
      refine And.intro (fun hb => ?_) (fun hb => ?_)
      · have he := ok_t he hb
        have he := ok_rq he
        refine And.intro he.1 ?_
        have he := he.2
        have he := ok_rq he
        refine And.intro he.1 ?_
        have he := he.2
        refine And.intro (fun hb => ?_) (fun hb => ?_)
        · have he := ok_t he hb
          have he := ok_some he
          exact ⟨rfl, _, _, Leads.refl _ _, he⟩
        · have he := ok_f he hb
          have he := ok_rq he
          refine And.intro he.1 ?_
          have he := he.2
          have he := ok_some he
          exact ⟨(i + (1:Int)), he, (leads_ren [] (l := [(0, .c (.imm (.int .i64) vars)), (5, .c (.imm (.int .i64) vars)), (6, .c (.int .i64 (vars.length:Int))), (7, .c (.int .i64 (i + (1:Int))))]) (st' := []) rfl rfl trivial ⟨.inl rfl, .inl rfl, rfl, rfl, trivial⟩)⟩
      · have he := ok_f he hb
        have he := ok_rq he
        refine And.intro he.1 ?_
        have he := he.2
        have he := ok_some he
        exact ⟨(i + (1:Int)), he, (leads_ren [] (l := [(0, .c (.imm (.int .i64) vars)), (5, .c (.imm (.int .i64) vars)), (6, .c (.int .i64 (vars.length:Int))), (7, .c (.int .i64 (i + (1:Int))))]) (st' := []) rfl rfl trivial ⟨.inl rfl, .inl rfl, rfl, rfl, trivial⟩)⟩
    · have he := ok_t he hb
      have he := ok_some he
      exact ⟨rfl, _, _, Leads.refl _ _, he⟩
  · have he := ok_f he hb
    have he := ok_some he
    exact ⟨rfl, _, _, Leads.refl _ _, he⟩

noncomputable def c_slices_Clone_int : Con := fun args st => match args, st with
  | [.c (.imm (.int .i64) s_)], [] => .opt ((List Int)) (slices_Clone_int s_) (fun r => .ret (.c (.own 900)) [(900, .sl 3 (.int .i64) r .shallow)])
  | _, _ => .fail

noncomputable def C_slices_Clone_int : Cfg := { y := tys, n := 8, h := 0, tab := [], cut := [], hand := [], good := [], deep := [], sched := [] }

theorem t_slices_Clone_int : TabOk Try.prog C_slices_Clone_int := tabOk_of (fun p h => by cases h)

theorem k_slices_Clone_int : Entry Try.prog 101 c_slices_Clone_int := by
  refine entry_by (C := C_slices_Clone_int) mixed tys_ok t_slices_Clone_int (fn := Try.f101) (c := bd Try.f101) (by kernel_rfl) (by kernel_rfl) (by kernel_rfl) (by kernel_rfl) ?_
  intro args st k he
  unfold c_slices_Clone_int at he
  split at he
  rotate_left
  · exact he.elim
  rename_i s_
  have he : Ok (slices_Clone_int s_) (fun r => k (.c (.own 900)) [(900, .sl 3 (.int .i64) r .shallow)]) := he
  refine ⟨rfl, rfl, ?_⟩
  refine fun b1_ hb1_ => ?_
  have he := ok_nt he hb1_
  refine And.intro (fun hb => ?_) (fun hb => ?_)
  · have he := ok_t he hb
    have he := ok_some he
    exact ⟨rfl, _, _, (leads_ren [] (l := [(2, .c (.own 900))]) (st' := [(900, .sl 3 (.int .i64) ([] : List Int) .shallow)]) rfl rfl ⟨trivial, trivial⟩ ⟨⟨rfl, trivial⟩, trivial⟩), he⟩
  · have he := ok_f he hb
    have he := ok_rq he
    refine And.intro he.1 ?_
    have he := he.2
    have he := ok_some he
    exact ⟨rfl, _, _, (leads_ren [(900, 7)] (l := [(2, .c (.own 900))]) (st' := [(900, .sl 3 (.int .i64) (([] : List Int) ++ s_) .shallow)]) rfl rfl ⟨⟨rfl, rfl⟩, trivial⟩ ⟨⟨rfl, rfl⟩, trivial⟩), he⟩

noncomputable def c_impl_cubesOf : Con := fun args st => match args, st with
  | [.c (.imm (.int .i64) vars)], [] => .opt ((List (List Int))) (impl_cubesOf vars) (fun r => .ret (.c (.own 900)) [(900, .sl 22 (.sl (.int .i64)) r (.deep true .no))])
  | _, _ => .fail

noncomputable def C_impl_cubesOf : Cfg := { y := tys, n := 40, h := 0, tab := [(101, c_slices_Clone_int)], cut := [], hand := [], good := [], deep := [9, 34], sched := [] }

theorem t_impl_cubesOf : TabOk Try.prog C_impl_cubesOf := by
  refine tabOk_of ?_
  simp only [C_impl_cubesOf, List.forall_mem_cons]
  exact ⟨k_slices_Clone_int, fun p h => by cases h⟩

theorem k_impl_cubesOf : Entry Try.prog 63 c_impl_cubesOf := by
  refine entry_by (C := C_impl_cubesOf) mixed tys_ok t_impl_cubesOf (fn := Try.f63) (c := bd Try.f63) (by kernel_rfl) (by kernel_rfl) (by kernel_rfl) (by kernel_rfl) ?_
  intro args st k he
  unfold c_impl_cubesOf at he
  split at he
  rotate_left
  · exact he.elim
  rename_i vars
  have he : Ok (impl_cubesOf vars) (fun r => k (.c (.own 900)) [(900, .sl 22 (.sl (.int .i64)) r (.deep true .no))]) := he
  refine ⟨rfl, rfl, ?_⟩
  refine loop_model mixed tys_ok t_impl_cubesOf (S := Int × (List (List Int))) (I := (fun (i, out) => (envOf [(3, .c (.own 10000000)), (10, .c (.imm (.int .i64) vars)), (11, .c (.int .i64 (vars.length:Int))), (12, .c (.int .i64 i))], [(10000000, .sl 22 (.sl (.int .i64)) out (.deep true .no))]))) (f := impl_cubesOf_l1 vars) (K := (fun r => k (.c (.own 900)) [(900, .sl 22 (.sl (.int .i64)) r (.deep true .no))])) he (leads_ren [(10000000, 9)] (l := [(3, .c (.own 10000000)), (10, .c (.imm (.int .i64) vars)), (11, .c (.int .i64 (vars.length:Int))), (12, .c (.int .i64 (0:Int)))]) (st' := [(10000000, .sl 22 (.sl (.int .i64)) [([] : List Int)] (.deep true .no))]) rfl rfl ⟨⟨rfl, rfl⟩, trivial⟩ ⟨⟨rfl, rfl⟩, .inl rfl, rfl, rfl, trivial⟩) ?_
  rintro ⟨i, out⟩ J1 he
  refine And.intro (fun hb => ?_) (fun hb => ?_)
  · have he := ok_t he hb
    have he := ok_rq he
    refine And.intro he.1 ?_
    have he := he.2
    refine loop_model mixed tys_ok t_impl_cubesOf (S := Int × (List (List Int)) × (List (List Int))) (I := (fun (i3, next1, i4) => (envOf [(5, .c (.int .i64 (vars.getD i.toNat 0))), (6, .c (.own 10002000)), (10, .c (.imm (.int .i64) vars)), (11, .c (.int .i64 (vars.length:Int))), (12, .c (.int .i64 i)), (16, .c (.own 10002001)), (17, .c (.int .i64 (out.length:Int))), (18, .c (.int .i64 i3))], [(10002000, .sl 22 (.sl (.int .i64)) next1 (.deep true .no)), (10002001, .sl 22 (.sl (.int .i64)) i4 (.deep true .no))]))) (f := impl_cubesOf_l2 vars i out) (K := (LK J1 (fun r => k (.c (.own 900)) [(900, .sl 22 (.sl (.int .i64)) r (.deep true .no))]))) he (leads_ren [(10002001, 10000000)] (l := [(5, .c (.int .i64 (vars.getD i.toNat 0))), (6, .c (.own 10002000)), (10, .c (.imm (.int .i64) vars)), (11, .c (.int .i64 (vars.length:Int))), (12, .c (.int .i64 i)), (16, .c (.own 10002001)), (17, .c (.int .i64 (out.length:Int))), (18, .c (.int .i64 (0:Int)))]) (st' := [(10002000, .sl 22 (.sl (.int .i64)) ([] : List (List Int)) (.deep true .no)), (10002001, .sl 22 (.sl (.int .i64)) out (.deep true .no))]) rfl rfl ⟨trivial, ⟨rfl, rfl⟩, trivial⟩ ⟨rfl, ⟨rfl, trivial⟩, .inl rfl, rfl, rfl, ⟨rfl, rfl⟩, rfl, rfl, trivial⟩) ?_
    rintro ⟨i3, next1, i4⟩ J2 he
    refine And.intro (fun hb => ?_) (fun hb => ?_)
    · have he := ok_t he hb
      have he := ok_rq he
      refine And.intro he.1 ?_
      have he := he.2
      obtain ⟨r7_, hr, he⟩ := ok_bind he
      refine ⟨r7_, hr, ?_⟩
      have he := ok_rq he
      refine And.intro he.1 ?_
      have he := he.2
      obtain ⟨r8_, hr, he⟩ := ok_bind he
      refine ⟨r8_, hr, ?_⟩
      have he := ok_rq he
      refine And.intro he.1 ?_
      have he := he.2
      have he := ok_rq he
      refine And.intro he.1 ?_
      have he := he.2
      have he := ok_rq he
      refine And.intro he.1 ?_
      have he := he.2
      have he := ok_rq he
      refine And.intro he.1 ?_
      have he := he.2
      have he := ok_some he
      exact ⟨((i3 + (1:Int)), (next1 ++ [(r7_ ++ [(vars.getD i.toNat 0)]), (r8_ ++ [(0 - (vars.getD i.toNat 0))])]), (i4.set i3.toNat (i4.getD i3.toNat []))), he, ((leads_close [10002001] rfl).trans (leads_ren [(10002000, 35)] (l := [(5, .c (.int .i64 (vars.getD i.toNat 0))), (6, .c (.own 10002000)), (10, .c (.imm (.int .i64) vars)), (11, .c (.int .i64 (vars.length:Int))), (12, .c (.int .i64 i)), (16, .c (.own 10002001)), (17, .c (.int .i64 (out.length:Int))), (18, .c (.int .i64 (i3 + (1:Int))))]) (st' := [(10002000, .sl 22 (.sl (.int .i64)) (next1 ++ [(r7_ ++ [(vars.getD i.toNat 0)]), (r8_ ++ [(0 - (vars.getD i.toNat 0))])]) (.deep true .no)), (10002001, .sl 22 (.sl (.int .i64)) (i4.set i3.toNat (i4.getD i3.toNat [])) (.deep true .no))]) rfl rfl ⟨⟨rfl, rfl⟩, ⟨rfl, rfl⟩, trivial⟩ ⟨rfl, ⟨rfl, rfl⟩, .inl rfl, rfl, rfl, ⟨rfl, rfl⟩, rfl, rfl, trivial⟩))⟩
    · have he := ok_f he hb
      have he := ok_rq he
      refine And.intro he.1 ?_
      have he := he.2
      have he := ok_some he
      exact ⟨((i + (1:Int)), next1), he, (leads_ren [(10000000, 10002000)] (l := [(3, .c (.own 10000000)), (10, .c (.imm (.int .i64) vars)), (11, .c (.int .i64 (vars.length:Int))), (12, .c (.int .i64 (i + (1:Int))))]) (st' := [(10000000, .sl 22 (.sl (.int .i64)) next1 (.deep true .no))]) rfl rfl ⟨⟨rfl, rfl⟩, trivial⟩ ⟨⟨rfl, rfl⟩, .inl rfl, rfl, rfl, trivial⟩)⟩
  · have he := ok_f he hb
    have he := ok_some he
    exact ⟨rfl, _, _, (leads_ren [(900, 10000000)] (l := [(2, .c (.own 900))]) (st' := [(900, .sl 22 (.sl (.int .i64)) out (.deep true .no))]) rfl rfl ⟨⟨rfl, rfl⟩, trivial⟩ ⟨⟨rfl, rfl⟩, trivial⟩), he⟩

noncomputable def c_impl_SplitCubes : Con := fun args st => match args, st with
  | [.c (.imm (.int .i64) vars)], [] => .opt (Bool × (List (List Int))) (impl_SplitCubes vars) (fun r => .ret (.tup [.c (.own 900), .c (.bool r.1)]) [(900, .sl 22 (.sl (.int .i64)) r.2 (.deep true .no))])
  | _, _ => .fail

noncomputable def C_impl_SplitCubes : Cfg := { y := tys, n := 14, h := 0, tab := [(62, c_impl_areVars), (63, c_impl_cubesOf)], cut := [], hand := [], good := [], deep := [], sched := [] }

theorem t_impl_SplitCubes : TabOk Try.prog C_impl_SplitCubes := by
  refine tabOk_of ?_
  simp only [C_impl_SplitCubes, List.forall_mem_cons]
  exact ⟨k_impl_areVars, k_impl_cubesOf, fun p h => by cases h⟩

theorem k_impl_SplitCubes : Entry Try.prog 22 c_impl_SplitCubes := by
  refine entry_by (C := C_impl_SplitCubes) mixed tys_ok t_impl_SplitCubes (fn := Try.f22) (c := bd Try.f22) (by kernel_rfl) (by kernel_rfl) (by kernel_rfl) (by kernel_rfl) ?_
  intro args st k he
  unfold c_impl_SplitCubes at he
  split at he
  rotate_left
  · exact he.elim
  rename_i vars
  have he : Ok (impl_SplitCubes vars) (fun r => k (.tup [.c (.own 900), .c (.bool r.1)]) [(900, .sl 22 (.sl (.int .i64)) r.2 (.deep true .no))]) := he
  refine ⟨rfl, rfl, ?_⟩
  obtain ⟨r1_, hr, he⟩ := ok_bind he
  refine ⟨r1_, hr, ?_⟩
  refine And.intro (fun hb => ?_) (fun hb => ?_)
  · have he := ok_f he hb
    refine And.intro (fun hb => ?_) (fun hb => ?_)
    · have he := ok_t he hb
      have he := ok_some he
      exact ⟨rfl, _, _, (leads_ren [] (l := [(2, .c (.own 900)), (3, .c (.bool false))]) (st' := [(900, .sl 22 (.sl (.int .i64)) ([] : List (List Int)) (.deep true .no))]) rfl rfl ⟨trivial, trivial⟩ ⟨⟨rfl, trivial⟩, .inr rfl, trivial⟩), he⟩
    · have he := ok_f he hb
      obtain ⟨r2_, hr, he⟩ := ok_bind he
      refine ⟨r2_, hr, ?_⟩
      have he := ok_some he
      exact ⟨rfl, _, _, (leads_ren [(900, 14900)] (l := [(2, .c (.own 900)), (3, .c (.bool true))]) (st' := [(900, .sl 22 (.sl (.int .i64)) r2_ (.deep true .no))]) rfl rfl ⟨⟨rfl, rfl⟩, trivial⟩ ⟨⟨rfl, rfl⟩, .inr rfl, trivial⟩), he⟩
  · have he := ok_t he hb
    have he := ok_some he
    exact ⟨rfl, _, _, (leads_ren [] (l := [(2, .c (.own 900)), (3, .c (.bool false))]) (st' := [(900, .sl 22 (.sl (.int .i64)) ([] : List (List Int)) (.deep true .no))]) rfl rfl ⟨trivial, trivial⟩ ⟨⟨rfl, trivial⟩, .inr rfl, trivial⟩), he⟩

noncomputable def c_laws_eqIntSS : Con := fun args st => match args, st with
  | [.c (.imm (.sl (.int .i64)) a), .c (.imm (.sl (.int .i64)) b)], [] => .opt (Bool) (laws_eqIntSS a b) (fun r => .ret (.c (.bool r)) [])
  | _, _ => .fail

noncomputable def C_laws_eqIntSS : Cfg := { y := tys, n := 27, h := 0, tab := [(19, c_laws_eqIntS)], cut := [], hand := [], good := [], deep := [], sched := [(6, (.first 0 (.first 1 (.first 2 (.first 3 (.first 4 (.first 5 (.first 6 (.first 7 (.alt 8 (.first 9 .done) .stop))))))))))] }

theorem t_laws_eqIntSS : TabOk Try.prog C_laws_eqIntSS := by
  refine tabOk_of ?_
  simp only [C_laws_eqIntSS, List.forall_mem_cons]
  exact ⟨k_laws_eqIntS, fun p h => by cases h⟩

theorem k_laws_eqIntSS : Entry Try.prog 23 c_laws_eqIntSS := by
  refine entry_by (C := C_laws_eqIntSS) mixed tys_ok t_laws_eqIntSS (fn := Try.f23) (c := bd Try.f23) (by kernel_rfl) (by kernel_rfl) (by kernel_rfl) (by kernel_rfl) ?_
  intro args st k he
  unfold c_laws_eqIntSS at he
  split at he
  rotate_left
  · exact he.elim
  rename_i a b
  have he : Ok (laws_eqIntSS a b) (fun r => k (.c (.bool r)) []) := he
  refine ⟨rfl, rfl, ?_⟩
  refine And.intro (fun hb => ?_) (fun hb => ?_)
  · have he := ok_t he hb
    have he := ok_some he
    exact ⟨rfl, _, _, Leads.refl _ _, he⟩
  · have he := ok_f he hb
    refine loop_model mixed tys_ok t_laws_eqIntSS (S := Int) (I := (fun i => (envOf [(0, .c (.imm (.sl (.int .i64)) a)), (1, .c (.imm (.sl (.int .i64)) b)), (5, .c (.int .i64 i))], []))) (f := laws_eqIntSS_l1 a b) (K := (fun r => k (.c (.bool r)) [])) he (leads_ren [] (l := [(0, .c (.imm (.sl (.int .i64)) a)), (1, .c (.imm (.sl (.int .i64)) b)), (5, .c (.int .i64 (0:Int)))]) (st' := []) rfl rfl trivial ⟨.inl rfl, .inl rfl, rfl, trivial⟩) ?_
    rintro i J1 he
    refine And.intro (fun hb => ?_) (fun hb => ?_)
    · have he := ok_t he hb
      refine And.intro (by kernel_rfl) ?_
      have he := ok_rq he
      refine And.intro he.1 ?_
      have he := he.2
      have he := ok_rq he
      refine And.intro he.1 ?_
      have he := he.2
      refine And.intro ?_ trivial
      obtain ⟨r2_, hr, he⟩ := ok_bind he
      refine ⟨r2_, hr, ?_⟩
      refine And.intro (fun hb => ?_) (fun hb => ?_)
      · have he := ok_t he hb
        have he := ok_some he
        exact ⟨rfl, _, _, Leads.refl _ _, he⟩
      · have he := ok_f he hb
        have he := ok_rq he
        refine And.intro he.1 ?_
        have he := he.2
        have he := ok_some he
        exact ⟨(i + (1:Int)), he, (leads_ren [] (l := [(0, .c (.imm (.sl (.int .i64)) a)), (1, .c (.imm (.sl (.int .i64)) b)), (5, .c (.int .i64 (i + (1:Int))))]) (st' := []) rfl rfl trivial ⟨.inl rfl, .inl rfl, rfl, trivial⟩)⟩
    · have he := ok_f he hb
      have he := ok_some he
      exact ⟨rfl, _, _, Leads.refl _ _, he⟩

noncomputable def c_laws_markIntS : Con := fun args st => match args, st with
  | [.c (.own 0), .c (.int .i64 k_)], [(0, .sl 3 (.int .i64) a .shallow)] => .opt (Int × (List Int)) (laws_markIntS k_ a) (fun r => .ret (.c (.int .i64 r.1)) [(0, .sl 3 (.int .i64) r.2 .shallow)])
  | _, _ => .fail

noncomputable def C_laws_markIntS : Cfg := { y := tys, n := 19, h := 1, tab := [], cut := [], hand := [], good := [], deep := [], sched := [] }

theorem t_laws_markIntS : TabOk Try.prog C_laws_markIntS := tabOk_of (fun p h => by cases h)

theorem k_laws_markIntS : Entry Try.prog 24 c_laws_markIntS := by
  refine entry_by (C := C_laws_markIntS) mixed tys_ok t_laws_markIntS (fn := Try.f24) (c := bd Try.f24) (by kernel_rfl) (by kernel_rfl) (by kernel_rfl) (by kernel_rfl) ?_
  intro args st k he
  unfold c_laws_markIntS at he
  split at he
  rotate_left
  · exact he.elim
  rename_i k_ a
  have he : Ok (laws_markIntS k_ a) (fun r => k (.c (.int .i64 r.1)) [(0, .sl 3 (.int .i64) r.2 .shallow)]) := he
  refine ⟨rfl, rfl, ?_⟩
  refine loop_model mixed tys_ok t_laws_markIntS (S := Int × Int × (List Int)) (I := (fun (k_1, i, a1) => (envOf [(0, .c (.own 0)), (1, .c (.int .i64 k_1)), (5, .c (.int .i64 i))], [(0, .sl 3 (.int .i64) a1 .shallow)]))) (f := laws_markIntS_l1) (K := (fun r => k (.c (.int .i64 r.1)) [(0, .sl 3 (.int .i64) r.2 .shallow)])) he (leads_ren [] (l := [(0, .c (.own 0)), (1, .c (.int .i64 k_)), (5, .c (.int .i64 (0:Int)))]) (st' := [(0, .sl 3 (.int .i64) a .shallow)]) rfl rfl ⟨⟨rfl, rfl⟩, trivial⟩ ⟨⟨rfl, rfl⟩, rfl, rfl, trivial⟩) ?_
  rintro ⟨k_1, i, a1⟩ J1 he
  refine And.intro (fun hb => ?_) (fun hb => ?_)
  · have he := ok_t he hb
    have he := ok_rq he
    refine And.intro he.1 ?_
    have he := he.2
    have he := ok_rq he
    refine And.intro he.1 ?_
    have he := he.2
    have he := ok_rq he
    refine And.intro he.1 ?_
    have he := he.2
    have he := ok_some he
    exact ⟨((k_1 + (1:Int)), (i + (1:Int)), (a1.set i.toNat k_1)), he, (leads_ren [] (l := [(0, .c (.own 0)), (1, .c (.int .i64 (k_1 + (1:Int)))), (5, .c (.int .i64 (i + (1:Int))))]) (st' := [(0, .sl 3 (.int .i64) (a1.set i.toNat k_1) .shallow)]) rfl rfl ⟨⟨rfl, rfl⟩, trivial⟩ ⟨⟨rfl, rfl⟩, rfl, rfl, trivial⟩)⟩
  · have he := ok_f he hb
    have he := ok_some he
    exact ⟨rfl, _, _, (leads_ren [] (l := [(4, .c (.int .i64 k_1))]) (st' := [(0, .sl 3 (.int .i64) a1 .shallow)]) rfl rfl ⟨⟨rfl, rfl⟩, trivial⟩ ⟨rfl, trivial⟩), he⟩

noncomputable def c_laws_markIntS_v2 : Con := fun args st => match args, st with
  | [.c (.own 0), .c (.int .i64 k_)], [(0, .sl 0 (.int .i64) a (.deep false .no))] => .opt (Int × (List Int)) (laws_markIntS_v2 k_ a) (fun r => .ret (.c (.int .i64 r.1)) [(0, .sl 0 (.int .i64) r.2 (.deep false .no))])
  | _, _ => .fail

noncomputable def C_laws_markIntS_v2 : Cfg := { y := tys, n := 19, h := 1, tab := [], cut := [], hand := [], good := [], deep := [], sched := [] }

theorem t_laws_markIntS_v2 : TabOk Try.prog C_laws_markIntS_v2 := tabOk_of (fun p h => by cases h)

theorem k_laws_markIntS_v2 : Entry Try.prog 24 c_laws_markIntS_v2 := by
  refine entry_by (C := C_laws_markIntS_v2) mixed tys_ok t_laws_markIntS_v2 (fn := Try.f24) (c := bd Try.f24) (by kernel_rfl) (by kernel_rfl) (by kernel_rfl) (by kernel_rfl) ?_
  intro args st k he
  unfold c_laws_markIntS_v2 at he
  split at he
  rotate_left
  · exact he.elim
  rename_i k_ a
  have he : Ok (laws_markIntS_v2 k_ a) (fun r => k (.c (.int .i64 r.1)) [(0, .sl 0 (.int .i64) r.2 (.deep false .no))]) := he
  refine ⟨rfl, rfl, ?_⟩
  refine loop_model mixed tys_ok t_laws_markIntS_v2 (S := Int × Int × (List Int)) (I := (fun (k_1, i, a1) => (envOf [(0, .c (.own 0)), (1, .c (.int .i64 k_1)), (5, .c (.int .i64 i))], [(0, .sl 0 (.int .i64) a1 (.deep false .no))]))) (f := laws_markIntS_v2_l1) (K := (fun r => k (.c (.int .i64 r.1)) [(0, .sl 0 (.int .i64) r.2 (.deep false .no))])) he (leads_ren [] (l := [(0, .c (.own 0)), (1, .c (.int .i64 k_)), (5, .c (.int .i64 (0:Int)))]) (st' := [(0, .sl 0 (.int .i64) a (.deep false .no))]) rfl rfl ⟨⟨rfl, rfl⟩, trivial⟩ ⟨⟨rfl, rfl⟩, rfl, rfl, trivial⟩) ?_
  rintro ⟨k_1, i, a1⟩ J1 he
  refine And.intro (fun hb => ?_) (fun hb => ?_)
  · have he := ok_t he hb
    have he := ok_rq he
    refine And.intro he.1 ?_
    have he := he.2
    have he := ok_rq he
    refine And.intro he.1 ?_
    have he := he.2
    have he := ok_rq he
    refine And.intro he.1 ?_
    have he := he.2
    have he := ok_some he
    exact ⟨((k_1 + (1:Int)), (i + (1:Int)), (a1.set i.toNat k_1)), he, (leads_ren [] (l := [(0, .c (.own 0)), (1, .c (.int .i64 (k_1 + (1:Int)))), (5, .c (.int .i64 (i + (1:Int))))]) (st' := [(0, .sl 0 (.int .i64) (a1.set i.toNat k_1) (.deep false .no))]) rfl rfl ⟨⟨rfl, rfl⟩, trivial⟩ ⟨⟨rfl, rfl⟩, rfl, rfl, trivial⟩)⟩
  · have he := ok_f he hb
    have he := ok_some he
    exact ⟨rfl, _, _, (leads_ren [] (l := [(4, .c (.int .i64 k_1))]) (st' := [(0, .sl 0 (.int .i64) a1 (.deep false .no))]) rfl rfl ⟨⟨rfl, rfl⟩, trivial⟩ ⟨rfl, trivial⟩), he⟩

noncomputable def c_laws_markIntSS : Con := fun args st => match args, st with
  | [.c (.own 0), .c (.int .i64 k_)], [(0, .sl 22 (.sl (.int .i64)) a (.deep true .no))] => .opt (Int × (List (List Int))) (laws_markIntSS k_ a) (fun r => .ret (.c (.int .i64 r.1)) [(0, .sl 22 (.sl (.int .i64)) r.2 (.deep true .no))])
  | _, _ => .fail

noncomputable def C_laws_markIntSS : Cfg := { y := tys, n := 19, h := 1, tab := [(24, c_laws_markIntS_v2)], cut := [], hand := [(24, [0])], good := [], deep := [], sched := [] }

theorem t_laws_markIntSS : TabOk Try.prog C_laws_markIntSS := by
  refine tabOk_of ?_
  simp only [C_laws_markIntSS, List.forall_mem_cons]
  exact ⟨k_laws_markIntS_v2, fun p h => by cases h⟩

theorem k_laws_markIntSS : Entry Try.prog 25 c_laws_markIntSS := by
  refine entry_by (C := C_laws_markIntSS) mixed tys_ok t_laws_markIntSS (fn := Try.f25) (c := bd Try.f25) (by kernel_rfl) (by kernel_rfl) (by kernel_rfl) (by kernel_rfl) ?_
  intro args st k he
  unfold c_laws_markIntSS at he
  split at he
  rotate_left
  · exact he.elim
  rename_i k_ a
  have he : Ok (laws_markIntSS k_ a) (fun r => k (.c (.int .i64 r.1)) [(0, .sl 22 (.sl (.int .i64)) r.2 (.deep true .no))]) := he
  refine ⟨rfl, rfl, ?_⟩
  refine loop_model mixed tys_ok t_laws_markIntSS (S := Int × Int × (List (List Int))) (I := (fun (k_1, i, a1) => (envOf [(0, .c (.own 0)), (1, .c (.int .i64 k_1)), (5, .c (.int .i64 i))], [(0, .sl 22 (.sl (.int .i64)) a1 (.deep true .no))]))) (f := laws_markIntSS_l1) (K := (fun r => k (.c (.int .i64 r.1)) [(0, .sl 22 (.sl (.int .i64)) r.2 (.deep true .no))])) he (leads_ren [] (l := [(0, .c (.own 0)), (1, .c (.int .i64 k_)), (5, .c (.int .i64 (0:Int)))]) (st' := [(0, .sl 22 (.sl (.int .i64)) a (.deep true .no))]) rfl rfl ⟨⟨rfl, rfl⟩, trivial⟩ ⟨⟨rfl, rfl⟩, rfl, rfl, trivial⟩) ?_
  rintro ⟨k_1, i, a1⟩ J1 he
  refine And.intro (fun hb => ?_) (fun hb => ?_)
  · have he := ok_t he hb
    have he := ok_rq he
    refine And.intro he.1 ?_
    have he := he.2
    obtain ⟨r2_, hr, he⟩ := ok_bind he
    refine ⟨r2_, hr, ?_⟩
    have he := ok_rq he
    refine And.intro he.1 ?_
    have he := he.2
    have he := ok_some he
    exact ⟨(r2_.1, (i + (1:Int)), (a1.set i.toNat r2_.2)), he, ((leads_close [0] rfl).trans (leads_ren [] (l := [(0, .c (.own 0)), (1, .c (.int .i64 r2_.1)), (5, .c (.int .i64 (i + (1:Int))))]) (st' := [(0, .sl 22 (.sl (.int .i64)) (a1.set i.toNat r2_.2) (.deep true .no))]) rfl rfl ⟨⟨rfl, rfl⟩, trivial⟩ ⟨⟨rfl, rfl⟩, rfl, rfl, trivial⟩))⟩
  · have he := ok_f he hb
    have he := ok_some he
    exact ⟨rfl, _, _, (leads_ren [] (l := [(4, .c (.int .i64 k_1))]) (st' := [(0, .sl 22 (.sl (.int .i64)) a1 (.deep true .no))]) rfl rfl ⟨⟨rfl, rfl⟩, trivial⟩ ⟨rfl, trivial⟩), he⟩

noncomputable def c_laws_heldIntS : Con := fun args st => match args, st with
  | [.c (.imm (.int .i64) a), .c (.int .i64 k_)], [] => .opt (Int) (laws_heldIntS a k_) (fun r => .ret (.c (.int .i64 r)) [])
  | _, _ => .fail

noncomputable def C_laws_heldIntS : Cfg := { y := tys, n := 21, h := 0, tab := [], cut := [], hand := [], good := [], deep := [], sched := [] }

theorem t_laws_heldIntS : TabOk Try.prog C_laws_heldIntS := tabOk_of (fun p h => by cases h)

theorem k_laws_heldIntS : Entry Try.prog 64 c_laws_heldIntS := by
  refine entry_by (C := C_laws_heldIntS) mixed tys_ok t_laws_heldIntS (fn := Try.f64) (c := bd Try.f64) (by kernel_rfl) (by kernel_rfl) (by kernel_rfl) (by kernel_rfl) ?_
  intro args st k he
  unfold c_laws_heldIntS at he
  split at he
  rotate_left
  · exact he.elim
  rename_i a k_
  have he : Ok (laws_heldIntS a k_) (fun r => k (.c (.int .i64 r)) []) := he
  refine ⟨rfl, rfl, ?_⟩
  refine loop_model mixed tys_ok t_laws_heldIntS (S := Int × Int) (I := (fun (k_1, i) => (envOf [(0, .c (.imm (.int .i64) a)), (1, .c (.int .i64 k_1)), (5, .c (.int .i64 i))], []))) (f := laws_heldIntS_l1 a) (K := (fun r => k (.c (.int .i64 r)) [])) he (leads_ren [] (l := [(0, .c (.imm (.int .i64) a)), (1, .c (.int .i64 k_)), (5, .c (.int .i64 (0:Int)))]) (st' := []) rfl rfl trivial ⟨.inl rfl, rfl, rfl, trivial⟩) ?_
  rintro ⟨k_1, i⟩ J1 he
  refine And.intro (fun hb => ?_) (fun hb => ?_)
  · have he := ok_t he hb
    have he := ok_rq he
    refine And.intro he.1 ?_
    have he := he.2
    refine And.intro (fun hb => ?_) (fun hb => ?_)
    · have he := ok_t he hb
      have he := ok_some he
      exact ⟨rfl, _, _, Leads.refl _ _, he⟩
    · have he := ok_f he hb
      have he := ok_rq he
      refine And.intro he.1 ?_
      have he := he.2
      have he := ok_rq he
      refine And.intro he.1 ?_
      have he := he.2
      have he := ok_some he
      exact ⟨((k_1 + (1:Int)), (i + (1:Int))), he, (leads_ren [] (l := [(0, .c (.imm (.int .i64) a)), (1, .c (.int .i64 (k_1 + (1:Int)))), (5, .c (.int .i64 (i + (1:Int))))]) (st' := []) rfl rfl trivial ⟨.inl rfl, rfl, rfl, trivial⟩)⟩
  · have he := ok_f he hb
    have he := ok_some he
    exact ⟨rfl, _, _, Leads.refl _ _, he⟩

noncomputable def c_laws_heldIntSS : Con := fun args st => match args, st with
  | [.c (.imm (.sl (.int .i64)) a), .c (.int .i64 k_)], [] => .opt (Int) (laws_heldIntSS a k_) (fun r => .ret (.c (.int .i64 r)) [])
  | _, _ => .fail

noncomputable def C_laws_heldIntSS : Cfg := { y := tys, n := 21, h := 0, tab := [(64, c_laws_heldIntS)], cut := [], hand := [], good := [], deep := [], sched := [] }

theorem t_laws_heldIntSS : TabOk Try.prog C_laws_heldIntSS := by
  refine tabOk_of ?_
  simp only [C_laws_heldIntSS, List.forall_mem_cons]
  exact ⟨k_laws_heldIntS, fun p h => by cases h⟩

theorem k_laws_heldIntSS : Entry Try.prog 26 c_laws_heldIntSS := by
  refine entry_by (C := C_laws_heldIntSS) mixed tys_ok t_laws_heldIntSS (fn := Try.f26) (c := bd Try.f26) (by kernel_rfl) (by kernel_rfl) (by kernel_rfl) (by kernel_rfl) ?_
  intro args st k he
  unfold c_laws_heldIntSS at he
  split at he
  rotate_left
  · exact he.elim
  rename_i a k_
  have he : Ok (laws_heldIntSS a k_) (fun r => k (.c (.int .i64 r)) []) := he
  refine ⟨rfl, rfl, ?_⟩
  refine loop_model mixed tys_ok t_laws_heldIntSS (S := Int × Int) (I := (fun (k_1, i) => (envOf [(0, .c (.imm (.sl (.int .i64)) a)), (1, .c (.int .i64 k_1)), (5, .c (.int .i64 i))], []))) (f := laws_heldIntSS_l1 a) (K := (fun r => k (.c (.int .i64 r)) [])) he (leads_ren [] (l := [(0, .c (.imm (.sl (.int .i64)) a)), (1, .c (.int .i64 k_)), (5, .c (.int .i64 (0:Int)))]) (st' := []) rfl rfl trivial ⟨.inl rfl, rfl, rfl, trivial⟩) ?_
  rintro ⟨k_1, i⟩ J1 he
  refine And.intro (fun hb => ?_) (fun hb => ?_)
  · have he := ok_t he hb
    have he := ok_rq he
    refine And.intro he.1 ?_
    have he := he.2
    obtain ⟨r1_, hr, he⟩ := ok_bind he
    refine ⟨r1_, hr, ?_⟩
    refine And.intro (fun hb => ?_) (fun hb => ?_)
    · have he := ok_t he hb
      have he := ok_some he
      exact ⟨rfl, _, _, Leads.refl _ _, he⟩
    · have he := ok_f he hb
      have he := ok_rq he
      refine And.intro he.1 ?_
      have he := he.2
      have he := ok_some he
      exact ⟨(r1_, (i + (1:Int))), he, (leads_ren [] (l := [(0, .c (.imm (.sl (.int .i64)) a)), (1, .c (.int .i64 r1_)), (5, .c (.int .i64 (i + (1:Int))))]) (st' := []) rfl rfl trivial ⟨.inl rfl, rfl, rfl, trivial⟩)⟩
  · have he := ok_f he hb
    have he := ok_some he
    exact ⟨rfl, _, _, Leads.refl _ _, he⟩

noncomputable def c_laws_FnExactSplitCubes : Con := fun args st => match args, st with
  | [.c (.imm (.int .i64) a0)], [] => .opt (Bool) (laws_FnExactSplitCubes a0) (fun r => .ret (.c (.bool r)) [])
  | _, _ => .fail

noncomputable def C_laws_FnExactSplitCubes : Cfg := { y := tys, n := 93, h := 0, tab := [(16, c_laws_toIntS), (19, c_laws_eqIntS), (21, c_spec_SplitCubes), (22, c_impl_SplitCubes), (23, c_laws_eqIntSS), (24, c_laws_markIntS), (25, c_laws_markIntSS), (26, c_laws_heldIntSS)], cut := [], hand := [(24, [0]), (25, [0])], good := [], deep := [], sched := [] }

theorem t_laws_FnExactSplitCubes : TabOk Try.prog C_laws_FnExactSplitCubes := by
  refine tabOk_of ?_
  simp only [C_laws_FnExactSplitCubes, List.forall_mem_cons]
  exact ⟨k_laws_toIntS, k_laws_eqIntS, k_spec_SplitCubes, k_impl_SplitCubes, k_laws_eqIntSS, k_laws_markIntS, k_laws_markIntSS, k_laws_heldIntSS, fun p h => by cases h⟩

theorem k_laws_FnExactSplitCubes : Entry Try.prog 4 c_laws_FnExactSplitCubes := by
  refine entry_by (C := C_laws_FnExactSplitCubes) mixed tys_ok t_laws_FnExactSplitCubes (fn := Try.f4) (c := bd Try.f4) (by kernel_rfl) (by kernel_rfl) (by kernel_rfl) (by kernel_rfl) ?_
  intro args st k he
  unfold c_laws_FnExactSplitCubes at he
  split at he
  rotate_left
  · exact he.elim
  rename_i a0
  have he : Ok (laws_FnExactSplitCubes a0) (fun r => k (.c (.bool r)) []) := he
  refine ⟨rfl, rfl, ?_⟩
  refine And.intro (fun hb => ?_) (fun hb => ?_)
  · have he := ok_t he hb
    have he := ok_some he
    exact ⟨rfl, _, _, Leads.refl _ _, he⟩
  · have he := ok_f he hb
    obtain ⟨r1_, hr, he⟩ := ok_bind he
    refine ⟨r1_, hr, ?_⟩
    obtain ⟨r2_, hr, he⟩ := ok_bind he
    refine ⟨r2_, hr, ?_⟩
    obtain ⟨r3_, hr, he⟩ := ok_bind he
    refine ⟨r3_, hr, ?_⟩
    obtain ⟨r4_, hr, he⟩ := ok_bind he
    refine ⟨r4_, hr, ?_⟩
    obtain ⟨r5_, hr, he⟩ := ok_bind he
    refine ⟨r5_, hr, ?_⟩
    refine And.intro (fun hb => ?_) (fun hb => ?_)
    · have he := ok_f he hb
      refine And.intro (fun hb => ?_) (fun hb => ?_)
      · have he := ok_t he hb
        have he := ok_some he
        exact ⟨rfl, _, _, (leads_ren [] (l := [(2, .c (.bool false))]) (st' := []) rfl rfl trivial ⟨.inr rfl, trivial⟩), he⟩
      · have he := ok_f he hb
        obtain ⟨r6_, hr, he⟩ := ok_bind he
        refine ⟨r6_, hr, ?_⟩
        obtain ⟨r7_, hr, he⟩ := ok_bind he
        refine ⟨r7_, hr, ?_⟩
        refine And.intro (fun hb => ?_) (fun hb => ?_)
        · have he := ok_t he hb
          have he := ok_some he
          exact ⟨rfl, _, _, (leads_ren [] (l := [(2, .c (.bool false))]) (st' := []) rfl rfl trivial ⟨.inr rfl, trivial⟩), he⟩
        · have he := ok_f he hb
          obtain ⟨r8_, hr, he⟩ := ok_bind he
          refine ⟨r8_, hr, ?_⟩
          refine And.intro (fun hb => ?_) (fun hb => ?_)
          · have he := ok_f he hb
            obtain ⟨r9_, hr, he⟩ := ok_bind he
            refine ⟨r9_, hr, ?_⟩
            refine And.intro (fun hb => ?_) (fun hb => ?_)
            · have he := ok_f he hb
              refine And.intro (fun hb => ?_) (fun hb => ?_)
              · have he := ok_t he hb
                have he := ok_some he
                exact ⟨rfl, _, _, (leads_ren [] (l := [(2, .c (.bool false))]) (st' := []) rfl rfl trivial ⟨.inr rfl, trivial⟩), he⟩
              · have he := ok_f he hb
                obtain ⟨r10_, hr, he⟩ := ok_bind he
                refine ⟨r10_, hr, ?_⟩
                obtain ⟨r11_, hr, he⟩ := ok_bind he
                refine ⟨r11_, hr, ?_⟩
                refine And.intro (fun hb => ?_) (fun hb => ?_)
                · have he := ok_t he hb
                  have he := ok_some he
                  exact ⟨rfl, _, _, (leads_ren [] (l := [(2, .c (.bool false))]) (st' := []) rfl rfl trivial ⟨.inr rfl, trivial⟩), he⟩
                · have he := ok_f he hb
                  refine And.intro (fun hb => ?_) (fun hb => ?_)
                  · have he := ok_t he hb
                    have he := ok_some he
                    exact ⟨rfl, _, _, (leads_ren [] (l := [(2, .c (.bool false))]) (st' := []) rfl rfl trivial ⟨.inr rfl, trivial⟩), he⟩
                  · have he := ok_f he hb
                    obtain ⟨r12_, hr, he⟩ := ok_bind he
                    refine ⟨r12_, hr, ?_⟩
                    obtain ⟨r13_, hr, he⟩ := ok_bind he
                    refine ⟨r13_, hr, ?_⟩
                    obtain ⟨r14_, hr, he⟩ := ok_bind he
                    refine ⟨r14_, hr, ?_⟩
                    refine And.intro (fun hb => ?_) (fun hb => ?_)
                    · have he := ok_f he hb
                      refine And.intro (fun hb => ?_) (fun hb => ?_)
                      · have he := ok_t he hb
                        have he := ok_some he
                        exact ⟨rfl, _, _, (leads_ren [] (l := [(2, .c (.bool false))]) (st' := []) rfl rfl trivial ⟨.inr rfl, trivial⟩), he⟩
                      · have he := ok_f he hb
                        obtain ⟨r15_, hr, he⟩ := ok_bind he
                        refine ⟨r15_, hr, ?_⟩
                        refine And.intro (fun hb => ?_) (fun hb => ?_)
                        · have he := ok_t he hb
                          have he := ok_some he
                          exact ⟨rfl, _, _, (leads_ren [] (l := [(2, .c (.bool false))]) (st' := []) rfl rfl trivial ⟨.inr rfl, trivial⟩), he⟩
                        · have he := ok_f he hb
                          refine And.intro (fun hb => ?_) (fun hb => ?_)
                          · have he := ok_t he hb
                            have he := ok_some he
                            exact ⟨rfl, _, _, (leads_ren [] (l := [(2, .c (.bool false))]) (st' := []) rfl rfl trivial ⟨.inr rfl, trivial⟩), he⟩
                          · have he := ok_f he hb
                            have he := ok_some he
                            exact ⟨rfl, _, _, (leads_ren [] (l := [(2, .c (.bool true))]) (st' := []) rfl rfl trivial ⟨.inr rfl, trivial⟩), he⟩
                    · have he := ok_t he hb
                      have he := ok_some he
                      exact ⟨rfl, _, _, (leads_ren [] (l := [(2, .c (.bool false))]) (st' := []) rfl rfl trivial ⟨.inr rfl, trivial⟩), he⟩
            · have he := ok_t he hb
              have he := ok_some he
              exact ⟨rfl, _, _, (leads_ren [] (l := [(2, .c (.bool false))]) (st' := []) rfl rfl trivial ⟨.inr rfl, trivial⟩), he⟩
          · have he := ok_t he hb
            have he := ok_some he
            exact ⟨rfl, _, _, (leads_ren [] (l := [(2, .c (.bool false))]) (st' := []) rfl rfl trivial ⟨.inr rfl, trivial⟩), he⟩
    · have he := ok_t he hb
      have he := ok_some he
      exact ⟨rfl, _, _, (leads_ren [] (l := [(2, .c (.bool false))]) (st' := []) rfl rfl trivial ⟨.inr rfl, trivial⟩), he⟩

noncomputable def c_spec_l17Open : Con := fun args st => match args, st with
  | [.c (.imm (.int .u8) code)], [] => .opt (((List Int) × Int)) (spec_l17Open code) (fun r => .ret (.c (.ptr 900 0)) [(900, .rc [.imm (.int .u8) r.1, .int .i64 r.2])])
  | _, _ => .fail

noncomputable def C_spec_l17Open : Cfg := { y := tys, n := 11, h := 0, tab := [], cut := [3], hand := [], good := [], deep := [], sched := [] }

theorem t_spec_l17Open : TabOk Try.prog C_spec_l17Open := tabOk_of (fun p h => by cases h)

theorem k_spec_l17Open : Entry Try.prog 65 c_spec_l17Open := by
  refine entry_by (C := C_spec_l17Open) mixed tys_ok t_spec_l17Open (fn := Try.f65) (c := bd Try.f65) (by kernel_rfl) (by kernel_rfl) (by kernel_rfl) (by kernel_rfl) ?_
  intro args st k he
  unfold c_spec_l17Open at he
  split at he
  rotate_left
  · exact he.elim
  rename_i code
  have he : Ok (spec_l17Open code) (fun r => k (.c (.ptr 900 0)) [(900, .rc [.imm (.int .u8) r.1, .int .i64 r.2])]) := he
  refine ⟨rfl, rfl, ?_⟩
  refine seq_model mixed tys_ok t_spec_l17Open (S := (List Int)) (I := (fun code1 => (envOf [(0, .c (.imm (.int .u8) code1))], []))) (B := fun s => Ok (spec_l17Open_j1 s) (fun r => k (.c (.ptr 900 0)) [(900, .rc [.imm (.int .u8) r.1, .int .i64 r.2])])) ?_ ?_
  · rintro code1 he
    have he := ok_some he
    exact ⟨rfl, _, _, (leads_ren [(900, 10)] (l := [(2, .c (.ptr 900 0))]) (st' := [(900, .rc [.imm (.int .u8) code1, .int .i64 (0:Int)])]) rfl rfl ⟨⟨.inl rfl, rfl, trivial⟩, trivial⟩ ⟨⟨⟨rfl, rfl⟩, rfl⟩, trivial⟩), he⟩
  · skip
    refine And.intro (fun hb => ?_) (fun hb => ?_)
    · have he := ok_t he hb
      have he := ok_rq he
      refine And.intro he.1 ?_
      have he := he.2
      exact ⟨(code.take (2000:Int).toNat), he, (leads_ren [] (l := [(0, .c (.imm (.int .u8) (code.take (2000:Int).toNat)))]) (st' := []) rfl rfl trivial ⟨.inl rfl, trivial⟩)⟩
    · have he := ok_f he hb
      exact ⟨code, he, (leads_ren [] (l := [(0, .c (.imm (.int .u8) code))]) (st' := []) rfl rfl trivial ⟨.inl rfl, trivial⟩)⟩

noncomputable def c_spec_l17Rd_pick : Con := fun args st => match args, st with
  | [.c (.ptr 0 0), .c (.int .i64 a1)], [(0, .rc [.imm (.int .u8) o0_0, .int .i64 o0_1])] => .opt (Int × ((List Int) × Int)) (spec_l17Rd_pick a1 (o0_0, o0_1)) (fun r => .ret (.c (.int .i64 r.1)) [(0, .rc [.imm (.int .u8) r.2.1, .int .i64 r.2.2])])
  | _, _ => .fail

noncomputable def C_spec_l17Rd_pick : Cfg := { y := tys, n := 99, h := 1, tab := [], cut := [], hand := [], good := [], deep := [], sched := [] }

theorem t_spec_l17Rd_pick : TabOk Try.prog C_spec_l17Rd_pick := tabOk_of (fun p h => by cases h)

theorem k_spec_l17Rd_pick : Entry Try.prog 68 c_spec_l17Rd_pick := by
  refine entry_by (C := C_spec_l17Rd_pick) mixed tys_ok t_spec_l17Rd_pick (fn := Try.f68) (c := bd Try.f68) (by kernel_rfl) (by kernel_rfl) (by kernel_rfl) (by kernel_rfl) ?_
  intro args st k he
  unfold c_spec_l17Rd_pick at he
  split at he
  rotate_left
  · exact he.elim
  rename_i a1 o0_0 o0_1
  have he : Ok (spec_l17Rd_pick a1 (o0_0, o0_1)) (fun r => k (.c (.int .i64 r.1)) [(0, .rc [.imm (.int .u8) r.2.1, .int .i64 r.2.2])]) := he
  refine ⟨rfl, rfl, ?_⟩
  have he := ok_rq he
  refine And.intro he.1 ?_
  have he := he.2
  refine And.intro (fun hb => ?_) (fun hb => ?_)
  · have he := ok_f he hb
    refine And.intro (fun hb => ?_) (fun hb => ?_)
    · have he := ok_t he hb
      have he := ok_some he
      exact ⟨rfl, _, _, (leads_ren [] (l := [(4, .c (.int .i64 (0:Int)))]) (st' := [(0, .rc [.imm (.int .u8) (o0_0, o0_1).1, .int .i64 ((o0_0, o0_1).2 + (1:Int))])]) rfl rfl ⟨⟨.inl rfl, rfl, trivial⟩, trivial⟩ ⟨rfl, trivial⟩), he⟩
    · have he := ok_f he hb
      have he := ok_rq he
      refine And.intro he.1 ?_
      have he := he.2
      refine And.intro (fun hb => ?_) (fun hb => ?_)
      · have he := ok_t he hb
        have he := ok_rq he
        refine And.intro he.1 ?_
        have he := he.2
        refine fun _ => ?_
        have he := ok_rq he
        refine And.intro he.1 ?_
        have he := he.2
        have he := ok_rq he
        refine And.intro he.1 ?_
        have he := he.2
        have he := ok_some he
        exact ⟨rfl, _, _, (leads_ren [] (l := [(4, .c (.int .i64 (((o0_0, o0_1).1.getD (((o0_0, o0_1).2 + (1:Int)) - (1:Int)).toNat 0) % a1)))]) (st' := [(0, .rc [.imm (.int .u8) (o0_0, o0_1).1, .int .i64 ((o0_0, o0_1).2 + (1:Int))])]) rfl rfl ⟨⟨.inl rfl, rfl, trivial⟩, trivial⟩ ⟨rfl, trivial⟩), he⟩
      · have he := ok_f he hb
        refine And.intro (by kernel_rfl) ?_
        have he := ok_rq he
        refine And.intro he.1 ?_
        have he := he.2
        have he := ok_rq he
        refine And.intro he.1 ?_
        have he := he.2
        refine fun _ => ?_
        have he := ok_rq he
        refine And.intro he.1 ?_
        have he := he.2
        have he := ok_rq he
        refine And.intro he.1 ?_
        have he := he.2
        have he := ok_rq he
        refine And.intro he.1 ?_
        have he := he.2
        have he := ok_rq he
        refine And.intro he.1 ?_
        have he := he.2
        have he := ok_rq he
        refine And.intro he.1 ?_
        have he := he.2
        have he := ok_rq he
        refine And.intro he.1 ?_
        have he := he.2
        refine fun _ => ?_
        have he := ok_rq he
        refine And.intro he.1 ?_
        have he := he.2
        have he := ok_rq he
        refine And.intro he.1 ?_
        have he := he.2
        have he := ok_rq he
        refine And.intro he.1 ?_
        have he := he.2
        have he := ok_rq he
        refine And.intro he.1 ?_
        have he := he.2
        have he := ok_rq he
        refine And.intro he.1 ?_
        have he := he.2
        have he := ok_rq he
        refine And.intro he.1 ?_
        have he := he.2
        have he := ok_rq he
        refine And.intro he.1 ?_
        have he := he.2
        have he := ok_rq he
        refine And.intro he.1 ?_
        have he := he.2
        have he := ok_rq he
        refine And.intro he.1 ?_
        have he := he.2
        have he := ok_rq he
        refine And.intro he.1 ?_
        have he := he.2
        have he := ok_rq he
        refine And.intro he.1 ?_
        have he := he.2
        have he := ok_some he
        exact ⟨rfl, _, _, (leads_ren [] (l := [(4, .c (.int .i64 (((((((((o0_0, o0_1).1.getD ((((o0_0, o0_1).2 + (1:Int)) - (1:Int)) % ((o0_0, o0_1).1.length:Int)).toNat 0) * (131:Int)) + (((o0_0, o0_1).1.getD ((((((o0_0, o0_1).2 + (1:Int)) - (1:Int)) * (7:Int)) + (3:Int)) % ((o0_0, o0_1).1.length:Int)).toNat 0) * (1117:Int))) + ((((o0_0, o0_1).2 + (1:Int)) - (1:Int)) * (29:Int))) + (((((o0_0, o0_1).2 + (1:Int)) - (1:Int)) / ((o0_0, o0_1).1.length:Int)) * (53:Int))).toNat ^^^ (((((((o0_0, o0_1).1.getD ((((o0_0, o0_1).2 + (1:Int)) - (1:Int)) % ((o0_0, o0_1).1.length:Int)).toNat 0) * (131:Int)) + (((o0_0, o0_1).1.getD ((((((o0_0, o0_1).2 + (1:Int)) - (1:Int)) * (7:Int)) + (3:Int)) % ((o0_0, o0_1).1.length:Int)).toNat 0) * (1117:Int))) + ((((o0_0, o0_1).2 + (1:Int)) - (1:Int)) * (29:Int))) + (((((o0_0, o0_1).2 + (1:Int)) - (1:Int)) / ((o0_0, o0_1).1.length:Int)) * (53:Int))) / (64:Int)).toNat : Nat) : Int) % a1)))]) (st' := [(0, .rc [.imm (.int .u8) (o0_0, o0_1).1, .int .i64 ((o0_0, o0_1).2 + (1:Int))])]) rfl rfl ⟨⟨.inl rfl, rfl, trivial⟩, trivial⟩ ⟨rfl, trivial⟩), he⟩
  · have he := ok_t he hb
    have he := ok_some he
    exact ⟨rfl, _, _, (leads_ren [] (l := [(4, .c (.int .i64 (0:Int)))]) (st' := [(0, .rc [.imm (.int .u8) (o0_0, o0_1).1, .int .i64 ((o0_0, o0_1).2 + (1:Int))])]) rfl rfl ⟨⟨.inl rfl, rfl, trivial⟩, trivial⟩ ⟨rfl, trivial⟩), he⟩

noncomputable def c_spec_l17Rd_num : Con := fun args st => match args, st with
  | [.c (.ptr 0 0), .c (.imm (.int .i64) list_)], [(0, .rc [.imm (.int .u8) r__0, .int .i64 r__1])] => .opt (Int × ((List Int) × Int)) (spec_l17Rd_num list_ (r__0, r__1)) (fun r => .ret (.c (.int .i64 r.1)) [(0, .rc [.imm (.int .u8) r.2.1, .int .i64 r.2.2])])
  | _, _ => .fail

noncomputable def C_spec_l17Rd_num : Cfg := { y := tys, n := 12, h := 1, tab := [(68, c_spec_l17Rd_pick)], cut := [], hand := [], good := [], deep := [], sched := [] }

theorem t_spec_l17Rd_num : TabOk Try.prog C_spec_l17Rd_num := by
  refine tabOk_of ?_
  simp only [C_spec_l17Rd_num, List.forall_mem_cons]
  exact ⟨k_spec_l17Rd_pick, fun p h => by cases h⟩

theorem k_spec_l17Rd_num : Entry Try.prog 83 c_spec_l17Rd_num := by
  refine entry_by (C := C_spec_l17Rd_num) mixed tys_ok t_spec_l17Rd_num (fn := Try.f83) (c := bd Try.f83) (by kernel_rfl) (by kernel_rfl) (by kernel_rfl) (by kernel_rfl) ?_
  intro args st k he
  unfold c_spec_l17Rd_num at he
  split at he
  rotate_left
  · exact he.elim
  rename_i list_ r__0 r__1
  have he : Ok (spec_l17Rd_num list_ (r__0, r__1)) (fun r => k (.c (.int .i64 r.1)) [(0, .rc [.imm (.int .u8) r.2.1, .int .i64 r.2.2])]) := he
  refine ⟨rfl, rfl, ?_⟩
  obtain ⟨r1_, hr, he⟩ := ok_bind he
  refine ⟨r1_, hr, ?_⟩
  have he := ok_rq he
  refine And.intro he.1 ?_
  have he := he.2
  have he := ok_some he
  exact ⟨rfl, _, _, (leads_ren [] (l := [(4, .c (.int .i64 (list_.getD r1_.1.toNat 0)))]) (st' := [(0, .rc [.imm (.int .u8) r1_.2.1, .int .i64 r1_.2.2])]) rfl rfl ⟨⟨.inl rfl, rfl, trivial⟩, trivial⟩ ⟨rfl, trivial⟩), he⟩

noncomputable def c_spec_l12Draw : Con := fun args st => match args, st with
  | [.c (.ptr 0 0)], [(0, .rc [.imm (.int .u8) r__0, .int .i64 r__1])] => .opt (((List Int) × Int) × (List Int)) (spec_l12Draw (r__0, r__1)) (fun r => .ret (.c (.own 900)) [(0, .rc [.imm (.int .u8) r.1.1, .int .i64 r.1.2]), (900, .sl 3 (.int .i64) r.2 .shallow)])
  | _, _ => .fail

noncomputable def C_spec_l12Draw : Cfg := { y := tys, n := 39, h := 1, tab := [(68, c_spec_l17Rd_pick), (83, c_spec_l17Rd_num)], cut := [7], hand := [], good := [], deep := [], sched := [] }

theorem t_spec_l12Draw : TabOk Try.prog C_spec_l12Draw := by
  refine tabOk_of ?_
  simp only [C_spec_l12Draw, List.forall_mem_cons]
  exact ⟨k_spec_l17Rd_pick, k_spec_l17Rd_num, fun p h => by cases h⟩

theorem k_spec_l12Draw : Entry Try.prog 70 c_spec_l12Draw := by
  refine entry_by (C := C_spec_l12Draw) mixed tys_ok t_spec_l12Draw (fn := Try.f70) (c := bd Try.f70) (by kernel_rfl) (by kernel_rfl) (by kernel_rfl) (by kernel_rfl) ?_
  intro args st k he
  unfold c_spec_l12Draw at he
  split at he
  rotate_left
  · exact he.elim
  rename_i r__0 r__1
  have he : Ok (spec_l12Draw (r__0, r__1)) (fun r => k (.c (.own 900)) [(0, .rc [.imm (.int .u8) r.1.1, .int .i64 r.1.2]), (900, .sl 3 (.int .i64) r.2 .shallow)]) := he
  refine ⟨rfl, rfl, ?_⟩
  refine seq_model mixed tys_ok t_spec_l12Draw (S := ((List Int) × Int) × (List Int)) (I := (fun (r_2, out1) => (envOf [(0, .c (.ptr 0 0)), (3, .c (.own 10001000))], [(0, .rc [.imm (.int .u8) r_2.1, .int .i64 r_2.2]), (10001000, .sl 3 (.int .i64) out1 .shallow)]))) (B := fun s => Ok (spec_l12Draw_j1 s) (fun r => k (.c (.own 900)) [(0, .rc [.imm (.int .u8) r.1.1, .int .i64 r.1.2]), (900, .sl 3 (.int .i64) r.2 .shallow)])) ?_ ?_
  · rintro ⟨r_2, out1⟩ he
    obtain ⟨r3_, hr, he⟩ := ok_bind he
    refine ⟨r3_, hr, ?_⟩
    refine And.intro (fun hb => ?_) (fun hb => ?_)
    · have he := ok_t he hb
      obtain ⟨r4_, hr, he⟩ := ok_bind he
      refine ⟨r4_, hr, ?_⟩
      have he := ok_rq he
      refine And.intro he.1 ?_
      have he := he.2
      have he := ok_some he
      exact ⟨rfl, _, _, (leads_ren [(900, 31)] (l := [(2, .c (.own 900))]) (st' := [(0, .rc [.imm (.int .u8) r4_.2.1, .int .i64 r4_.2.2]), (900, .sl 3 (.int .i64) (out1 ++ [r4_.1]) .shallow)]) rfl rfl ⟨⟨.inl rfl, rfl, trivial⟩, ⟨rfl, rfl⟩, trivial⟩ ⟨⟨rfl, rfl⟩, trivial⟩), he⟩
    · have he := ok_f he hb
      refine And.intro (fun hb => ?_) (fun hb => ?_)
      · have he := ok_t he hb
        have he := ok_some he
        exact ⟨rfl, _, _, (leads_ren [(900, 34)] (l := [(2, .c (.own 900))]) (st' := [(0, .rc [.imm (.int .u8) r3_.2.1, .int .i64 r3_.2.2]), (900, .sl 3 (.int .i64) [(1:Int), (2:Int), (3:Int), (4:Int), (5:Int)] .shallow)]) rfl rfl ⟨⟨.inl rfl, rfl, trivial⟩, ⟨rfl, rfl⟩, trivial⟩ ⟨⟨rfl, rfl⟩, trivial⟩), he⟩
      · have he := ok_f he hb
        refine And.intro (fun hb => ?_) (fun hb => ?_)
        · have he := ok_t he hb
          have he := ok_some he
          exact ⟨rfl, _, _, (leads_ren [(900, 37)] (l := [(2, .c (.own 900))]) (st' := [(0, .rc [.imm (.int .u8) r3_.2.1, .int .i64 r3_.2.2]), (900, .sl 3 (.int .i64) [(2:Int), (4:Int), (6:Int), (12:Int)] .shallow)]) rfl rfl ⟨⟨.inl rfl, rfl, trivial⟩, ⟨rfl, rfl⟩, trivial⟩ ⟨⟨rfl, rfl⟩, trivial⟩), he⟩
        · have he := ok_f he hb
          have he := ok_some he
          exact ⟨rfl, _, _, (leads_ren [(900, 10001000)] (l := [(2, .c (.own 900))]) (st' := [(0, .rc [.imm (.int .u8) r3_.2.1, .int .i64 r3_.2.2]), (900, .sl 3 (.int .i64) out1 .shallow)]) rfl rfl ⟨⟨.inl rfl, rfl, trivial⟩, ⟨rfl, rfl⟩, trivial⟩ ⟨⟨rfl, rfl⟩, trivial⟩), he⟩
  · skip
    refine loop_model mixed tys_ok t_spec_l12Draw (S := Int × ((List Int) × Int) × (List Int)) (I := (fun (v, r_1, out) => (envOf [(0, .c (.ptr 0 0)), (3, .c (.own 10000000)), (4, .c (.int .i64 v))], [(0, .rc [.imm (.int .u8) r_1.1, .int .i64 r_1.2]), (10000000, .sl 3 (.int .i64) out .shallow)]))) (f := spec_l12Draw_l1) (K := (fun r => k (.c (.own 900)) [(0, .rc [.imm (.int .u8) r.1.1, .int .i64 r.1.2]), (900, .sl 3 (.int .i64) r.2 .shallow)])) he (leads_ren [(10000000, 5)] (l := [(0, .c (.ptr 0 0)), (3, .c (.own 10000000)), (4, .c (.int .i64 (1:Int)))]) (st' := [(0, .rc [.imm (.int .u8) (r__0, r__1).1, .int .i64 (r__0, r__1).2]), (10000000, .sl 3 (.int .i64) ([] : List Int) .shallow)]) rfl rfl ⟨⟨.inl rfl, rfl, trivial⟩, ⟨rfl, rfl⟩, trivial⟩ ⟨⟨⟨rfl, rfl⟩, rfl⟩, ⟨rfl, rfl⟩, rfl, trivial⟩) ?_
    rintro ⟨v, r_1, out⟩ J1 he
    refine And.intro (fun hb => ?_) (fun hb => ?_)
    · have he := ok_t he hb
      obtain ⟨r2_, hr, he⟩ := ok_bind he
      refine ⟨r2_, hr, ?_⟩
      refine And.intro (fun hb => ?_) (fun hb => ?_)
      · have he := ok_t he hb
        refine And.intro (fun hb => ?_) (fun hb => ?_)
        · have he := ok_t he hb
          have he := ok_rq he
          refine And.intro he.1 ?_
          have he := he.2
          have he := ok_rq he
          refine And.intro he.1 ?_
          have he := he.2
          have he := ok_some he
          exact ⟨((v + (1:Int)), r2_.2, (out ++ [v])), he, (leads_ren [(10000000, 21)] (l := [(0, .c (.ptr 0 0)), (3, .c (.own 10000000)), (4, .c (.int .i64 (v + (1:Int))))]) (st' := [(0, .rc [.imm (.int .u8) r2_.2.1, .int .i64 r2_.2.2]), (10000000, .sl 3 (.int .i64) (out ++ [v]) .shallow)]) rfl rfl ⟨⟨.inl rfl, rfl, trivial⟩, ⟨rfl, rfl⟩, trivial⟩ ⟨⟨⟨rfl, rfl⟩, rfl⟩, ⟨rfl, rfl⟩, rfl, trivial⟩)⟩
        · have he := ok_f he hb
          have he := ok_rq he
          refine And.intro he.1 ?_
          have he := he.2
          have he := ok_some he
          exact ⟨((v + (1:Int)), r2_.2, out), he, (leads_ren [] (l := [(0, .c (.ptr 0 0)), (3, .c (.own 10000000)), (4, .c (.int .i64 (v + (1:Int))))]) (st' := [(0, .rc [.imm (.int .u8) r2_.2.1, .int .i64 r2_.2.2]), (10000000, .sl 3 (.int .i64) out .shallow)]) rfl rfl ⟨⟨.inl rfl, rfl, trivial⟩, ⟨rfl, rfl⟩, trivial⟩ ⟨⟨⟨rfl, rfl⟩, rfl⟩, ⟨rfl, rfl⟩, rfl, trivial⟩)⟩
      · have he := ok_f he hb
        have he := ok_rq he
        refine And.intro he.1 ?_
        have he := he.2
        have he := ok_some he
        exact ⟨((v + (1:Int)), r2_.2, out), he, (leads_ren [] (l := [(0, .c (.ptr 0 0)), (3, .c (.own 10000000)), (4, .c (.int .i64 (v + (1:Int))))]) (st' := [(0, .rc [.imm (.int .u8) r2_.2.1, .int .i64 r2_.2.2]), (10000000, .sl 3 (.int .i64) out .shallow)]) rfl rfl ⟨⟨.inl rfl, rfl, trivial⟩, ⟨rfl, rfl⟩, trivial⟩ ⟨⟨⟨rfl, rfl⟩, rfl⟩, ⟨rfl, rfl⟩, rfl, trivial⟩)⟩
    · have he := ok_f he hb
      exact ⟨(r_1, out), ok_up he, (leads_ren [(10001000, 10000000)] (l := [(0, .c (.ptr 0 0)), (3, .c (.own 10001000))]) (st' := [(0, .rc [.imm (.int .u8) r_1.1, .int .i64 r_1.2]), (10001000, .sl 3 (.int .i64) out .shallow)]) rfl rfl ⟨⟨.inl rfl, rfl, trivial⟩, ⟨rfl, rfl⟩, trivial⟩ ⟨⟨⟨rfl, rfl⟩, rfl⟩, ⟨rfl, rfl⟩, trivial⟩)⟩

noncomputable def c_spec_l12Signed : Con := fun args st => match args, st with
  | [.c (.ptr 0 0)], [(0, .rc [.imm (.int .u8) r__0, .int .i64 r__1])] => .opt (((List Int) × Int) × (List Int)) (spec_l12Signed (r__0, r__1)) (fun r => .ret (.c (.own 900)) [(0, .rc [.imm (.int .u8) r.1.1, .int .i64 r.1.2]), (900, .sl 3 (.int .i64) r.2 .shallow)])
  | _, _ => .fail

noncomputable def C_spec_l12Signed : Cfg := { y := tys, n := 25, h := 1, tab := [(68, c_spec_l17Rd_pick), (70, c_spec_l12Draw)], cut := [], hand := [], good := [], deep := [], sched := [] }

theorem t_spec_l12Signed : TabOk Try.prog C_spec_l12Signed := by
  refine tabOk_of ?_
  simp only [C_spec_l12Signed, List.forall_mem_cons]
  exact ⟨k_spec_l17Rd_pick, k_spec_l12Draw, fun p h => by cases h⟩

theorem k_spec_l12Signed : Entry Try.prog 66 c_spec_l12Signed := by
  refine entry_by (C := C_spec_l12Signed) mixed tys_ok t_spec_l12Signed (fn := Try.f66) (c := bd Try.f66) (by kernel_rfl) (by kernel_rfl) (by kernel_rfl) (by kernel_rfl) ?_
  intro args st k he
  unfold c_spec_l12Signed at he
  split at he
  rotate_left
  · exact he.elim
  rename_i r__0 r__1
  have he : Ok (spec_l12Signed (r__0, r__1)) (fun r => k (.c (.own 900)) [(0, .rc [.imm (.int .u8) r.1.1, .int .i64 r.1.2]), (900, .sl 3 (.int .i64) r.2 .shallow)]) := he
  refine ⟨rfl, rfl, ?_⟩
  obtain ⟨r1_, hr, he⟩ := ok_bind he
  refine ⟨r1_, hr, ?_⟩
  refine loop_model mixed tys_ok t_spec_l12Signed (S := Int × ((List Int) × Int) × (List Int)) (I := (fun (i, r_1, out) => (envOf [(0, .c (.ptr 0 0)), (3, .c (.own 10000000)), (4, .c (.int .i64 i))], [(0, .rc [.imm (.int .u8) r_1.1, .int .i64 r_1.2]), (10000000, .sl 3 (.int .i64) out .shallow)]))) (f := spec_l12Signed_l1) (K := (fun r => k (.c (.own 900)) [(0, .rc [.imm (.int .u8) r.1.1, .int .i64 r.1.2]), (900, .sl 3 (.int .i64) r.2 .shallow)])) he (leads_ren [(10000000, 7900)] (l := [(0, .c (.ptr 0 0)), (3, .c (.own 10000000)), (4, .c (.int .i64 (0:Int)))]) (st' := [(0, .rc [.imm (.int .u8) r1_.1.1, .int .i64 r1_.1.2]), (10000000, .sl 3 (.int .i64) r1_.2 .shallow)]) rfl rfl ⟨⟨.inl rfl, rfl, trivial⟩, ⟨rfl, rfl⟩, trivial⟩ ⟨⟨⟨rfl, rfl⟩, rfl⟩, ⟨rfl, rfl⟩, rfl, trivial⟩) ?_
  rintro ⟨i, r_1, out⟩ J1 he
  refine And.intro (fun hb => ?_) (fun hb => ?_)
  · have he := ok_t he hb
    obtain ⟨r3_, hr, he⟩ := ok_bind he
    refine ⟨r3_, hr, ?_⟩
    refine And.intro (fun hb => ?_) (fun hb => ?_)
    · have he := ok_t he hb
      have he := ok_rq he
      refine And.intro he.1 ?_
      have he := he.2
      have he := ok_rq he
      refine And.intro he.1 ?_
      have he := he.2
      have he := ok_rq he
      refine And.intro he.1 ?_
      have he := he.2
      have he := ok_rq he
      refine And.intro he.1 ?_
      have he := he.2
      have he := ok_some he
      exact ⟨((i + (1:Int)), r3_.2, (out.set i.toNat (0 - (out.getD i.toNat 0)))), he, (leads_ren [] (l := [(0, .c (.ptr 0 0)), (3, .c (.own 10000000)), (4, .c (.int .i64 (i + (1:Int))))]) (st' := [(0, .rc [.imm (.int .u8) r3_.2.1, .int .i64 r3_.2.2]), (10000000, .sl 3 (.int .i64) (out.set i.toNat (0 - (out.getD i.toNat 0))) .shallow)]) rfl rfl ⟨⟨.inl rfl, rfl, trivial⟩, ⟨rfl, rfl⟩, trivial⟩ ⟨⟨⟨rfl, rfl⟩, rfl⟩, ⟨rfl, rfl⟩, rfl, trivial⟩)⟩
    · have he := ok_f he hb
      have he := ok_rq he
      refine And.intro he.1 ?_
      have he := he.2
      have he := ok_some he
      exact ⟨((i + (1:Int)), r3_.2, out), he, (leads_ren [] (l := [(0, .c (.ptr 0 0)), (3, .c (.own 10000000)), (4, .c (.int .i64 (i + (1:Int))))]) (st' := [(0, .rc [.imm (.int .u8) r3_.2.1, .int .i64 r3_.2.2]), (10000000, .sl 3 (.int .i64) out .shallow)]) rfl rfl ⟨⟨.inl rfl, rfl, trivial⟩, ⟨rfl, rfl⟩, trivial⟩ ⟨⟨⟨rfl, rfl⟩, rfl⟩, ⟨rfl, rfl⟩, rfl, trivial⟩)⟩
  · have he := ok_f he hb
    have he := ok_some he
    exact ⟨rfl, _, _, (leads_ren [(900, 10000000)] (l := [(2, .c (.own 900))]) (st' := [(0, .rc [.imm (.int .u8) r_1.1, .int .i64 r_1.2]), (900, .sl 3 (.int .i64) out .shallow)]) rfl rfl ⟨⟨.inl rfl, rfl, trivial⟩, ⟨rfl, rfl⟩, trivial⟩ ⟨⟨rfl, rfl⟩, trivial⟩), he⟩

noncomputable def c_spec_l1Values : Con := fun args st => match args, st with
  | [.c (.ptr 0 0)], [(0, .rc [.imm (.int .u8) r__0, .int .i64 r__1])] => .opt (((List Int) × Int) × (List Bool)) (spec_l1Values (r__0, r__1)) (fun r => .ret (.c (.own 900)) [(0, .rc [.imm (.int .u8) r.1.1, .int .i64 r.1.2]), (900, .sl 4 .bool r.2 .shallow)])
  | _, _ => .fail

noncomputable def C_spec_l1Values : Cfg := { y := tys, n := 22, h := 1, tab := [(68, c_spec_l17Rd_pick)], cut := [6], hand := [], good := [], deep := [], sched := [] }

theorem t_spec_l1Values : TabOk Try.prog C_spec_l1Values := by
  refine tabOk_of ?_
  simp only [C_spec_l1Values, List.forall_mem_cons]
  exact ⟨k_spec_l17Rd_pick, fun p h => by cases h⟩

theorem k_spec_l1Values : Entry Try.prog 67 c_spec_l1Values := by
  refine entry_by (C := C_spec_l1Values) mixed tys_ok t_spec_l1Values (fn := Try.f67) (c := bd Try.f67) (by kernel_rfl) (by kernel_rfl) (by kernel_rfl) (by kernel_rfl) ?_
  intro args st k he
  unfold c_spec_l1Values at he
  split at he
  rotate_left
  · exact he.elim
  rename_i r__0 r__1
  have he : Ok (spec_l1Values (r__0, r__1)) (fun r => k (.c (.own 900)) [(0, .rc [.imm (.int .u8) r.1.1, .int .i64 r.1.2]), (900, .sl 4 .bool r.2 .shallow)]) := he
  refine ⟨rfl, rfl, ?_⟩
  refine seq_model mixed tys_ok t_spec_l1Values (S := ((List Int) × Int) × (List Bool)) (I := (fun (r_2, out1) => (envOf [(0, .c (.ptr 0 0)), (3, .c (.own 10001000))], [(0, .rc [.imm (.int .u8) r_2.1, .int .i64 r_2.2]), (10001000, .sl 4 .bool out1 .shallow)]))) (B := fun s => Ok (spec_l1Values_j1 s) (fun r => k (.c (.own 900)) [(0, .rc [.imm (.int .u8) r.1.1, .int .i64 r.1.2]), (900, .sl 4 .bool r.2 .shallow)])) ?_ ?_
  · rintro ⟨r_2, out1⟩ he
    obtain ⟨r3_, hr, he⟩ := ok_bind he
    refine ⟨r3_, hr, ?_⟩
    refine And.intro (fun hb => ?_) (fun hb => ?_)
    · have he := ok_t he hb
      have he := ok_rq he
      refine And.intro he.1 ?_
      have he := he.2
      have he := ok_some he
      exact ⟨rfl, _, _, (leads_ren [(900, 20)] (l := [(2, .c (.own 900))]) (st' := [(0, .rc [.imm (.int .u8) r3_.2.1, .int .i64 r3_.2.2]), (900, .sl 4 .bool (out1.take (11:Int).toNat) .shallow)]) rfl rfl ⟨⟨.inl rfl, rfl, trivial⟩, ⟨rfl, rfl⟩, trivial⟩ ⟨⟨rfl, rfl⟩, trivial⟩), he⟩
    · have he := ok_f he hb
      have he := ok_some he
      exact ⟨rfl, _, _, (leads_ren [(900, 10001000)] (l := [(2, .c (.own 900))]) (st' := [(0, .rc [.imm (.int .u8) r3_.2.1, .int .i64 r3_.2.2]), (900, .sl 4 .bool out1 .shallow)]) rfl rfl ⟨⟨.inl rfl, rfl, trivial⟩, ⟨rfl, rfl⟩, trivial⟩ ⟨⟨rfl, rfl⟩, trivial⟩), he⟩
  · skip
    refine loop_model mixed tys_ok t_spec_l1Values (S := Int × ((List Int) × Int) × (List Bool)) (I := (fun (i, r_1, out) => (envOf [(0, .c (.ptr 0 0)), (3, .c (.own 10000000)), (4, .c (.int .i64 i))], [(0, .rc [.imm (.int .u8) r_1.1, .int .i64 r_1.2]), (10000000, .sl 4 .bool out .shallow)]))) (f := spec_l1Values_l1) (K := (fun r => k (.c (.own 900)) [(0, .rc [.imm (.int .u8) r.1.1, .int .i64 r.1.2]), (900, .sl 4 .bool r.2 .shallow)])) he (leads_ren [(10000000, 5)] (l := [(0, .c (.ptr 0 0)), (3, .c (.own 10000000)), (4, .c (.int .i64 (0:Int)))]) (st' := [(0, .rc [.imm (.int .u8) (r__0, r__1).1, .int .i64 (r__0, r__1).2]), (10000000, .sl 4 .bool ([] : List Bool) .shallow)]) rfl rfl ⟨⟨.inl rfl, rfl, trivial⟩, ⟨rfl, rfl⟩, trivial⟩ ⟨⟨⟨rfl, rfl⟩, rfl⟩, ⟨rfl, rfl⟩, rfl, trivial⟩) ?_
    rintro ⟨i, r_1, out⟩ J1 he
    refine And.intro (fun hb => ?_) (fun hb => ?_)
    · have he := ok_t he hb
      obtain ⟨r2_, hr, he⟩ := ok_bind he
      refine ⟨r2_, hr, ?_⟩
      have he := ok_rq he
      refine And.intro he.1 ?_
      have he := he.2
      have he := ok_rq he
      refine And.intro he.1 ?_
      have he := he.2
      have he := ok_some he
      exact ⟨((i + (1:Int)), r2_.2, (out ++ [(r2_.1 == (0:Int))])), he, (leads_ren [(10000000, 15)] (l := [(0, .c (.ptr 0 0)), (3, .c (.own 10000000)), (4, .c (.int .i64 (i + (1:Int))))]) (st' := [(0, .rc [.imm (.int .u8) r2_.2.1, .int .i64 r2_.2.2]), (10000000, .sl 4 .bool (out ++ [(r2_.1 == (0:Int))]) .shallow)]) rfl rfl ⟨⟨.inl rfl, rfl, trivial⟩, ⟨rfl, rfl⟩, trivial⟩ ⟨⟨⟨rfl, rfl⟩, rfl⟩, ⟨rfl, rfl⟩, rfl, trivial⟩)⟩
    · have he := ok_f he hb
      exact ⟨(r_1, out), ok_up he, (leads_ren [(10001000, 10000000)] (l := [(0, .c (.ptr 0 0)), (3, .c (.own 10001000))]) (st' := [(0, .rc [.imm (.int .u8) r_1.1, .int .i64 r_1.2]), (10001000, .sl 4 .bool out .shallow)]) rfl rfl ⟨⟨.inl rfl, rfl, trivial⟩, ⟨rfl, rfl⟩, trivial⟩ ⟨⟨⟨rfl, rfl⟩, rfl⟩, ⟨rfl, rfl⟩, trivial⟩)⟩

noncomputable def c_spec_DrawCubeHolds : Con := fun args st => match args, st with
  | [.c (.imm (.int .u8) code)], [] => .opt ((List Int) × (List Bool)) (spec_DrawCubeHolds code) (fun r => .ret (.tup [.c (.own 900), .c (.own 901)]) [(900, .sl 3 (.int .i64) r.1 .shallow), (901, .sl 4 .bool r.2 .shallow)])
  | _, _ => .fail

noncomputable def C_spec_DrawCubeHolds : Cfg := { y := tys, n := 50, h := 0, tab := [(65, c_spec_l17Open), (66, c_spec_l12Signed), (67, c_spec_l1Values), (68, c_spec_l17Rd_pick), (69, c_spec_l1Abs)], cut := [10], hand := [], good := [], deep := [], sched := [] }

theorem t_spec_DrawCubeHolds : TabOk Try.prog C_spec_DrawCubeHolds := by
  refine tabOk_of ?_
  simp only [C_spec_DrawCubeHolds, List.forall_mem_cons]
  exact ⟨k_spec_l17Open, k_spec_l12Signed, k_spec_l1Values, k_spec_l17Rd_pick, k_spec_l1Abs, fun p h => by cases h⟩

theorem k_spec_DrawCubeHolds : Entry Try.prog 27 c_spec_DrawCubeHolds := by
  refine entry_by (C := C_spec_DrawCubeHolds) mixed tys_ok t_spec_DrawCubeHolds (fn := Try.f27) (c := bd Try.f27) (by kernel_rfl) (by kernel_rfl) (by kernel_rfl) (by kernel_rfl) ?_
  intro args st k he
  unfold c_spec_DrawCubeHolds at he
  split at he
  rotate_left
  · exact he.elim
  rename_i code
  have he : Ok (spec_DrawCubeHolds code) (fun r => k (.tup [.c (.own 900), .c (.own 901)]) [(900, .sl 3 (.int .i64) r.1 .shallow), (901, .sl 4 .bool r.2 .shallow)]) := he
  refine ⟨rfl, rfl, ?_⟩
  obtain ⟨r1_, hr, he⟩ := ok_bind he
  refine ⟨r1_, hr, ?_⟩
  obtain ⟨r2_, hr, he⟩ := ok_bind he
  refine ⟨r2_, hr, ?_⟩
  obtain ⟨r3_, hr, he⟩ := ok_bind he
  refine ⟨r3_, hr, ?_⟩
  refine seq_model mixed tys_ok t_spec_DrawCubeHolds (S := (List Bool)) (I := (fun values1 => (envOf [(5, .c (.own 10001000)), (6, .c (.own 10001001))], [(10001000, .sl 3 (.int .i64) r2_.2 .shallow), (10001001, .sl 4 .bool values1 .shallow)]))) (B := fun s => Ok (spec_DrawCubeHolds_j1 r2_ s) (fun r => k (.tup [.c (.own 900), .c (.own 901)]) [(900, .sl 3 (.int .i64) r.1 .shallow), (901, .sl 4 .bool r.2 .shallow)])) ?_ ?_
  · rintro values1 he
    have he := ok_some he
    exact ⟨rfl, _, _, (leads_ren [(900, 10001000), (901, 10001001)] (l := [(2, .c (.own 900)), (3, .c (.own 901))]) (st' := [(900, .sl 3 (.int .i64) r2_.2 .shallow), (901, .sl 4 .bool values1 .shallow)]) rfl rfl ⟨⟨rfl, rfl⟩, ⟨rfl, rfl⟩, trivial⟩ ⟨⟨rfl, rfl⟩, ⟨rfl, rfl⟩, trivial⟩), he⟩
  · skip
    refine loop_model mixed tys_ok t_spec_DrawCubeHolds (S := Int × ((List Int) × Int) × (List Bool)) (I := (fun (i, r_, values) => (envOf [(4, .c (.ptr 10000000 0)), (5, .c (.own 10000001)), (6, .c (.own 10000002)), (7, .c (.int .i64 i))], [(10000000, .rc [.imm (.int .u8) r_.1, .int .i64 r_.2]), (10000001, .sl 3 (.int .i64) r2_.2 .shallow), (10000002, .sl 4 .bool values .shallow)]))) (f := spec_DrawCubeHolds_l1 r2_) (K := (fun r => k (.tup [.c (.own 900), .c (.own 901)]) [(900, .sl 3 (.int .i64) r.1 .shallow), (901, .sl 4 .bool r.2 .shallow)])) he (leads_ren [(10000000, 11900), (10000001, 13900), (10000002, 15900)] (l := [(4, .c (.ptr 10000000 0)), (5, .c (.own 10000001)), (6, .c (.own 10000002)), (7, .c (.int .i64 (0:Int)))]) (st' := [(10000000, .rc [.imm (.int .u8) r3_.1.1, .int .i64 r3_.1.2]), (10000001, .sl 3 (.int .i64) r2_.2 .shallow), (10000002, .sl 4 .bool r3_.2 .shallow)]) rfl rfl ⟨⟨.inl rfl, rfl, trivial⟩, ⟨rfl, rfl⟩, ⟨rfl, rfl⟩, trivial⟩ ⟨⟨⟨rfl, rfl⟩, rfl⟩, ⟨rfl, rfl⟩, ⟨rfl, rfl⟩, rfl, trivial⟩) ?_
    rintro ⟨i, r_, values⟩ J1 he
    refine And.intro (fun hb => ?_) (fun hb => ?_)
    · have he := ok_t he hb
      obtain ⟨r6_, hr, he⟩ := ok_bind he
      refine ⟨r6_, hr, ?_⟩
      refine And.intro (fun hb => ?_) (fun hb => ?_)
      · have he := ok_t he hb
        have he := ok_rq he
        refine And.intro he.1 ?_
        have he := he.2
        obtain ⟨r7_, hr, he⟩ := ok_bind he
        refine ⟨r7_, hr, ?_⟩
        refine And.intro (fun hb => ?_) (fun hb => ?_)
        · have he := ok_t he hb
          refine And.intro (fun hb => ?_) (fun hb => ?_)
          · have he := ok_t he hb
            have he := ok_rq he
            refine And.intro he.1 ?_
            have he := he.2
            have he := ok_rq he
            refine And.intro he.1 ?_
            have he := he.2
            have he := ok_rq he
            refine And.intro he.1 ?_
            have he := he.2
            have he := ok_rq he
            refine And.intro he.1 ?_
            have he := he.2
            have he := ok_some he
            exact ⟨((i + (1:Int)), r6_.2, (values.set (r7_ - (1:Int)).toNat (decide ((0:Int) < (r2_.2.getD i.toNat 0))))), he, (leads_ren [] (l := [(4, .c (.ptr 10000000 0)), (5, .c (.own 10000001)), (6, .c (.own 10000002)), (7, .c (.int .i64 (i + (1:Int))))]) (st' := [(10000000, .rc [.imm (.int .u8) r6_.2.1, .int .i64 r6_.2.2]), (10000001, .sl 3 (.int .i64) r2_.2 .shallow), (10000002, .sl 4 .bool (values.set (r7_ - (1:Int)).toNat (decide ((0:Int) < (r2_.2.getD i.toNat 0)))) .shallow)]) rfl rfl ⟨⟨.inl rfl, rfl, trivial⟩, ⟨rfl, rfl⟩, ⟨rfl, rfl⟩, trivial⟩ ⟨⟨⟨rfl, rfl⟩, rfl⟩, ⟨rfl, rfl⟩, ⟨rfl, rfl⟩, rfl, trivial⟩)⟩
          · have he := ok_f he hb
            have he := ok_rq he
            refine And.intro he.1 ?_
            have he := he.2
            have he := ok_some he
            exact ⟨((i + (1:Int)), r6_.2, values), he, (leads_ren [] (l := [(4, .c (.ptr 10000000 0)), (5, .c (.own 10000001)), (6, .c (.own 10000002)), (7, .c (.int .i64 (i + (1:Int))))]) (st' := [(10000000, .rc [.imm (.int .u8) r6_.2.1, .int .i64 r6_.2.2]), (10000001, .sl 3 (.int .i64) r2_.2 .shallow), (10000002, .sl 4 .bool values .shallow)]) rfl rfl ⟨⟨.inl rfl, rfl, trivial⟩, ⟨rfl, rfl⟩, ⟨rfl, rfl⟩, trivial⟩ ⟨⟨⟨rfl, rfl⟩, rfl⟩, ⟨rfl, rfl⟩, ⟨rfl, rfl⟩, rfl, trivial⟩)⟩
        · have he := ok_f he hb
          have he := ok_rq he
          refine And.intro he.1 ?_
          have he := he.2
          have he := ok_some he
          exact ⟨((i + (1:Int)), r6_.2, values), he, (leads_ren [] (l := [(4, .c (.ptr 10000000 0)), (5, .c (.own 10000001)), (6, .c (.own 10000002)), (7, .c (.int .i64 (i + (1:Int))))]) (st' := [(10000000, .rc [.imm (.int .u8) r6_.2.1, .int .i64 r6_.2.2]), (10000001, .sl 3 (.int .i64) r2_.2 .shallow), (10000002, .sl 4 .bool values .shallow)]) rfl rfl ⟨⟨.inl rfl, rfl, trivial⟩, ⟨rfl, rfl⟩, ⟨rfl, rfl⟩, trivial⟩ ⟨⟨⟨rfl, rfl⟩, rfl⟩, ⟨rfl, rfl⟩, ⟨rfl, rfl⟩, rfl, trivial⟩)⟩
      · have he := ok_f he hb
        exact ⟨values, ok_up he, (leads_ren [(10001000, 10000001), (10001001, 10000002)] (l := [(5, .c (.own 10001000)), (6, .c (.own 10001001))]) (st' := [(10001000, .sl 3 (.int .i64) r2_.2 .shallow), (10001001, .sl 4 .bool values .shallow)]) rfl rfl ⟨⟨rfl, rfl⟩, ⟨rfl, rfl⟩, trivial⟩ ⟨⟨rfl, rfl⟩, ⟨rfl, rfl⟩, trivial⟩)⟩
    · have he := ok_f he hb
      exact ⟨values, ok_up he, (leads_ren [(10001000, 10000001), (10001001, 10000002)] (l := [(5, .c (.own 10001000)), (6, .c (.own 10001001))]) (st' := [(10001000, .sl 3 (.int .i64) r2_.2 .shallow), (10001001, .sl 4 .bool values .shallow)]) rfl rfl ⟨⟨rfl, rfl⟩, ⟨rfl, rfl⟩, trivial⟩ ⟨⟨rfl, rfl⟩, ⟨rfl, rfl⟩, trivial⟩)⟩

end Go.AE.Y
