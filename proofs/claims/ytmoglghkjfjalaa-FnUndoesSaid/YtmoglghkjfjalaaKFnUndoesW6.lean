/- Walks. -/
import Derived.Test.YtmoglghkjfjalaaKFnUndoesE
import Derived.Test.YtmoglghkjfjalaaKFnUndoesW0
import Derived.Test.YtmoglghkjfjalaaKFnUndoesW3
import Derived.Test.YtmoglghkjfjalaaKFnUndoesW4
import Derived.Test.YtmoglghkjfjalaaKFnUndoesW5
set_option linter.unusedVariables false
set_option linter.unusedSimpArgs false
set_option maxHeartbeats 8000000
set_option maxRecDepth 100000
namespace Go.TV.KFnUndoes
attribute [local irreducible] anyV wpV opsV Does thenV blockV RetL quV seqV
open Go.Proofs.Try Go.TV.F
theorem W_impl_WeaveOk (w : T_impl_Weave) (r' : Bool) (h0' : impl_WeaveOk w = some r') : Fn X 74 [.agg [.list false 1 (List.map (rL false 1 (rK .i64)) w.Parents), .list false 4 (List.map (r_T_impl_Body false) w.Bodies)]] [.one (.sc (.bool r'))] [] := by
  have H' := And.intro t3 (And.intro t30 (And.intro t31 (And.intro t33 (And.intro R_Li64 (And.intro R_T_impl_Body (And.intro R_i64 (R_u64)))))))
  unfold impl_WeaveOk at h0'
  refine Fn.start (fn := f74) (N := 19) (res := [.tmp 2]) rfl rfl rfl rfl rfl (by simp) ?_
  refine enterG H' ?_
  refine wpV_seq1 ?_
  refine wpV_region ?_
  refine ops H' ?_
  refine opsN ?_
  refine wpV_seq1 ?_
  obtain ⟨b, gh0_1_0, h0'⟩ := Option.bind_eq_some_iff.1 h0'
  obtain ⟨b_1, gh1_1_0, h0'⟩ := Option.bind_eq_some_iff.1 h0'
  refine wpV_J (fun e' => e' = { N := 19, np := 2, nx := 2, sl := [(2, .pl (.one (.v (.sc (.bool b_1)))))], ob := [] }) ?_ ?_
  · rcases Bool.eq_false_or_eq_true (decide ((w.Bodies.length : Int) ≤ 300)) with hc4_1_0 | hc4_1_0
    · replace gh0_1_0 := (ifT hc4_1_0).symm.trans gh0_1_0
      obtain ⟨x10, hy_x10, gh0_1_0⟩ := Option.bind_eq_some_iff.1 gh0_1_0
      obtain rfl := Option.some.inj gh0_1_0
      rcases Bool.eq_false_or_eq_true x10 with hc9_1_0 | hc9_1_0
      · replace gh1_1_0 := (ifT hc9_1_0).symm.trans gh1_1_0
        obtain ⟨x16, hy_x16, gh1_1_0⟩ := Option.bind_eq_some_iff.1 gh1_1_0
        obtain ⟨x17, hy_x17, gh1_1_0⟩ := Option.bind_eq_some_iff.1 gh1_1_0
        obtain rfl := Option.some.inj gh1_1_0
        refine regAnyF [(1, 4, .pl (.one (.v (.list false 4 (List.map (r_T_impl_Body false) w.Bodies))))), (2, 5, .pl (.one (.v (.sc (.int .i64 (w.Bodies.length : Int)))))), (3, 6, .pl (.one (.v (.sc (.bool (decide ((w.Bodies.length : Int) ≤ 300))))))), (4, 7, .pl (.one (.v (.sc (.bool (decide ((w.Bodies.length : Int) ≤ 300))))))), (6, 9, .pl (.one (.v (.list false 1 (List.map (rL false 1 (rK .i64)) w.Parents))))), (7, 10, .pl (.one (.v (.sc (.bool x10))))), (8, 11, .pl (.one (.v (.sc (.bool x10))))), (9, 12, .pl (.one (.v (.sc (.bool x10))))), (10, 13, .pl (.agg [.v (.list false 1 (List.map (rL false 1 (rK .i64)) w.Parents)), .v (.list false 4 (List.map (r_T_impl_Body false) w.Bodies))])), (12, 15, .pl (.one (.v (.list false 1 (List.map (rL false 1 (rK .i64)) w.Parents))))), (14, 17, .pl (.one (.v (.sc (.bool x17))))), (15, 18, .pl (.one (.v (.sc (.bool x17)))))] ?_
        refine (?_ : anyF X ?ops1_0_0 _ _ ?P1_0_0 _)
        have d1_0_0_0' : anyF X ?ops1_0_0 [0, 1, 2, 3, 4, 5, 6, 7, 8, 9, 10, 11, 12, 13, 14, 15, 16] [] ?P1_0_0 { N := 19, np := 2, nx := 2, sl := [(2, .pl (.one (.v (.sc (.bool x17)))))], ob := [] } := by
          refine fend (e2 := { N := 19, np := 2, nx := 2, sl := [(2, .pl (.one (.v (.sc (.bool x17)))))], ob := [] }) [] [] [] [] trivial ⟨rfl, shd [2] [] 2 rfl⟩
        have d1_0_0_1' : anyF X ?ops1_0_0 [0, 1, 2, 3, 4, 5, 6, 7, 8, 9, 11, 12, 13] [(10, 13, .pl (.agg [.v (.list false 1 (List.map (rL false 1 (rK .i64)) w.Parents)), .v (.list false 4 (List.map (r_T_impl_Body false) w.Bodies))])), (14, 17, .pl (.one (.v (.sc (.bool x17))))), (15, 18, .pl (.one (.v (.sc (.bool x17)))))] ?P1_0_0 { N := 19, np := 2, nx := 4, sl := [(1, .pl (.one (.ref 2 []))), (12, .pl (.one (.v (.sc (.bool x10))))), (16, .pl (.one (.ref 3 [])))], ob := [(2, .box true [.list false 1 (List.map (rL false 1 (rK .i64)) w.Parents), .list false 4 (List.map (r_T_impl_Body false) w.Bodies)]), (3, .list true 1 (List.map (rK .u64) x16))] } := by
          refine fnode [10, 14, 15] [.q 10 13 (.pl (.agg [.v (.list false 1 (List.map (rL false 1 (rK .i64)) w.Parents)), .v (.list false 4 (List.map (r_T_impl_Body false) w.Bodies))])) [], .q 14 17 (.pl (.one (.v (.sc (.bool x17))))) [10], .q 15 18 (.pl (.one (.v (.sc (.bool x17))))) [14], .m 16 [10, 14, 15] [0, 1, 2, 3, 4, 5, 6, 7, 8, 9, 10, 11, 12, 13, 14, 15, 16] []] [(10, 13), (14, 17), (15, 18)] [(10, true, [], []), (14, true, [10], []), (15, true, [14], []), (16, false, [10, 14, 15], [0, 1, 2, 3, 4, 5, 6, 7, 8, 9, 10, 11, 12, 13, 14, 15, 16])] ⟨?_, ?_, ?_, ?_, trivial⟩
          · refine obQ 0 { N := 19, np := 2, nx := 4, sl := [(1, .pl (.one (.ref 2 []))), (12, .pl (.one (.v (.sc (.bool x10))))), (16, .pl (.one (.ref 3 [])))], ob := [(2, .box true [.list false 1 (List.map (rL false 1 (rK .i64)) w.Parents), .list false 4 (List.map (r_T_impl_Body false) w.Bodies)]), (3, .list true 1 (List.map (rK .u64) x16))] } ?_
            refine opsOn hc9_1_0 ?_
            refine ops H' ?_
            refine opsV_nil ⟨rfl, shd [13, 1, 12, 16] [(2, 2), (3, 3)] 4 rfl⟩
          · refine obQ 1 { N := 19, np := 2, nx := 4, sl := [(13, .pl (.agg [.v (.list false 1 (List.map (rL false 1 (rK .i64)) w.Parents)), .v (.list false 4 (List.map (r_T_impl_Body false) w.Bodies))])), (1, .pl (.one (.ref 2 []))), (12, .pl (.one (.v (.sc (.bool x10))))), (16, .pl (.one (.ref 3 [])))], ob := [(2, .box true [.list false 1 (List.map (rL false 1 (rK .i64)) w.Parents), .list false 4 (List.map (r_T_impl_Body false) w.Bodies)]), (3, .list true 1 (List.map (rK .u64) x16))] } ?_
            refine opsOn hc9_1_0 ?_
            refine callG H' (fun _ => []) (W_impl_bodiesOk _ _ _ hy_x17) ?_
            refine opsV_nil ⟨rfl, shd [17, 1, 12, 16] [(2, 2), (3, 3)] 4 rfl⟩
          · refine obQ 2 { N := 19, np := 2, nx := 4, sl := [(17, .pl (.one (.v (.sc (.bool x17))))), (1, .pl (.one (.ref 2 []))), (12, .pl (.one (.v (.sc (.bool x10))))), (16, .pl (.one (.ref 3 [])))], ob := [(2, .box true [.list false 1 (List.map (rL false 1 (rK .i64)) w.Parents), .list false 4 (List.map (r_T_impl_Body false) w.Bodies)]), (3, .list true 1 (List.map (rK .u64) x16))] } ?_
            refine opsPick H' hc9_1_0 ?_
            refine opsV_nil ⟨rfl, shd [18, 1, 12, 16] [(2, 2), (3, 3)] 4 rfl⟩
          · refine obM { N := 19, np := 2, nx := 4, sl := [(13, .pl (.agg [.v (.list false 1 (List.map (rL false 1 (rK .i64)) w.Parents)), .v (.list false 4 (List.map (r_T_impl_Body false) w.Bodies))])), (17, .pl (.one (.v (.sc (.bool x17))))), (18, .pl (.one (.v (.sc (.bool x17))))), (1, .pl (.one (.ref 2 []))), (12, .pl (.one (.v (.sc (.bool x10))))), (16, .pl (.one (.ref 3 [])))], ob := [(2, .box true [.list false 1 (List.map (rL false 1 (rK .i64)) w.Parents), .list false 4 (List.map (r_T_impl_Body false) w.Bodies)]), (3, .list true 1 (List.map (rK .u64) x16))] } ?_
            refine ops H' ?_
            refine opsV_nil ⟨rfl, .inl ⟨rfl, ?_⟩⟩
            exact anyFShd [2] [] 2 d1_0_0_0'
        have d1_0_0_2' : anyF X ?ops1_0_0 [0, 1, 2, 3, 4, 5, 6, 7, 8, 9, 11] [(10, 13, .pl (.agg [.v (.list false 1 (List.map (rL false 1 (rK .i64)) w.Parents)), .v (.list false 4 (List.map (r_T_impl_Body false) w.Bodies))])), (12, 15, .pl (.one (.v (.list false 1 (List.map (rL false 1 (rK .i64)) w.Parents))))), (14, 17, .pl (.one (.v (.sc (.bool x17))))), (15, 18, .pl (.one (.v (.sc (.bool x17)))))] ?P1_0_0 { N := 19, np := 2, nx := 3, sl := [(1, .pl (.one (.ref 2 []))), (12, .pl (.one (.v (.sc (.bool x10))))), (14, .pl (.one (.addr 2 [] 0 0 0)))], ob := [(2, .box true [.list false 1 (List.map (rL false 1 (rK .i64)) w.Parents), .list false 4 (List.map (r_T_impl_Body false) w.Bodies)])] } := by
          refine fnode [10, 12] [.q 10 13 (.pl (.agg [.v (.list false 1 (List.map (rL false 1 (rK .i64)) w.Parents)), .v (.list false 4 (List.map (r_T_impl_Body false) w.Bodies))])) [], .q 12 15 (.pl (.one (.v (.list false 1 (List.map (rL false 1 (rK .i64)) w.Parents))))) [], .m 13 [12] [0, 1, 2, 3, 4, 5, 6, 7, 8, 9, 11, 12, 13] [(10, 13, .pl (.agg [.v (.list false 1 (List.map (rL false 1 (rK .i64)) w.Parents)), .v (.list false 4 (List.map (r_T_impl_Body false) w.Bodies))])), (14, 17, .pl (.one (.v (.sc (.bool x17))))), (15, 18, .pl (.one (.v (.sc (.bool x17)))))]] [(10, 13), (12, 15), (14, 17), (15, 18)] [(10, true, [], []), (12, true, [], []), (13, false, [12], [0, 1, 2, 3, 4, 5, 6, 7, 8, 9, 11, 12, 13])] ⟨?_, ?_, ?_, trivial⟩
          · refine obQ 0 { N := 19, np := 2, nx := 3, sl := [(1, .pl (.one (.ref 2 []))), (12, .pl (.one (.v (.sc (.bool x10))))), (14, .pl (.one (.addr 2 [] 0 0 0)))], ob := [(2, .box true [.list false 1 (List.map (rL false 1 (rK .i64)) w.Parents), .list false 4 (List.map (r_T_impl_Body false) w.Bodies)])] } ?_
            refine opsOn hc9_1_0 ?_
            refine ops H' ?_
            refine opsV_nil ⟨rfl, shd [13, 1, 12, 14] [(2, 2)] 3 rfl⟩
          · refine obQ 1 { N := 19, np := 2, nx := 3, sl := [(1, .pl (.one (.ref 2 []))), (12, .pl (.one (.v (.sc (.bool x10))))), (14, .pl (.one (.addr 2 [] 0 0 0)))], ob := [(2, .box true [.list false 1 (List.map (rL false 1 (rK .i64)) w.Parents), .list false 4 (List.map (r_T_impl_Body false) w.Bodies)])] } ?_
            refine opsOn hc9_1_0 ?_
            refine ops H' ?_
            refine opsV_nil ⟨rfl, shd [15, 1, 12, 14] [(2, 2)] 3 rfl⟩
          · refine obM { N := 19, np := 2, nx := 3, sl := [(15, .pl (.one (.v (.list false 1 (List.map (rL false 1 (rK .i64)) w.Parents))))), (1, .pl (.one (.ref 2 []))), (12, .pl (.one (.v (.sc (.bool x10))))), (14, .pl (.one (.addr 2 [] 0 0 0)))], ob := [(2, .box true [.list false 1 (List.map (rL false 1 (rK .i64)) w.Parents), .list false 4 (List.map (r_T_impl_Body false) w.Bodies)])] } ?_
            refine opsOn hc9_1_0 ?_
            refine callG H' (fun _ => []) (W_impl_closures _ _ hy_x16) ?_
            refine opsV_nil ⟨rfl, .inl ⟨rfl, ?_⟩⟩
            exact anyFShd [1, 12, 16] [(2, 2), (3, 3)] 4 d1_0_0_1'
        have d1_0_0_3' : anyF X ?ops1_0_0 [0, 1, 2, 3, 4, 5] [(6, 9, .pl (.one (.v (.list false 1 (List.map (rL false 1 (rK .i64)) w.Parents))))), (7, 10, .pl (.one (.v (.sc (.bool x10))))), (8, 11, .pl (.one (.v (.sc (.bool x10))))), (9, 12, .pl (.one (.v (.sc (.bool x10))))), (10, 13, .pl (.agg [.v (.list false 1 (List.map (rL false 1 (rK .i64)) w.Parents)), .v (.list false 4 (List.map (r_T_impl_Body false) w.Bodies))])), (12, 15, .pl (.one (.v (.list false 1 (List.map (rL false 1 (rK .i64)) w.Parents))))), (14, 17, .pl (.one (.v (.sc (.bool x17))))), (15, 18, .pl (.one (.v (.sc (.bool x17)))))] ?P1_0_0 { N := 19, np := 2, nx := 3, sl := [(1, .pl (.one (.ref 2 []))), (7, .pl (.one (.v (.sc (.bool (decide ((w.Bodies.length : Int) ≤ 300))))))), (8, .pl (.one (.addr 2 [] 0 0 0)))], ob := [(2, .box true [.list false 1 (List.map (rL false 1 (rK .i64)) w.Parents), .list false 4 (List.map (r_T_impl_Body false) w.Bodies)])] } := by
          refine fnode [6, 7, 8, 9, 10] [.q 6 9 (.pl (.one (.v (.list false 1 (List.map (rL false 1 (rK .i64)) w.Parents))))) [], .q 7 10 (.pl (.one (.v (.sc (.bool x10))))) [6], .q 8 11 (.pl (.one (.v (.sc (.bool x10))))) [7], .q 9 12 (.pl (.one (.v (.sc (.bool x10))))) [7, 8], .q 10 13 (.pl (.agg [.v (.list false 1 (List.map (rL false 1 (rK .i64)) w.Parents)), .v (.list false 4 (List.map (r_T_impl_Body false) w.Bodies))])) [9], .m 11 [9, 7, 8, 6] [0, 1, 2, 3, 4, 5, 6, 7, 8, 9, 11] [(10, 13, .pl (.agg [.v (.list false 1 (List.map (rL false 1 (rK .i64)) w.Parents)), .v (.list false 4 (List.map (r_T_impl_Body false) w.Bodies))])), (12, 15, .pl (.one (.v (.list false 1 (List.map (rL false 1 (rK .i64)) w.Parents))))), (14, 17, .pl (.one (.v (.sc (.bool x17))))), (15, 18, .pl (.one (.v (.sc (.bool x17)))))]] [(6, 9), (7, 10), (8, 11), (9, 12), (10, 13), (12, 15), (14, 17), (15, 18)] [(6, true, [], []), (7, true, [6], []), (8, true, [7], []), (9, true, [7, 8], []), (10, true, [9], []), (11, false, [9, 7, 8, 6], [0, 1, 2, 3, 4, 5, 6, 7, 8, 9, 11])] ⟨?_, ?_, ?_, ?_, ?_, ?_, trivial⟩
          · refine obQ 0 { N := 19, np := 2, nx := 3, sl := [(1, .pl (.one (.ref 2 []))), (7, .pl (.one (.v (.sc (.bool (decide ((w.Bodies.length : Int) ≤ 300))))))), (8, .pl (.one (.addr 2 [] 0 0 0)))], ob := [(2, .box true [.list false 1 (List.map (rL false 1 (rK .i64)) w.Parents), .list false 4 (List.map (r_T_impl_Body false) w.Bodies)])] } ?_
            refine opsOn hc4_1_0 ?_
            refine ops H' ?_
            refine opsV_nil ⟨rfl, shd [9, 1, 7, 8] [(2, 2)] 3 rfl⟩
          · refine obQ 1 { N := 19, np := 2, nx := 3, sl := [(9, .pl (.one (.v (.list false 1 (List.map (rL false 1 (rK .i64)) w.Parents))))), (1, .pl (.one (.ref 2 []))), (7, .pl (.one (.v (.sc (.bool (decide ((w.Bodies.length : Int) ≤ 300))))))), (8, .pl (.one (.addr 2 [] 0 0 0)))], ob := [(2, .box true [.list false 1 (List.map (rL false 1 (rK .i64)) w.Parents), .list false 4 (List.map (r_T_impl_Body false) w.Bodies)])] } ?_
            refine opsOn hc4_1_0 ?_
            refine callG H' (fun _ => []) (W_impl_GraphOk _ _ hy_x10) ?_
            refine opsV_nil ⟨rfl, shd [10, 1, 7, 8] [(2, 2)] 3 rfl⟩
          · refine obQ 2 { N := 19, np := 2, nx := 3, sl := [(10, .pl (.one (.v (.sc (.bool x10))))), (1, .pl (.one (.ref 2 []))), (7, .pl (.one (.v (.sc (.bool (decide ((w.Bodies.length : Int) ≤ 300))))))), (8, .pl (.one (.addr 2 [] 0 0 0)))], ob := [(2, .box true [.list false 1 (List.map (rL false 1 (rK .i64)) w.Parents), .list false 4 (List.map (r_T_impl_Body false) w.Bodies)])] } ?_
            refine opsPick H' hc4_1_0 ?_
            refine opsV_nil ⟨rfl, shd [11, 1, 7, 8] [(2, 2)] 3 rfl⟩
          · refine obQ 3 { N := 19, np := 2, nx := 3, sl := [(10, .pl (.one (.v (.sc (.bool x10))))), (11, .pl (.one (.v (.sc (.bool x10))))), (1, .pl (.one (.ref 2 []))), (7, .pl (.one (.v (.sc (.bool (decide ((w.Bodies.length : Int) ≤ 300))))))), (8, .pl (.one (.addr 2 [] 0 0 0)))], ob := [(2, .box true [.list false 1 (List.map (rL false 1 (rK .i64)) w.Parents), .list false 4 (List.map (r_T_impl_Body false) w.Bodies)])] } ?_
            refine ops H' ?_
            refine opsV_nil ⟨rfl, shd [12, 1, 7, 8] [(2, 2)] 3 rfl⟩
          · refine obQ 4 { N := 19, np := 2, nx := 3, sl := [(12, .pl (.one (.v (.sc (.bool x10))))), (1, .pl (.one (.ref 2 []))), (7, .pl (.one (.v (.sc (.bool (decide ((w.Bodies.length : Int) ≤ 300))))))), (8, .pl (.one (.addr 2 [] 0 0 0)))], ob := [(2, .box true [.list false 1 (List.map (rL false 1 (rK .i64)) w.Parents), .list false 4 (List.map (r_T_impl_Body false) w.Bodies)])] } ?_
            refine opsOn hc9_1_0 ?_
            refine ops H' ?_
            refine opsV_nil ⟨rfl, shd [13, 1, 7, 8] [(2, 2)] 3 rfl⟩
          · refine obM { N := 19, np := 2, nx := 3, sl := [(9, .pl (.one (.v (.list false 1 (List.map (rL false 1 (rK .i64)) w.Parents))))), (10, .pl (.one (.v (.sc (.bool x10))))), (11, .pl (.one (.v (.sc (.bool x10))))), (12, .pl (.one (.v (.sc (.bool x10))))), (1, .pl (.one (.ref 2 []))), (7, .pl (.one (.v (.sc (.bool (decide ((w.Bodies.length : Int) ≤ 300))))))), (8, .pl (.one (.addr 2 [] 0 0 0)))], ob := [(2, .box true [.list false 1 (List.map (rL false 1 (rK .i64)) w.Parents), .list false 4 (List.map (r_T_impl_Body false) w.Bodies)])] } ?_
            refine opsOn hc9_1_0 ?_
            refine ops H' ?_
            refine opsV_nil ⟨rfl, .inl ⟨rfl, ?_⟩⟩
            exact anyFShd [1, 12, 14] [(2, 2)] 3 d1_0_0_2'
        have d1_0_0_4' : anyF X ?ops1_0_0 [0] [(1, 4, .pl (.one (.v (.list false 4 (List.map (r_T_impl_Body false) w.Bodies))))), (2, 5, .pl (.one (.v (.sc (.int .i64 (w.Bodies.length : Int)))))), (3, 6, .pl (.one (.v (.sc (.bool (decide ((w.Bodies.length : Int) ≤ 300))))))), (4, 7, .pl (.one (.v (.sc (.bool (decide ((w.Bodies.length : Int) ≤ 300))))))), (6, 9, .pl (.one (.v (.list false 1 (List.map (rL false 1 (rK .i64)) w.Parents))))), (7, 10, .pl (.one (.v (.sc (.bool x10))))), (8, 11, .pl (.one (.v (.sc (.bool x10))))), (9, 12, .pl (.one (.v (.sc (.bool x10))))), (10, 13, .pl (.agg [.v (.list false 1 (List.map (rL false 1 (rK .i64)) w.Parents)), .v (.list false 4 (List.map (r_T_impl_Body false) w.Bodies))])), (12, 15, .pl (.one (.v (.list false 1 (List.map (rL false 1 (rK .i64)) w.Parents))))), (14, 17, .pl (.one (.v (.sc (.bool x17))))), (15, 18, .pl (.one (.v (.sc (.bool x17)))))] ?P1_0_0 { N := 19, np := 2, nx := 3, sl := [(1, .pl (.one (.ref 2 []))), (3, .pl (.one (.addr 2 [] 0 0 1)))], ob := [(2, .box true [.list false 1 (List.map (rL false 1 (rK .i64)) w.Parents), .list false 4 (List.map (r_T_impl_Body false) w.Bodies)])] } := by
          refine fnode [1, 2, 3, 4] [.q 1 4 (.pl (.one (.v (.list false 4 (List.map (r_T_impl_Body false) w.Bodies))))) [], .q 2 5 (.pl (.one (.v (.sc (.int .i64 (w.Bodies.length : Int)))))) [1], .q 3 6 (.pl (.one (.v (.sc (.bool (decide ((w.Bodies.length : Int) ≤ 300))))))) [2], .q 4 7 (.pl (.one (.v (.sc (.bool (decide ((w.Bodies.length : Int) ≤ 300))))))) [3], .m 5 [4, 3, 2, 1] [0, 1, 2, 3, 4, 5] [(6, 9, .pl (.one (.v (.list false 1 (List.map (rL false 1 (rK .i64)) w.Parents))))), (7, 10, .pl (.one (.v (.sc (.bool x10))))), (8, 11, .pl (.one (.v (.sc (.bool x10))))), (9, 12, .pl (.one (.v (.sc (.bool x10))))), (10, 13, .pl (.agg [.v (.list false 1 (List.map (rL false 1 (rK .i64)) w.Parents)), .v (.list false 4 (List.map (r_T_impl_Body false) w.Bodies))])), (12, 15, .pl (.one (.v (.list false 1 (List.map (rL false 1 (rK .i64)) w.Parents))))), (14, 17, .pl (.one (.v (.sc (.bool x17))))), (15, 18, .pl (.one (.v (.sc (.bool x17)))))]] [(1, 4), (2, 5), (3, 6), (4, 7), (6, 9), (7, 10), (8, 11), (9, 12), (10, 13), (12, 15), (14, 17), (15, 18)] [(1, true, [], []), (2, true, [1], []), (3, true, [2], []), (4, true, [3], []), (5, false, [4, 3, 2, 1], [0, 1, 2, 3, 4, 5])] ⟨?_, ?_, ?_, ?_, ?_, trivial⟩
          · refine obQ 0 { N := 19, np := 2, nx := 3, sl := [(1, .pl (.one (.ref 2 []))), (3, .pl (.one (.addr 2 [] 0 0 1)))], ob := [(2, .box true [.list false 1 (List.map (rL false 1 (rK .i64)) w.Parents), .list false 4 (List.map (r_T_impl_Body false) w.Bodies)])] } ?_
            refine ops H' ?_
            refine opsV_nil ⟨rfl, shd [4, 1, 3] [(2, 2)] 3 rfl⟩
          · refine obQ 1 { N := 19, np := 2, nx := 3, sl := [(4, .pl (.one (.v (.list false 4 (List.map (r_T_impl_Body false) w.Bodies))))), (1, .pl (.one (.ref 2 []))), (3, .pl (.one (.addr 2 [] 0 0 1)))], ob := [(2, .box true [.list false 1 (List.map (rL false 1 (rK .i64)) w.Parents), .list false 4 (List.map (r_T_impl_Body false) w.Bodies)])] } ?_
            refine ops H' ?_
            refine opsV_nil ⟨rfl, shd [5, 1, 3] [(2, 2)] 3 rfl⟩
          · refine obQ 2 { N := 19, np := 2, nx := 3, sl := [(5, .pl (.one (.v (.sc (.int .i64 (w.Bodies.length : Int)))))), (1, .pl (.one (.ref 2 []))), (3, .pl (.one (.addr 2 [] 0 0 1)))], ob := [(2, .box true [.list false 1 (List.map (rL false 1 (rK .i64)) w.Parents), .list false 4 (List.map (r_T_impl_Body false) w.Bodies)])] } ?_
            refine ops H' ?_
            refine opsV_nil ⟨rfl, shd [6, 1, 3] [(2, 2)] 3 rfl⟩
          · refine obQ 3 { N := 19, np := 2, nx := 3, sl := [(6, .pl (.one (.v (.sc (.bool (decide ((w.Bodies.length : Int) ≤ 300))))))), (1, .pl (.one (.ref 2 []))), (3, .pl (.one (.addr 2 [] 0 0 1)))], ob := [(2, .box true [.list false 1 (List.map (rL false 1 (rK .i64)) w.Parents), .list false 4 (List.map (r_T_impl_Body false) w.Bodies)])] } ?_
            refine ops H' ?_
            refine opsV_nil ⟨rfl, shd [7, 1, 3] [(2, 2)] 3 rfl⟩
          · refine obM { N := 19, np := 2, nx := 3, sl := [(4, .pl (.one (.v (.list false 4 (List.map (r_T_impl_Body false) w.Bodies))))), (5, .pl (.one (.v (.sc (.int .i64 (w.Bodies.length : Int)))))), (6, .pl (.one (.v (.sc (.bool (decide ((w.Bodies.length : Int) ≤ 300))))))), (7, .pl (.one (.v (.sc (.bool (decide ((w.Bodies.length : Int) ≤ 300))))))), (1, .pl (.one (.ref 2 []))), (3, .pl (.one (.addr 2 [] 0 0 1)))], ob := [(2, .box true [.list false 1 (List.map (rL false 1 (rK .i64)) w.Parents), .list false 4 (List.map (r_T_impl_Body false) w.Bodies)])] } ?_
            refine opsOn hc4_1_0 ?_
            refine ops H' ?_
            refine opsV_nil ⟨rfl, .inl ⟨rfl, ?_⟩⟩
            exact anyFShd [1, 7, 8] [(2, 2)] 3 d1_0_0_3'
        refine fpure H' 0 [0] [(1, 4), (2, 5), (3, 6), (4, 7), (6, 9), (7, 10), (8, 11), (9, 12), (10, 13), (12, 15), (14, 17), (15, 18)] ?_
        exact anyFShd [1, 3] [(2, 2)] 3 d1_0_0_4'
      · replace gh1_1_0 := (ifF hc9_1_0).symm.trans gh1_1_0
        obtain rfl := Option.some.inj gh1_1_0
        refine regAnyF [(1, 4, .pl (.one (.v (.list false 4 (List.map (r_T_impl_Body false) w.Bodies))))), (2, 5, .pl (.one (.v (.sc (.int .i64 (w.Bodies.length : Int)))))), (3, 6, .pl (.one (.v (.sc (.bool (decide ((w.Bodies.length : Int) ≤ 300))))))), (4, 7, .pl (.one (.v (.sc (.bool (decide ((w.Bodies.length : Int) ≤ 300))))))), (6, 9, .pl (.one (.v (.list false 1 (List.map (rL false 1 (rK .i64)) w.Parents))))), (7, 10, .pl (.one (.v (.sc (.bool x10))))), (8, 11, .pl (.one (.v (.sc (.bool x10))))), (9, 12, .pl (.one (.v (.sc (.bool x10))))), (10, 13, .tup []), (11, 14, .tup []), (12, 15, .tup []), (13, 16, .tup []), (14, 17, .tup []), (15, 18, .pl (.one (.v (.sc (.bool false)))))] ?_
        refine (?_ : anyF X ?ops1_0_1 _ _ ?P1_0_1 _)
        have d1_0_1_0' : anyF X ?ops1_0_1 [0, 1, 2, 3, 4, 5, 6, 7, 8, 9, 10, 11, 12, 13, 14, 15, 16] [] ?P1_0_1 { N := 19, np := 2, nx := 2, sl := [(2, .pl (.one (.v (.sc (.bool false)))))], ob := [] } := by
          refine fend (e2 := { N := 19, np := 2, nx := 2, sl := [(2, .pl (.one (.v (.sc (.bool false)))))], ob := [] }) [] [] [] [] trivial ⟨rfl, shd [2] [] 2 rfl⟩
        have d1_0_1_1' : anyF X ?ops1_0_1 [0, 1, 2, 3, 4, 5] [(6, 9, .pl (.one (.v (.list false 1 (List.map (rL false 1 (rK .i64)) w.Parents))))), (7, 10, .pl (.one (.v (.sc (.bool x10))))), (8, 11, .pl (.one (.v (.sc (.bool x10))))), (9, 12, .pl (.one (.v (.sc (.bool x10))))), (10, 13, .tup []), (11, 14, .tup []), (12, 15, .tup []), (13, 16, .tup []), (14, 17, .tup []), (15, 18, .pl (.one (.v (.sc (.bool false)))))] ?P1_0_1 { N := 19, np := 2, nx := 3, sl := [(1, .pl (.one (.ref 2 []))), (7, .pl (.one (.v (.sc (.bool (decide ((w.Bodies.length : Int) ≤ 300))))))), (8, .pl (.one (.addr 2 [] 0 0 0)))], ob := [(2, .box true [.list false 1 (List.map (rL false 1 (rK .i64)) w.Parents), .list false 4 (List.map (r_T_impl_Body false) w.Bodies)])] } := by
          refine fnode [6, 7, 8, 9, 10, 11, 12, 13, 14, 15] [.q 6 9 (.pl (.one (.v (.list false 1 (List.map (rL false 1 (rK .i64)) w.Parents))))) [], .q 7 10 (.pl (.one (.v (.sc (.bool x10))))) [6], .q 8 11 (.pl (.one (.v (.sc (.bool x10))))) [7], .q 9 12 (.pl (.one (.v (.sc (.bool x10))))) [7, 8], .q 10 13 (.tup []) [9], .q 11 14 (.tup []) [9], .q 12 15 (.tup []) [9, 11], .q 13 16 (.tup []) [9, 12], .q 14 17 (.tup []) [9, 10, 13], .q 15 18 (.pl (.one (.v (.sc (.bool false))))) [9, 14], .m 16 [6, 7, 8, 9, 10, 11, 12, 13, 14, 15] [0, 1, 2, 3, 4, 5, 6, 7, 8, 9, 10, 11, 12, 13, 14, 15, 16] []] [(6, 9), (7, 10), (8, 11), (9, 12), (10, 13), (11, 14), (12, 15), (13, 16), (14, 17), (15, 18)] [(6, true, [], []), (7, true, [6], []), (8, true, [7], []), (9, true, [7, 8], []), (10, true, [9], []), (11, true, [9], []), (12, true, [9, 11], []), (13, true, [9, 12], []), (14, true, [9, 10, 13], []), (15, true, [9, 14], []), (16, false, [6, 7, 8, 9, 10, 11, 12, 13, 14, 15], [0, 1, 2, 3, 4, 5, 6, 7, 8, 9, 10, 11, 12, 13, 14, 15, 16])] ⟨?_, ?_, ?_, ?_, ?_, ?_, ?_, ?_, ?_, ?_, ?_, trivial⟩
          · refine obQ 0 { N := 19, np := 2, nx := 3, sl := [(1, .pl (.one (.ref 2 []))), (7, .pl (.one (.v (.sc (.bool (decide ((w.Bodies.length : Int) ≤ 300))))))), (8, .pl (.one (.addr 2 [] 0 0 0)))], ob := [(2, .box true [.list false 1 (List.map (rL false 1 (rK .i64)) w.Parents), .list false 4 (List.map (r_T_impl_Body false) w.Bodies)])] } ?_
            refine opsOn hc4_1_0 ?_
            refine ops H' ?_
            refine opsV_nil ⟨rfl, shd [9, 1, 7, 8] [(2, 2)] 3 rfl⟩
          · refine obQ 1 { N := 19, np := 2, nx := 3, sl := [(9, .pl (.one (.v (.list false 1 (List.map (rL false 1 (rK .i64)) w.Parents))))), (1, .pl (.one (.ref 2 []))), (7, .pl (.one (.v (.sc (.bool (decide ((w.Bodies.length : Int) ≤ 300))))))), (8, .pl (.one (.addr 2 [] 0 0 0)))], ob := [(2, .box true [.list false 1 (List.map (rL false 1 (rK .i64)) w.Parents), .list false 4 (List.map (r_T_impl_Body false) w.Bodies)])] } ?_
            refine opsOn hc4_1_0 ?_
            refine callG H' (fun _ => []) (W_impl_GraphOk _ _ hy_x10) ?_
            refine opsV_nil ⟨rfl, shd [10, 1, 7, 8] [(2, 2)] 3 rfl⟩
          · refine obQ 2 { N := 19, np := 2, nx := 3, sl := [(10, .pl (.one (.v (.sc (.bool x10))))), (1, .pl (.one (.ref 2 []))), (7, .pl (.one (.v (.sc (.bool (decide ((w.Bodies.length : Int) ≤ 300))))))), (8, .pl (.one (.addr 2 [] 0 0 0)))], ob := [(2, .box true [.list false 1 (List.map (rL false 1 (rK .i64)) w.Parents), .list false 4 (List.map (r_T_impl_Body false) w.Bodies)])] } ?_
            refine opsPick H' hc4_1_0 ?_
            refine opsV_nil ⟨rfl, shd [11, 1, 7, 8] [(2, 2)] 3 rfl⟩
          · refine obQ 3 { N := 19, np := 2, nx := 3, sl := [(10, .pl (.one (.v (.sc (.bool x10))))), (11, .pl (.one (.v (.sc (.bool x10))))), (1, .pl (.one (.ref 2 []))), (7, .pl (.one (.v (.sc (.bool (decide ((w.Bodies.length : Int) ≤ 300))))))), (8, .pl (.one (.addr 2 [] 0 0 0)))], ob := [(2, .box true [.list false 1 (List.map (rL false 1 (rK .i64)) w.Parents), .list false 4 (List.map (r_T_impl_Body false) w.Bodies)])] } ?_
            refine ops H' ?_
            refine opsV_nil ⟨rfl, shd [12, 1, 7, 8] [(2, 2)] 3 rfl⟩
          · refine obQ 4 { N := 19, np := 2, nx := 3, sl := [(12, .pl (.one (.v (.sc (.bool x10))))), (1, .pl (.one (.ref 2 []))), (7, .pl (.one (.v (.sc (.bool (decide ((w.Bodies.length : Int) ≤ 300))))))), (8, .pl (.one (.addr 2 [] 0 0 0)))], ob := [(2, .box true [.list false 1 (List.map (rL false 1 (rK .i64)) w.Parents), .list false 4 (List.map (r_T_impl_Body false) w.Bodies)])] } ?_
            refine opsOff hc9_1_0 ?_
            refine opsV_nil ⟨rfl, shd [13, 1, 7, 8] [(2, 2)] 3 rfl⟩
          · refine obQ 5 { N := 19, np := 2, nx := 3, sl := [(12, .pl (.one (.v (.sc (.bool x10))))), (1, .pl (.one (.ref 2 []))), (7, .pl (.one (.v (.sc (.bool (decide ((w.Bodies.length : Int) ≤ 300))))))), (8, .pl (.one (.addr 2 [] 0 0 0)))], ob := [(2, .box true [.list false 1 (List.map (rL false 1 (rK .i64)) w.Parents), .list false 4 (List.map (r_T_impl_Body false) w.Bodies)])] } ?_
            refine opsOff hc9_1_0 ?_
            refine opsV_nil ⟨rfl, shd [14, 1, 7, 8] [(2, 2)] 3 rfl⟩
          · refine obQ 6 { N := 19, np := 2, nx := 3, sl := [(12, .pl (.one (.v (.sc (.bool x10))))), (14, .tup []), (1, .pl (.one (.ref 2 []))), (7, .pl (.one (.v (.sc (.bool (decide ((w.Bodies.length : Int) ≤ 300))))))), (8, .pl (.one (.addr 2 [] 0 0 0)))], ob := [(2, .box true [.list false 1 (List.map (rL false 1 (rK .i64)) w.Parents), .list false 4 (List.map (r_T_impl_Body false) w.Bodies)])] } ?_
            refine opsOff hc9_1_0 ?_
            refine opsV_nil ⟨rfl, shd [15, 1, 7, 8] [(2, 2)] 3 rfl⟩
          · refine obQ 7 { N := 19, np := 2, nx := 3, sl := [(12, .pl (.one (.v (.sc (.bool x10))))), (15, .tup []), (1, .pl (.one (.ref 2 []))), (7, .pl (.one (.v (.sc (.bool (decide ((w.Bodies.length : Int) ≤ 300))))))), (8, .pl (.one (.addr 2 [] 0 0 0)))], ob := [(2, .box true [.list false 1 (List.map (rL false 1 (rK .i64)) w.Parents), .list false 4 (List.map (r_T_impl_Body false) w.Bodies)])] } ?_
            refine opsOff hc9_1_0 ?_
            refine opsV_nil ⟨rfl, shd [16, 1, 7, 8] [(2, 2)] 3 rfl⟩
          · refine obQ 8 { N := 19, np := 2, nx := 3, sl := [(12, .pl (.one (.v (.sc (.bool x10))))), (13, .tup []), (16, .tup []), (1, .pl (.one (.ref 2 []))), (7, .pl (.one (.v (.sc (.bool (decide ((w.Bodies.length : Int) ≤ 300))))))), (8, .pl (.one (.addr 2 [] 0 0 0)))], ob := [(2, .box true [.list false 1 (List.map (rL false 1 (rK .i64)) w.Parents), .list false 4 (List.map (r_T_impl_Body false) w.Bodies)])] } ?_
            refine opsOff hc9_1_0 ?_
            refine opsV_nil ⟨rfl, shd [17, 1, 7, 8] [(2, 2)] 3 rfl⟩
          · refine obQ 9 { N := 19, np := 2, nx := 3, sl := [(12, .pl (.one (.v (.sc (.bool x10))))), (17, .tup []), (1, .pl (.one (.ref 2 []))), (7, .pl (.one (.v (.sc (.bool (decide ((w.Bodies.length : Int) ≤ 300))))))), (8, .pl (.one (.addr 2 [] 0 0 0)))], ob := [(2, .box true [.list false 1 (List.map (rL false 1 (rK .i64)) w.Parents), .list false 4 (List.map (r_T_impl_Body false) w.Bodies)])] } ?_
            refine opsPick H' hc9_1_0 ?_
            refine opsV_nil ⟨rfl, shd [18, 1, 7, 8] [(2, 2)] 3 rfl⟩
          · refine obM { N := 19, np := 2, nx := 3, sl := [(9, .pl (.one (.v (.list false 1 (List.map (rL false 1 (rK .i64)) w.Parents))))), (10, .pl (.one (.v (.sc (.bool x10))))), (11, .pl (.one (.v (.sc (.bool x10))))), (12, .pl (.one (.v (.sc (.bool x10))))), (13, .tup []), (14, .tup []), (15, .tup []), (16, .tup []), (17, .tup []), (18, .pl (.one (.v (.sc (.bool false))))), (1, .pl (.one (.ref 2 []))), (7, .pl (.one (.v (.sc (.bool (decide ((w.Bodies.length : Int) ≤ 300))))))), (8, .pl (.one (.addr 2 [] 0 0 0)))], ob := [(2, .box true [.list false 1 (List.map (rL false 1 (rK .i64)) w.Parents), .list false 4 (List.map (r_T_impl_Body false) w.Bodies)])] } ?_
            refine ops H' ?_
            refine opsV_nil ⟨rfl, .inl ⟨rfl, ?_⟩⟩
            exact anyFShd [2] [] 2 d1_0_1_0'
        have d1_0_1_2' : anyF X ?ops1_0_1 [0] [(1, 4, .pl (.one (.v (.list false 4 (List.map (r_T_impl_Body false) w.Bodies))))), (2, 5, .pl (.one (.v (.sc (.int .i64 (w.Bodies.length : Int)))))), (3, 6, .pl (.one (.v (.sc (.bool (decide ((w.Bodies.length : Int) ≤ 300))))))), (4, 7, .pl (.one (.v (.sc (.bool (decide ((w.Bodies.length : Int) ≤ 300))))))), (6, 9, .pl (.one (.v (.list false 1 (List.map (rL false 1 (rK .i64)) w.Parents))))), (7, 10, .pl (.one (.v (.sc (.bool x10))))), (8, 11, .pl (.one (.v (.sc (.bool x10))))), (9, 12, .pl (.one (.v (.sc (.bool x10))))), (10, 13, .tup []), (11, 14, .tup []), (12, 15, .tup []), (13, 16, .tup []), (14, 17, .tup []), (15, 18, .pl (.one (.v (.sc (.bool false)))))] ?P1_0_1 { N := 19, np := 2, nx := 3, sl := [(1, .pl (.one (.ref 2 []))), (3, .pl (.one (.addr 2 [] 0 0 1)))], ob := [(2, .box true [.list false 1 (List.map (rL false 1 (rK .i64)) w.Parents), .list false 4 (List.map (r_T_impl_Body false) w.Bodies)])] } := by
          refine fnode [1, 2, 3, 4] [.q 1 4 (.pl (.one (.v (.list false 4 (List.map (r_T_impl_Body false) w.Bodies))))) [], .q 2 5 (.pl (.one (.v (.sc (.int .i64 (w.Bodies.length : Int)))))) [1], .q 3 6 (.pl (.one (.v (.sc (.bool (decide ((w.Bodies.length : Int) ≤ 300))))))) [2], .q 4 7 (.pl (.one (.v (.sc (.bool (decide ((w.Bodies.length : Int) ≤ 300))))))) [3], .m 5 [4, 3, 2, 1] [0, 1, 2, 3, 4, 5] [(6, 9, .pl (.one (.v (.list false 1 (List.map (rL false 1 (rK .i64)) w.Parents))))), (7, 10, .pl (.one (.v (.sc (.bool x10))))), (8, 11, .pl (.one (.v (.sc (.bool x10))))), (9, 12, .pl (.one (.v (.sc (.bool x10))))), (10, 13, .tup []), (11, 14, .tup []), (12, 15, .tup []), (13, 16, .tup []), (14, 17, .tup []), (15, 18, .pl (.one (.v (.sc (.bool false)))))]] [(1, 4), (2, 5), (3, 6), (4, 7), (6, 9), (7, 10), (8, 11), (9, 12), (10, 13), (11, 14), (12, 15), (13, 16), (14, 17), (15, 18)] [(1, true, [], []), (2, true, [1], []), (3, true, [2], []), (4, true, [3], []), (5, false, [4, 3, 2, 1], [0, 1, 2, 3, 4, 5])] ⟨?_, ?_, ?_, ?_, ?_, trivial⟩
          · refine obQ 0 { N := 19, np := 2, nx := 3, sl := [(1, .pl (.one (.ref 2 []))), (3, .pl (.one (.addr 2 [] 0 0 1)))], ob := [(2, .box true [.list false 1 (List.map (rL false 1 (rK .i64)) w.Parents), .list false 4 (List.map (r_T_impl_Body false) w.Bodies)])] } ?_
            refine ops H' ?_
            refine opsV_nil ⟨rfl, shd [4, 1, 3] [(2, 2)] 3 rfl⟩
          · refine obQ 1 { N := 19, np := 2, nx := 3, sl := [(4, .pl (.one (.v (.list false 4 (List.map (r_T_impl_Body false) w.Bodies))))), (1, .pl (.one (.ref 2 []))), (3, .pl (.one (.addr 2 [] 0 0 1)))], ob := [(2, .box true [.list false 1 (List.map (rL false 1 (rK .i64)) w.Parents), .list false 4 (List.map (r_T_impl_Body false) w.Bodies)])] } ?_
            refine ops H' ?_
            refine opsV_nil ⟨rfl, shd [5, 1, 3] [(2, 2)] 3 rfl⟩
          · refine obQ 2 { N := 19, np := 2, nx := 3, sl := [(5, .pl (.one (.v (.sc (.int .i64 (w.Bodies.length : Int)))))), (1, .pl (.one (.ref 2 []))), (3, .pl (.one (.addr 2 [] 0 0 1)))], ob := [(2, .box true [.list false 1 (List.map (rL false 1 (rK .i64)) w.Parents), .list false 4 (List.map (r_T_impl_Body false) w.Bodies)])] } ?_
            refine ops H' ?_
            refine opsV_nil ⟨rfl, shd [6, 1, 3] [(2, 2)] 3 rfl⟩
          · refine obQ 3 { N := 19, np := 2, nx := 3, sl := [(6, .pl (.one (.v (.sc (.bool (decide ((w.Bodies.length : Int) ≤ 300))))))), (1, .pl (.one (.ref 2 []))), (3, .pl (.one (.addr 2 [] 0 0 1)))], ob := [(2, .box true [.list false 1 (List.map (rL false 1 (rK .i64)) w.Parents), .list false 4 (List.map (r_T_impl_Body false) w.Bodies)])] } ?_
            refine ops H' ?_
            refine opsV_nil ⟨rfl, shd [7, 1, 3] [(2, 2)] 3 rfl⟩
          · refine obM { N := 19, np := 2, nx := 3, sl := [(4, .pl (.one (.v (.list false 4 (List.map (r_T_impl_Body false) w.Bodies))))), (5, .pl (.one (.v (.sc (.int .i64 (w.Bodies.length : Int)))))), (6, .pl (.one (.v (.sc (.bool (decide ((w.Bodies.length : Int) ≤ 300))))))), (7, .pl (.one (.v (.sc (.bool (decide ((w.Bodies.length : Int) ≤ 300))))))), (1, .pl (.one (.ref 2 []))), (3, .pl (.one (.addr 2 [] 0 0 1)))], ob := [(2, .box true [.list false 1 (List.map (rL false 1 (rK .i64)) w.Parents), .list false 4 (List.map (r_T_impl_Body false) w.Bodies)])] } ?_
            refine opsOn hc4_1_0 ?_
            refine ops H' ?_
            refine opsV_nil ⟨rfl, .inl ⟨rfl, ?_⟩⟩
            exact anyFShd [1, 7, 8] [(2, 2)] 3 d1_0_1_1'
        refine fpure H' 0 [0] [(1, 4), (2, 5), (3, 6), (4, 7), (6, 9), (7, 10), (8, 11), (9, 12), (10, 13), (11, 14), (12, 15), (13, 16), (14, 17), (15, 18)] ?_
        exact anyFShd [1, 3] [(2, 2)] 3 d1_0_1_2'
    · replace gh0_1_0 := (ifF hc4_1_0).symm.trans gh0_1_0
      obtain rfl := Option.some.inj gh0_1_0
      have hc9_1_0 : false = false := rfl
      replace gh1_1_0 := (ifF hc9_1_0).symm.trans gh1_1_0
      obtain rfl := Option.some.inj gh1_1_0
      refine regAnyF [(1, 4, .pl (.one (.v (.list false 4 (List.map (r_T_impl_Body false) w.Bodies))))), (2, 5, .pl (.one (.v (.sc (.int .i64 (w.Bodies.length : Int)))))), (3, 6, .pl (.one (.v (.sc (.bool (decide ((w.Bodies.length : Int) ≤ 300))))))), (4, 7, .pl (.one (.v (.sc (.bool (decide ((w.Bodies.length : Int) ≤ 300))))))), (5, 8, .tup []), (6, 9, .tup []), (7, 10, .tup []), (8, 11, .pl (.one (.v (.sc (.bool false))))), (9, 12, .pl (.one (.v (.sc (.bool false))))), (10, 13, .tup []), (11, 14, .tup []), (12, 15, .tup []), (13, 16, .tup []), (14, 17, .tup []), (15, 18, .pl (.one (.v (.sc (.bool false)))))] ?_
      refine (?_ : anyF X ?ops1_0_2 _ _ ?P1_0_2 _)
      have d1_0_2_0' : anyF X ?ops1_0_2 [0, 1, 2, 3, 4, 5, 6, 7, 8, 9, 10, 11, 12, 13, 14, 15, 16] [] ?P1_0_2 { N := 19, np := 2, nx := 2, sl := [(2, .pl (.one (.v (.sc (.bool false)))))], ob := [] } := by
        refine fend (e2 := { N := 19, np := 2, nx := 2, sl := [(2, .pl (.one (.v (.sc (.bool false)))))], ob := [] }) [] [] [] [] trivial ⟨rfl, shd [2] [] 2 rfl⟩
      have d1_0_2_1' : anyF X ?ops1_0_2 [0] [(1, 4, .pl (.one (.v (.list false 4 (List.map (r_T_impl_Body false) w.Bodies))))), (2, 5, .pl (.one (.v (.sc (.int .i64 (w.Bodies.length : Int)))))), (3, 6, .pl (.one (.v (.sc (.bool (decide ((w.Bodies.length : Int) ≤ 300))))))), (4, 7, .pl (.one (.v (.sc (.bool (decide ((w.Bodies.length : Int) ≤ 300))))))), (5, 8, .tup []), (6, 9, .tup []), (7, 10, .tup []), (8, 11, .pl (.one (.v (.sc (.bool false))))), (9, 12, .pl (.one (.v (.sc (.bool false))))), (10, 13, .tup []), (11, 14, .tup []), (12, 15, .tup []), (13, 16, .tup []), (14, 17, .tup []), (15, 18, .pl (.one (.v (.sc (.bool false)))))] ?P1_0_2 { N := 19, np := 2, nx := 3, sl := [(1, .pl (.one (.ref 2 []))), (3, .pl (.one (.addr 2 [] 0 0 1)))], ob := [(2, .box true [.list false 1 (List.map (rL false 1 (rK .i64)) w.Parents), .list false 4 (List.map (r_T_impl_Body false) w.Bodies)])] } := by
        refine fnode [1, 2, 3, 4, 5, 6, 7, 8, 9, 10, 11, 12, 13, 14, 15] [.q 1 4 (.pl (.one (.v (.list false 4 (List.map (r_T_impl_Body false) w.Bodies))))) [], .q 2 5 (.pl (.one (.v (.sc (.int .i64 (w.Bodies.length : Int)))))) [1], .q 3 6 (.pl (.one (.v (.sc (.bool (decide ((w.Bodies.length : Int) ≤ 300))))))) [2], .q 4 7 (.pl (.one (.v (.sc (.bool (decide ((w.Bodies.length : Int) ≤ 300))))))) [3], .q 5 8 (.tup []) [4], .q 6 9 (.tup []) [4, 5], .q 7 10 (.tup []) [4, 6], .q 8 11 (.pl (.one (.v (.sc (.bool false))))) [4, 7], .q 9 12 (.pl (.one (.v (.sc (.bool false))))) [7, 8], .q 10 13 (.tup []) [9], .q 11 14 (.tup []) [9], .q 12 15 (.tup []) [9, 11], .q 13 16 (.tup []) [9, 12], .q 14 17 (.tup []) [9, 10, 13], .q 15 18 (.pl (.one (.v (.sc (.bool false))))) [9, 14], .m 16 [1, 2, 3, 4, 5, 6, 7, 8, 9, 10, 11, 12, 13, 14, 15] [0, 1, 2, 3, 4, 5, 6, 7, 8, 9, 10, 11, 12, 13, 14, 15, 16] []] [(1, 4), (2, 5), (3, 6), (4, 7), (5, 8), (6, 9), (7, 10), (8, 11), (9, 12), (10, 13), (11, 14), (12, 15), (13, 16), (14, 17), (15, 18)] [(1, true, [], []), (2, true, [1], []), (3, true, [2], []), (4, true, [3], []), (5, true, [4], []), (6, true, [4, 5], []), (7, true, [4, 6], []), (8, true, [4, 7], []), (9, true, [7, 8], []), (10, true, [9], []), (11, true, [9], []), (12, true, [9, 11], []), (13, true, [9, 12], []), (14, true, [9, 10, 13], []), (15, true, [9, 14], []), (16, false, [1, 2, 3, 4, 5, 6, 7, 8, 9, 10, 11, 12, 13, 14, 15], [0, 1, 2, 3, 4, 5, 6, 7, 8, 9, 10, 11, 12, 13, 14, 15, 16])] ⟨?_, ?_, ?_, ?_, ?_, ?_, ?_, ?_, ?_, ?_, ?_, ?_, ?_, ?_, ?_, ?_, trivial⟩
        · refine obQ 0 { N := 19, np := 2, nx := 3, sl := [(1, .pl (.one (.ref 2 []))), (3, .pl (.one (.addr 2 [] 0 0 1)))], ob := [(2, .box true [.list false 1 (List.map (rL false 1 (rK .i64)) w.Parents), .list false 4 (List.map (r_T_impl_Body false) w.Bodies)])] } ?_
          refine ops H' ?_
          refine opsV_nil ⟨rfl, shd [4, 1, 3] [(2, 2)] 3 rfl⟩
        · refine obQ 1 { N := 19, np := 2, nx := 3, sl := [(4, .pl (.one (.v (.list false 4 (List.map (r_T_impl_Body false) w.Bodies))))), (1, .pl (.one (.ref 2 []))), (3, .pl (.one (.addr 2 [] 0 0 1)))], ob := [(2, .box true [.list false 1 (List.map (rL false 1 (rK .i64)) w.Parents), .list false 4 (List.map (r_T_impl_Body false) w.Bodies)])] } ?_
          refine ops H' ?_
          refine opsV_nil ⟨rfl, shd [5, 1, 3] [(2, 2)] 3 rfl⟩
        · refine obQ 2 { N := 19, np := 2, nx := 3, sl := [(5, .pl (.one (.v (.sc (.int .i64 (w.Bodies.length : Int)))))), (1, .pl (.one (.ref 2 []))), (3, .pl (.one (.addr 2 [] 0 0 1)))], ob := [(2, .box true [.list false 1 (List.map (rL false 1 (rK .i64)) w.Parents), .list false 4 (List.map (r_T_impl_Body false) w.Bodies)])] } ?_
          refine ops H' ?_
          refine opsV_nil ⟨rfl, shd [6, 1, 3] [(2, 2)] 3 rfl⟩
        · refine obQ 3 { N := 19, np := 2, nx := 3, sl := [(6, .pl (.one (.v (.sc (.bool (decide ((w.Bodies.length : Int) ≤ 300))))))), (1, .pl (.one (.ref 2 []))), (3, .pl (.one (.addr 2 [] 0 0 1)))], ob := [(2, .box true [.list false 1 (List.map (rL false 1 (rK .i64)) w.Parents), .list false 4 (List.map (r_T_impl_Body false) w.Bodies)])] } ?_
          refine ops H' ?_
          refine opsV_nil ⟨rfl, shd [7, 1, 3] [(2, 2)] 3 rfl⟩
        · refine obQ 4 { N := 19, np := 2, nx := 3, sl := [(7, .pl (.one (.v (.sc (.bool (decide ((w.Bodies.length : Int) ≤ 300))))))), (1, .pl (.one (.ref 2 []))), (3, .pl (.one (.addr 2 [] 0 0 1)))], ob := [(2, .box true [.list false 1 (List.map (rL false 1 (rK .i64)) w.Parents), .list false 4 (List.map (r_T_impl_Body false) w.Bodies)])] } ?_
          refine opsOff hc4_1_0 ?_
          refine opsV_nil ⟨rfl, shd [8, 1, 3] [(2, 2)] 3 rfl⟩
        · refine obQ 5 { N := 19, np := 2, nx := 3, sl := [(7, .pl (.one (.v (.sc (.bool (decide ((w.Bodies.length : Int) ≤ 300))))))), (8, .tup []), (1, .pl (.one (.ref 2 []))), (3, .pl (.one (.addr 2 [] 0 0 1)))], ob := [(2, .box true [.list false 1 (List.map (rL false 1 (rK .i64)) w.Parents), .list false 4 (List.map (r_T_impl_Body false) w.Bodies)])] } ?_
          refine opsOff hc4_1_0 ?_
          refine opsV_nil ⟨rfl, shd [9, 1, 3] [(2, 2)] 3 rfl⟩
        · refine obQ 6 { N := 19, np := 2, nx := 3, sl := [(7, .pl (.one (.v (.sc (.bool (decide ((w.Bodies.length : Int) ≤ 300))))))), (9, .tup []), (1, .pl (.one (.ref 2 []))), (3, .pl (.one (.addr 2 [] 0 0 1)))], ob := [(2, .box true [.list false 1 (List.map (rL false 1 (rK .i64)) w.Parents), .list false 4 (List.map (r_T_impl_Body false) w.Bodies)])] } ?_
          refine opsOff hc4_1_0 ?_
          refine opsV_nil ⟨rfl, shd [10, 1, 3] [(2, 2)] 3 rfl⟩
        · refine obQ 7 { N := 19, np := 2, nx := 3, sl := [(7, .pl (.one (.v (.sc (.bool (decide ((w.Bodies.length : Int) ≤ 300))))))), (10, .tup []), (1, .pl (.one (.ref 2 []))), (3, .pl (.one (.addr 2 [] 0 0 1)))], ob := [(2, .box true [.list false 1 (List.map (rL false 1 (rK .i64)) w.Parents), .list false 4 (List.map (r_T_impl_Body false) w.Bodies)])] } ?_
          refine opsPick H' hc4_1_0 ?_
          refine opsV_nil ⟨rfl, shd [11, 1, 3] [(2, 2)] 3 rfl⟩
        · refine obQ 8 { N := 19, np := 2, nx := 3, sl := [(10, .tup []), (11, .pl (.one (.v (.sc (.bool false))))), (1, .pl (.one (.ref 2 []))), (3, .pl (.one (.addr 2 [] 0 0 1)))], ob := [(2, .box true [.list false 1 (List.map (rL false 1 (rK .i64)) w.Parents), .list false 4 (List.map (r_T_impl_Body false) w.Bodies)])] } ?_
          refine ops H' ?_
          refine opsV_nil ⟨rfl, shd [12, 1, 3] [(2, 2)] 3 rfl⟩
        · refine obQ 9 { N := 19, np := 2, nx := 3, sl := [(12, .pl (.one (.v (.sc (.bool false))))), (1, .pl (.one (.ref 2 []))), (3, .pl (.one (.addr 2 [] 0 0 1)))], ob := [(2, .box true [.list false 1 (List.map (rL false 1 (rK .i64)) w.Parents), .list false 4 (List.map (r_T_impl_Body false) w.Bodies)])] } ?_
          refine opsOff hc9_1_0 ?_
          refine opsV_nil ⟨rfl, shd [13, 1, 3] [(2, 2)] 3 rfl⟩
        · refine obQ 10 { N := 19, np := 2, nx := 3, sl := [(12, .pl (.one (.v (.sc (.bool false))))), (1, .pl (.one (.ref 2 []))), (3, .pl (.one (.addr 2 [] 0 0 1)))], ob := [(2, .box true [.list false 1 (List.map (rL false 1 (rK .i64)) w.Parents), .list false 4 (List.map (r_T_impl_Body false) w.Bodies)])] } ?_
          refine opsOff hc9_1_0 ?_
          refine opsV_nil ⟨rfl, shd [14, 1, 3] [(2, 2)] 3 rfl⟩
        · refine obQ 11 { N := 19, np := 2, nx := 3, sl := [(12, .pl (.one (.v (.sc (.bool false))))), (14, .tup []), (1, .pl (.one (.ref 2 []))), (3, .pl (.one (.addr 2 [] 0 0 1)))], ob := [(2, .box true [.list false 1 (List.map (rL false 1 (rK .i64)) w.Parents), .list false 4 (List.map (r_T_impl_Body false) w.Bodies)])] } ?_
          refine opsOff hc9_1_0 ?_
          refine opsV_nil ⟨rfl, shd [15, 1, 3] [(2, 2)] 3 rfl⟩
        · refine obQ 12 { N := 19, np := 2, nx := 3, sl := [(12, .pl (.one (.v (.sc (.bool false))))), (15, .tup []), (1, .pl (.one (.ref 2 []))), (3, .pl (.one (.addr 2 [] 0 0 1)))], ob := [(2, .box true [.list false 1 (List.map (rL false 1 (rK .i64)) w.Parents), .list false 4 (List.map (r_T_impl_Body false) w.Bodies)])] } ?_
          refine opsOff hc9_1_0 ?_
          refine opsV_nil ⟨rfl, shd [16, 1, 3] [(2, 2)] 3 rfl⟩
        · refine obQ 13 { N := 19, np := 2, nx := 3, sl := [(12, .pl (.one (.v (.sc (.bool false))))), (13, .tup []), (16, .tup []), (1, .pl (.one (.ref 2 []))), (3, .pl (.one (.addr 2 [] 0 0 1)))], ob := [(2, .box true [.list false 1 (List.map (rL false 1 (rK .i64)) w.Parents), .list false 4 (List.map (r_T_impl_Body false) w.Bodies)])] } ?_
          refine opsOff hc9_1_0 ?_
          refine opsV_nil ⟨rfl, shd [17, 1, 3] [(2, 2)] 3 rfl⟩
        · refine obQ 14 { N := 19, np := 2, nx := 3, sl := [(12, .pl (.one (.v (.sc (.bool false))))), (17, .tup []), (1, .pl (.one (.ref 2 []))), (3, .pl (.one (.addr 2 [] 0 0 1)))], ob := [(2, .box true [.list false 1 (List.map (rL false 1 (rK .i64)) w.Parents), .list false 4 (List.map (r_T_impl_Body false) w.Bodies)])] } ?_
          refine opsPick H' hc9_1_0 ?_
          refine opsV_nil ⟨rfl, shd [18, 1, 3] [(2, 2)] 3 rfl⟩
        · refine obM { N := 19, np := 2, nx := 3, sl := [(4, .pl (.one (.v (.list false 4 (List.map (r_T_impl_Body false) w.Bodies))))), (5, .pl (.one (.v (.sc (.int .i64 (w.Bodies.length : Int)))))), (6, .pl (.one (.v (.sc (.bool (decide ((w.Bodies.length : Int) ≤ 300))))))), (7, .pl (.one (.v (.sc (.bool (decide ((w.Bodies.length : Int) ≤ 300))))))), (8, .tup []), (9, .tup []), (10, .tup []), (11, .pl (.one (.v (.sc (.bool false))))), (12, .pl (.one (.v (.sc (.bool false))))), (13, .tup []), (14, .tup []), (15, .tup []), (16, .tup []), (17, .tup []), (18, .pl (.one (.v (.sc (.bool false))))), (1, .pl (.one (.ref 2 []))), (3, .pl (.one (.addr 2 [] 0 0 1)))], ob := [(2, .box true [.list false 1 (List.map (rL false 1 (rK .i64)) w.Parents), .list false 4 (List.map (r_T_impl_Body false) w.Bodies)])] } ?_
          refine ops H' ?_
          refine opsV_nil ⟨rfl, .inl ⟨rfl, ?_⟩⟩
          exact anyFShd [2] [] 2 d1_0_2_0'
      refine fpure H' 0 [0] [(1, 4), (2, 5), (3, 6), (4, 7), (5, 8), (6, 9), (7, 10), (8, 11), (9, 12), (10, 13), (11, 14), (12, 15), (13, 16), (14, 17), (15, 18)] ?_
      exact anyFShd [1, 3] [(2, 2)] 3 d1_0_2_1'
  · rintro e' rfl
    refine contN ?_
    refine retN ?_
    obtain rfl := Option.some.inj h0'
    exact outG H' rfl rfl
theorem W_impl_Weave_areVersions (w : T_impl_Weave) (list_ : List Int) (r' : Bool) (h0' : impl_Weave_areVersions w list_ = some r') : Fn X 76 [.one (.box false [.list false 1 (List.map (rL false 1 (rK .i64)) w.Parents), .list false 4 (List.map (r_T_impl_Body false) w.Bodies)]), .one (.list false 1 (List.map (rK .i64) list_))] [.one (.sc (.bool r'))] [] := by
  have H' := And.intro t3 (And.intro t30 (And.intro t33 (And.intro t43 (And.intro R_Li64 (And.intro R_T_impl_Body (R_i64))))))
  unfold impl_Weave_areVersions at h0'
  refine Fn.start (fn := f76) (N := 22) (res := [.tmp 4]) rfl rfl rfl rfl rfl (by simp) ?_
  refine enterG H' ?_
  refine wpV_seq1 ?_
  refine wpV_region ?_
  refine ops H' ?_
  refine opsN ?_
  refine wpV_seqJ (fun e' => impl_Weave_areVersions_j1 = some r' ∧ e' = { N := 22, np := 2, nx := 2, sl := [], ob := [] }) ?_ ?_
  · refine wpV_seq1 ?_
    refine wpV_region ?_
    refine ops H' ?_
    refine opsN ?_
    obtain ⟨p, hl', h0'⟩ := Option.bind_eq_some_iff.1 h0'
    refine wpV_block ?_
    refine wpV_loopM (fun x9 e' => e' = { N := 22, np := 2, nx := 2, sl := [(0, .pl (.one (.v (.box false [.list false 1 (List.map (rL false 1 (rK .i64)) w.Parents), .list false 4 (List.map (r_T_impl_Body false) w.Bodies)])))), (7, .pl (.one (.v (.list false 1 (List.map (rK .i64) list_))))), (8, .pl (.one (.v (.sc (.int .i64 (list_.length : Int)))))), (9, .pl (.one (.v (.sc (.int .i64 x9)))))], ob := [] }) hl' (shd [0, 7, 8, 9] [] 2 rfl) ?_
    rintro x9 y1' e' h1' rfl
    replace h1' : impl_Weave_areVersions_l1 w list_ x9 = some y1' := h1'
    unfold impl_Weave_areVersions_l1 at h1'
    refine wpV_seq1 ?_
    refine wpV_region ?_
    refine ops H' ?_
    refine opsN ?_
    refine wpV_seq1 ?_
    refine wpV_split (fun hc' => ?_) (fun hc' => ?_)
    · replace h1' := (ifT hc').symm.trans h1'
      refine skipN ?_
      refine wpV_seq1 ?_
      refine wpV_block ?_
      refine wpV_seq1 ?_
      refine wpV_region ?_
      obtain ⟨x, hv', h1'⟩ := Option.bind_eq_some_iff.1 h1'
      have H' := And.intro (geti_f hv') H'
      refine ops H' ?_
      refine opsN ?_
      refine wpV_seq1 ?_
      refine wpV_region ?_
      refine ops H' ?_
      obtain ⟨x19, hy', h1'⟩ := Option.bind_eq_some_iff.1 h1'
      refine callG H' (fun _ => []) (W_impl_isPlace _ _ _ hy') ?_
      refine ops H' ?_
      refine opsN ?_
      refine wpV_split (fun hc' => ?_) (fun hc' => ?_)
      · replace h1' := (ifT hc').symm.trans h1'
        refine wpV_seq1 ?_
        refine wpV_region ?_
        refine ops H' ?_
        refine opsN ?_
        refine retN ?_
        obtain rfl := Option.some.inj h1'
        refine ⟨_, rfl, fun hr' => ?_⟩
        subst hr'
        obtain rfl := Option.some.inj h0'
        exact outG H' rfl rfl
      · replace h1' := (ifF hc').symm.trans h1'
        refine skipN ?_
        refine wpV_region ?_
        refine ops H' ?_
        refine opsN ?_
        obtain rfl := Option.some.inj h1'
        exact shd [0, 7, 8, 9] [] 2 ⟨_, rfl, rfl⟩
    · replace h1' := (ifF hc').symm.trans h1'
      refine exitN ?_
      obtain rfl := Option.some.inj h1'
      refine ⟨_, rfl, fun hr' => ?_⟩
      subst hr'
      exact shd [] [] 2 ⟨h0', rfl⟩
  · rintro e' ⟨h0', rfl⟩
    unfold impl_Weave_areVersions_j1 at h0'
    refine wpV_seq1 ?_
    refine wpV_region ?_
    refine ops H' ?_
    refine opsN ?_
    refine retN ?_
    obtain rfl := Option.some.inj h0'
    exact outG H' rfl rfl
theorem W_impl_versionsCode (w : T_impl_Weave) (list_ : List Int) (r' : Int) (h0' : impl_versionsCode w list_ = some r') : Fn X 59 [.agg [.list false 1 (List.map (rL false 1 (rK .i64)) w.Parents), .list false 4 (List.map (r_T_impl_Body false) w.Bodies)], .one (.list false 1 (List.map (rK .i64) list_))] [.one (.sc (.int .i64 r'))] [] := by
  have H' := And.intro t33 (And.intro R_Li64 (And.intro R_T_impl_Body (R_i64)))
  unfold impl_versionsCode at h0'
  refine Fn.start (fn := f59) (N := 13) (res := [.tmp 4]) rfl rfl rfl rfl rfl (by simp) ?_
  refine enterG H' ?_
  refine wpV_seq1 ?_
  refine wpV_region ?_
  refine ops H' ?_
  refine opsN ?_
  refine wpV_seq1 ?_
  refine wpV_block ?_
  refine wpV_seq1 ?_
  refine wpV_region ?_
  refine ops H' ?_
  obtain ⟨x7, hy', h0'⟩ := Option.bind_eq_some_iff.1 h0'
  refine callG H' (fun _ => []) (W_impl_WeaveOk _ _ hy') ?_
  refine ops H' ?_
  refine opsN ?_
  refine wpV_split (fun hc' => ?_) (fun hc' => ?_)
  · replace h0' := (ifT hc').symm.trans h0'
    refine wpV_seq1 ?_
    refine wpV_region ?_
    refine ops H' ?_
    refine opsN ?_
    refine retN ?_
    obtain rfl := Option.some.inj h0'
    exact outG H' rfl rfl
  · replace h0' := (ifF hc').symm.trans h0'
    refine wpV_seq1 ?_
    refine wpV_region ?_
    refine ops H' ?_
    obtain ⟨x11, hy', h0'⟩ := Option.bind_eq_some_iff.1 h0'
    refine callG H' (fun _ => []) (W_impl_Weave_areVersions _ _ _ hy') ?_
    refine ops H' ?_
    refine opsN ?_
    refine wpV_split (fun hc' => ?_) (fun hc' => ?_)
    · replace h0' := (ifT hc').symm.trans h0'
      refine wpV_seq1 ?_
      refine wpV_region ?_
      refine ops H' ?_
      refine opsN ?_
      refine retN ?_
      obtain rfl := Option.some.inj h0'
      exact outG H' rfl rfl
    · replace h0' := (ifF hc').symm.trans h0'
      refine skipN ?_
      refine wpV_seq1 ?_
      refine wpV_region ?_
      refine ops H' ?_
      refine opsN ?_
      refine retN ?_
      obtain rfl := Option.some.inj h0'
      exact outG H' rfl rfl
theorem W_impl_Body_isLiveWithout (b : T_impl_Body) (s : Int) (v : Int) (r' : Bool) (h0' : impl_Body_isLiveWithout b s v = some r') : Fn X 64 [.agg [.sc (.string b.Line), .sc (.int .i64 b.Ins), .sc (.int .i64 b.Ord), .list false 1 (List.map (rK .i64) b.Dels)], .one (.sc (.int .u64 s)), .one (.sc (.int .i64 v))] [.one (.sc (.bool r'))] [] := by
  have H' := And.intro t3 (And.intro t43 (And.intro t105 (And.intro t110 (R_i64))))
  unfold impl_Body_isLiveWithout at h0'
  refine Fn.start (fn := f64) (N := 23) (res := [.tmp 6]) rfl rfl rfl rfl rfl (by simp) ?_
  refine enterG H' ?_
  refine wpV_seq1 ?_
  refine wpV_region ?_
  refine ops H' ?_
  refine opsN ?_
  refine wpV_seq1 ?_
  refine wpV_region ?_
  refine ops H' ?_
  obtain ⟨x10, hy', h0'⟩ := Option.bind_eq_some_iff.1 h0'
  refine callG H' (fun _ => []) (W_impl_set_has _ _ _ hy') ?_
  refine ops H' ?_
  obtain ⟨b_1, gh0', h0'⟩ := Option.bind_eq_some_iff.1 h0'
  refine opsV_cut 11 (fun e' => e' = { N := 23, np := 6, nx := 6, sl := [(22, .pl (.one (.v (.sc (.bool b_1)))))], ob := [] }) ?_ ?_
  · simp only [List.take_succ_cons, List.take_zero]
    refine opsV_sp (fun hc' => ?_) (fun hc' => ?_)
    · replace gh0' := (ifT hc').symm.trans gh0'
      refine ops H' ?_
      obtain ⟨x14, hy', gh0'⟩ := Option.bind_eq_some_iff.1 gh0'
      refine callG H' (fun _ => []) (W_impl_setOf _ _ hy') ?_
      refine ops H' ?_
      obtain ⟨x17, hy', gh0'⟩ := Option.bind_eq_some_iff.1 gh0'
      refine callG H' (fun _ => []) (W_impl_setOf _ _ hy') ?_
      refine ops H' ?_
      obtain rfl := Option.some.inj gh0'
      refine opsV_nil ?_
      exact ⟨rfl, shd [22] [] 6 rfl⟩
    · replace gh0' := (ifF hc').symm.trans gh0'
      refine ops H' ?_
      obtain rfl := Option.some.inj gh0'
      refine opsV_nil ?_
      exact ⟨rfl, shd [22] [] 6 rfl⟩
  · rintro e' rfl
    simp only [List.drop_succ_cons, List.drop_zero]
    refine ops H' ?_
    refine opsN ?_
    refine retN ?_
    obtain rfl := Option.some.inj h0'
    exact outG H' rfl rfl
theorem W_impl_UndoOn_c1 (b : T_impl_Body) (c : Int) (c_1 : Int) (r' : Bool) (h0' : impl_UndoOn_c1 b c c_1 = some r') : Fn X 62 [.agg [.sc (.string b.Line), .sc (.int .i64 b.Ins), .sc (.int .i64 b.Ord), .list false 1 (List.map (rK .i64) b.Dels)], .one (.box false [.sc (.int .u64 c)]), .one (.box false [.sc (.int .i64 c_1)])] [.one (.sc (.bool r'))] [] := by
  have H' := And.intro t3 (And.intro t105 (And.intro t110 (R_i64)))
  unfold impl_UndoOn_c1 at h0'
  refine Fn.start (fn := f62) (N := 16) (res := [.tmp 4]) rfl rfl rfl rfl rfl (by simp) ?_
  refine enterG H' ?_
  refine wpV_seq1 ?_
  refine wpV_region ?_
  refine ops H' ?_
  refine opsN ?_
  refine wpV_seq1 ?_
  refine wpV_seq1 ?_
  refine wpV_region ?_
  refine ops H' ?_
  obtain ⟨x7, hy', h0'⟩ := Option.bind_eq_some_iff.1 h0'
  refine callG H' (fun _ => []) (W_impl_Body_isLive _ _ _ hy') ?_
  refine opsN ?_
  refine wpV_split (fun hc' => ?_) (fun hc' => ?_)
  · replace h0' := (ifT hc').symm.trans h0'
    refine wpV_seq1 ?_
    refine wpV_region ?_
    refine ops H' ?_
    refine opsN ?_
    refine retN ?_
    obtain rfl := Option.some.inj h0'
    exact outG H' rfl rfl
  · replace h0' := (ifF hc').symm.trans h0'
    refine skipN ?_
    refine wpV_seq1 ?_
    refine wpV_region ?_
    refine ops H' ?_
    obtain ⟨x15, hy', h0'⟩ := Option.bind_eq_some_iff.1 h0'
    refine callG H' (fun _ => []) (W_impl_Body_isLiveWithout _ _ _ _ hy') ?_
    refine ops H' ?_
    refine opsN ?_
    refine retN ?_
    obtain rfl := Option.some.inj h0'
    exact outG H' rfl rfl
theorem W_impl_UndoOn_c2 (b : T_impl_Body) (c : Int) (c_1 : Int) (r' : Bool) (h0' : impl_UndoOn_c2 b c c_1 = some r') : Fn X 65 [.agg [.sc (.string b.Line), .sc (.int .i64 b.Ins), .sc (.int .i64 b.Ord), .list false 1 (List.map (rK .i64) b.Dels)], .one (.box false [.sc (.int .i64 c)]), .one (.box false [.sc (.int .u64 c_1)])] [.one (.sc (.bool r'))] [] := by
  have H' := And.intro t3 (And.intro t105 (And.intro t110 (R_i64)))
  unfold impl_UndoOn_c2 at h0'
  refine Fn.start (fn := f65) (N := 15) (res := [.tmp 4]) rfl rfl rfl rfl rfl (by simp) ?_
  refine enterG H' ?_
  refine wpV_seq1 ?_
  refine wpV_region ?_
  refine ops H' ?_
  refine opsN ?_
  refine wpV_seq1 ?_
  refine wpV_region ?_
  refine ops H' ?_
  obtain ⟨b_1, gh0', h0'⟩ := Option.bind_eq_some_iff.1 h0'
  refine opsV_cut 5 (fun e' => e' = { N := 15, np := 6, nx := 6, sl := [(14, .pl (.one (.v (.sc (.bool b_1)))))], ob := [] }) ?_ ?_
  · simp only [List.take_succ_cons, List.take_zero]
    refine opsV_sp (fun hc' => ?_) (fun hc' => ?_)
    · replace gh0' := (ifT hc').symm.trans gh0'
      refine ops H' ?_
      obtain ⟨x12, hy', gh0'⟩ := Option.bind_eq_some_iff.1 gh0'
      refine callG H' (fun _ => []) (W_impl_Body_isLive _ _ _ hy') ?_
      refine ops H' ?_
      obtain rfl := Option.some.inj gh0'
      refine opsV_nil ?_
      exact ⟨rfl, shd [14] [] 6 rfl⟩
    · replace gh0' := (ifF hc').symm.trans gh0'
      refine ops H' ?_
      obtain rfl := Option.some.inj gh0'
      refine opsV_nil ?_
      exact ⟨rfl, shd [14] [] 6 rfl⟩
  · rintro e' rfl
    simp only [List.drop_succ_cons, List.drop_zero]
    refine ops H' ?_
    refine opsN ?_
    refine retN ?_
    obtain rfl := Option.some.inj h0'
    exact outG H' rfl rfl
theorem W_impl_pickBy__2__2 (w : T_impl_Weave) (take : T_impl_Body → Option Bool) (take_f : Nat) (take_c0 : V) (take_c1 : V) (take_h : ∀ (z0' : T_impl_Body) r', take z0' = some r' → Fn X take_f [.agg [.sc (.string z0'.Line), .sc (.int .i64 z0'.Ins), .sc (.int .i64 z0'.Ord), .list false 1 (List.map (rK .i64) z0'.Dels)], .one (take_c0), .one (take_c1)] [.one (.sc (.bool r'))] []) (miss : T_impl_Body → Option Bool) (miss_f : Nat) (miss_c0 : V) (miss_c1 : V) (miss_h : ∀ (z0' : T_impl_Body) r', miss z0' = some r' → Fn X miss_f [.agg [.sc (.string z0'.Line), .sc (.int .i64 z0'.Ins), .sc (.int .i64 z0'.Ord), .list false 1 (List.map (rK .i64) z0'.Dels)], .one (miss_c0), .one (miss_c1)] [.one (.sc (.bool r'))] []) (r' : (List ByteArray) × Int) (h0' : impl_pickBy w take miss = some r') : Fn X 61 [.agg [.list false 1 (List.map (rL false 1 (rK .i64)) w.Parents), .list false 4 (List.map (r_T_impl_Body false) w.Bodies)], .one (.fn take_f [take_c0, take_c1]), .one (.fn miss_f [miss_c0, miss_c1])] [.one (.list true 1 (List.map rS r'.1)), .one (.sc (.int .i64 r'.2))] [] := by
  have H' := And.intro t3 (And.intro t9 (And.intro t31 (And.intro t33 (And.intro t36 (And.intro t110 (And.intro R_Li64 (And.intro R_T_impl_Body (And.intro R_i64 (R_s)))))))))
  unfold impl_pickBy at h0'
  refine Fn.start (fn := f61) (N := 35) (res := [.tmp 6, .tmp 7]) rfl rfl rfl rfl rfl (by simp) ?_
  refine enterG H' ?_
  refine wpV_seq1 ?_
  refine wpV_region ?_
  refine ops H' ?_
  refine opsN ?_
  refine wpV_seq1 ?_
  refine wpV_region ?_
  refine ops H' ?_
  refine opsN ?_
  refine wpV_seq1 ?_
  refine wpV_region ?_
  refine ops H' ?_
  refine opsN ?_
  refine wpV_seqJ (fun e' => ∃ n out_, impl_pickBy_j1 n out_ = some r' ∧ e' = { N := 35, np := 4, nx := 5, sl := [(8, .pl (.one (.ref 4 []))), (9, .pl (.one (.v (.sc (.int .i64 n)))))], ob := [(4, .list true 1 (List.map rS out_))] }) ?_ ?_
  · refine wpV_seq1 ?_
    refine wpV_region ?_
    refine ops H' ?_
    refine opsN ?_
    obtain ⟨p, hl', h0'⟩ := Option.bind_eq_some_iff.1 h0'
    refine wpV_block ?_
    refine wpV_loopM (fun s' e' => ∃ n_1 x15 out__1, s' = (n_1, x15, out__1) ∧ e' = { N := 35, np := 4, nx := 5, sl := [(1, .pl (.one (.v (.fn take_f [take_c0, take_c1])))), (2, .pl (.one (.v (.fn miss_f [miss_c0, miss_c1])))), (8, .pl (.one (.ref 4 []))), (9, .pl (.one (.v (.sc (.int .i64 n_1))))), (13, .pl (.one (.v (.list false 4 (List.map (r_T_impl_Body false) w.Bodies))))), (14, .pl (.one (.v (.sc (.int .i64 (w.Bodies.length : Int)))))), (15, .pl (.one (.v (.sc (.int .i64 x15)))))], ob := [(4, .list true 1 (List.map rS out__1))] }) hl' (shd [1, 2, 8, 9, 13, 14, 15] [(6, 4)] 5 ⟨_, _, _, rfl, rfl⟩) ?_
    rintro s' y1' e' h1' ⟨n_1, x15, out__1, rfl, rfl⟩
    replace h1' : impl_pickBy_l1 w take miss n_1 x15 out__1 = some y1' := h1'
    unfold impl_pickBy_l1 at h1'
    refine wpV_seq1 ?_
    refine wpV_region ?_
    refine ops H' ?_
    refine opsN ?_
    refine wpV_seq1 ?_
    refine wpV_split (fun hc' => ?_) (fun hc' => ?_)
    · replace h1' := (ifT hc').symm.trans h1'
      refine skipN ?_
      refine wpV_seq1 ?_
      refine wpV_block ?_
      refine wpV_seq1 ?_
      refine wpV_region ?_
      obtain ⟨x, hv', h1'⟩ := Option.bind_eq_some_iff.1 h1'
      have H' := And.intro (geti_f hv') H'
      refine ops H' ?_
      refine opsN ?_
      refine wpV_seqJ (fun e' => ∃ out__2, impl_pickBy_j2 miss n_1 x15 x out__2 = some y1' ∧ e' = { N := 35, np := 4, nx := 6, sl := [(1, .pl (.one (.v (.fn take_f [take_c0, take_c1])))), (2, .pl (.one (.v (.fn miss_f [miss_c0, miss_c1])))), (8, .pl (.one (.ref 4 []))), (9, .pl (.one (.v (.sc (.int .i64 n_1))))), (11, .pl (.one (.ref 5 []))), (13, .pl (.one (.v (.list false 4 (List.map (r_T_impl_Body false) w.Bodies))))), (14, .pl (.one (.v (.sc (.int .i64 (w.Bodies.length : Int)))))), (15, .pl (.one (.v (.sc (.int .i64 x15)))))], ob := [(4, .list true 1 (List.map rS out__2)), (5, .box true [.sc (.string x.Line), .sc (.int .i64 x.Ins), .sc (.int .i64 x.Ord), .list false 1 (List.map (rK .i64) x.Dels)])] }) ?_ ?_
      · refine wpV_seq1 ?_
        refine wpV_region ?_
        refine ops H' ?_
        obtain ⟨x21, hy', h1'⟩ := Option.bind_eq_some_iff.1 h1'
        refine callG H' (fun _ => []) (take_h _ _ hy') ?_
        refine opsN ?_
        refine wpV_split (fun hc' => ?_) (fun hc' => ?_)
        · replace h1' := (ifT hc').symm.trans h1'
          refine wpV_region ?_
          obtain ⟨l, hv', h1'⟩ := Option.bind_eq_some_iff.1 h1'
          have H' := And.intro (app1_f hv') H'
          refine ops H' ?_
          refine opsN ?_
          exact shd [1, 2, 8, 9, 11, 13, 14, 15] [(4, 4), (5, 5)] 6 ⟨_, h1', rfl⟩
        · replace h1' := (ifF hc').symm.trans h1'
          refine skipN ?_
          exact shd [1, 2, 8, 9, 11, 13, 14, 15] [(4, 4), (5, 5)] 6 ⟨_, h1', rfl⟩
      · rintro e' ⟨out__2, h1', rfl⟩
        unfold impl_pickBy_j2 at h1'
        refine wpV_seq1 ?_
        refine wpV_region ?_
        refine ops H' ?_
        obtain ⟨x29, hy', h1'⟩ := Option.bind_eq_some_iff.1 h1'
        refine callG H' (fun _ => []) (miss_h _ _ hy') ?_
        refine opsN ?_
        refine wpV_split (fun hc' => ?_) (fun hc' => ?_)
        · replace h1' := (ifT hc').symm.trans h1'
          refine wpV_region ?_
          refine ops H' ?_
          refine opsN ?_
          refine wpV_region ?_
          refine ops H' ?_
          refine opsN ?_
          obtain rfl := Option.some.inj h1'
          exact shd [1, 2, 8, 9, 13, 14, 15] [(4, 4)] 5 ⟨_, rfl, _, _, _, rfl, rfl⟩
        · replace h1' := (ifF hc').symm.trans h1'
          refine skipN ?_
          refine wpV_region ?_
          refine ops H' ?_
          refine opsN ?_
          obtain rfl := Option.some.inj h1'
          exact shd [1, 2, 8, 9, 13, 14, 15] [(4, 4)] 5 ⟨_, rfl, _, _, _, rfl, rfl⟩
    · replace h1' := (ifF hc').symm.trans h1'
      refine exitN ?_
      obtain rfl := Option.some.inj h1'
      refine ⟨_, rfl, fun hr' => ?_⟩
      subst hr'
      exact shd [8, 9] [(4, 4)] 5 ⟨_, _, h0', rfl⟩
  · rintro e' ⟨n, out_, h0', rfl⟩
    unfold impl_pickBy_j1 at h0'
    refine wpV_seq1 ?_
    refine wpV_region ?_
    refine ops H' ?_
    refine opsN ?_
    refine retN ?_
    obtain rfl := Option.some.inj h0'
    exact outG H' rfl rfl
theorem W_impl_UndoOn (w : T_impl_Weave) (onto : Int) (v : Int) (r' : (List ByteArray) × Int × Int) (h0' : impl_UndoOn w onto v = some r') : Fn X 15 [.agg [.list false 1 (List.map (rL false 1 (rK .i64)) w.Parents), .list false 4 (List.map (r_T_impl_Body false) w.Bodies)], .one (.sc (.int .i64 onto)), .one (.sc (.int .i64 v))] [.one (.list true 1 (List.map rS r'.1)), .one (.sc (.int .i64 r'.2.1)), .one (.sc (.int .i64 r'.2.2))] [] := by
  have H' := And.intro t3 (And.intro t30 (And.intro t33 (And.intro t43 (And.intro t105 (And.intro t106 (And.intro R_Li64 (And.intro R_T_impl_Body (And.intro R_i64 (And.intro R_s (R_u64))))))))))
  unfold impl_UndoOn at h0'
  refine Fn.start (fn := f15) (N := 36) (res := [.tmp 6, .tmp 7, .tmp 8]) rfl rfl rfl rfl rfl (by simp) ?_
  refine enterG H' ?_
  refine wpV_seq1 ?_
  refine wpV_region ?_
  refine ops H' ?_
  refine opsN ?_
  refine wpV_seq1 ?_
  refine wpV_seq1 ?_
  refine wpV_region ?_
  refine ops H' ?_
  obtain ⟨x17, hy', h0'⟩ := Option.bind_eq_some_iff.1 h0'
  refine callG H' (fun _ => []) (W_impl_versionsCode _ _ _ hy') ?_
  refine ops H' ?_
  refine opsN ?_
  refine wpV_seq1 ?_
  refine wpV_region ?_
  refine ops H' ?_
  refine opsN ?_
  refine wpV_split (fun hc' => ?_) (fun hc' => ?_)
  · replace h0' := (ifT hc').symm.trans h0'
    refine wpV_seq1 ?_
    refine wpV_region ?_
    refine ops H' ?_
    refine opsN ?_
    refine retN ?_
    obtain rfl := Option.some.inj h0'
    exact outG H' rfl rfl
  · replace h0' := (ifF hc').symm.trans h0'
    refine skipN ?_
    refine wpV_seq1 ?_
    refine wpV_region ?_
    refine ops H' ?_
    obtain ⟨x23, hy', h0'⟩ := Option.bind_eq_some_iff.1 h0'
    refine callG H' (fun _ => []) (W_impl_closures _ _ hy') ?_
    obtain ⟨x, hv', h0'⟩ := Option.bind_eq_some_iff.1 h0'
    have H' := And.intro (geti_f hv') H'
    refine ops H' ?_
    refine opsN ?_
    refine wpV_seq1 ?_
    refine wpV_region ?_
    refine ops H' ?_
    refine opsV_frz H' 10 ?_
    refine opsV_frz H' 5 ?_
    refine opsV_mkF H' ?_
    refine opsV_mkF H' ?_
    obtain ⟨x31, hy', h0'⟩ := Option.bind_eq_some_iff.1 h0'
    refine callG H' (fun _ => []) (W_impl_pickBy__2__2 _ (fun z0' => impl_UndoOn_c1 z0' x v) _ _ _ (fun z0' r' h' => W_impl_UndoOn_c1 z0' _ _ r' h') (fun z0' => impl_UndoOn_c2 z0' v x) _ _ _ (fun z0' r' h' => W_impl_UndoOn_c2 z0' _ _ r' h') _ hy') ?_
    refine ops H' ?_
    refine opsN ?_
    refine wpV_seq1 ?_
    refine wpV_region ?_
    refine ops H' ?_
    refine opsN ?_
    refine retN ?_
    obtain rfl := Option.some.inj h0'
    exact outG H' rfl rfl
theorem W_spec_l05Has (parents : List (List Int)) (v : Int) (r' : Bool) (h0' : spec_l05Has parents v = some r') : Fn X 66 [.one (.list false 1 (List.map (rL false 1 (rK .i64)) parents)), .one (.sc (.int .i64 v))] [.one (.sc (.bool r'))] [] := by
  have H' := And.intro t3 (And.intro t30 (And.intro R_Li64 (R_i64)))
  unfold spec_l05Has at h0'
  refine Fn.start (fn := f66) (N := 14) (res := [.tmp 4]) rfl rfl rfl rfl rfl (by simp) ?_
  refine enterG H' ?_
  refine wpV_seq1 ?_
  refine wpV_region ?_
  refine ops H' ?_
  refine opsN ?_
  refine wpV_seq1 ?_
  refine wpV_region ?_
  refine ops H' ?_
  obtain ⟨x6, hy', h0'⟩ := Option.bind_eq_some_iff.1 h0'
  refine callG H' (fun _ => []) (W_spec_GraphOk _ _ hy') ?_
  refine ops H' ?_
  obtain ⟨b, gh0', h0'⟩ := Option.bind_eq_some_iff.1 h0'
  refine opsV_cut 6 (fun e' => e' = { N := 14, np := 2, nx := 2, sl := [(13, .pl (.one (.v (.sc (.bool b)))))], ob := [] }) ?_ ?_
  · simp only [List.take_succ_cons, List.take_zero]
    refine opsV_sp (fun hc' => ?_) (fun hc' => ?_)
    · replace gh0' := (ifT hc').symm.trans gh0'
      refine ops H' ?_
      obtain ⟨x12, hy', gh0'⟩ := Option.bind_eq_some_iff.1 gh0'
      refine callG H' (fun _ => []) (W_spec_l01In _ _ _ _ hy') ?_
      refine ops H' ?_
      obtain rfl := Option.some.inj gh0'
      refine opsV_nil ?_
      exact ⟨rfl, shd [13] [] 2 rfl⟩
    · replace gh0' := (ifF hc').symm.trans gh0'
      refine ops H' ?_
      obtain rfl := Option.some.inj gh0'
      refine opsV_nil ?_
      exact ⟨rfl, shd [13] [] 2 rfl⟩
  · rintro e' rfl
    simp only [List.drop_succ_cons, List.drop_zero]
    refine ops H' ?_
    refine opsN ?_
    refine retN ?_
    obtain rfl := Option.some.inj h0'
    exact outG H' rfl rfl
theorem W_spec_IsAncestor (parents : List (List Int)) (a : Int) (b : Int) (r' : Bool) (h0' : spec_IsAncestor parents a b = some r') : Fn X 16 [.one (.list false 1 (List.map (rL false 1 (rK .i64)) parents)), .one (.sc (.int .i64 a)), .one (.sc (.int .i64 b))] [.one (.sc (.bool r'))] [] := by
  have H' := And.intro t3 (And.intro t4 (And.intro t43 (And.intro t115 (And.intro R_Li64 (And.intro R_b (R_i64))))))
  unfold spec_IsAncestor at h0'
  refine Fn.start (fn := f16) (N := 24) (res := [.tmp 6]) rfl rfl rfl rfl rfl (by simp) ?_
  refine enterG H' ?_
  refine wpV_seq1 ?_
  refine wpV_region ?_
  refine ops H' ?_
  refine opsN ?_
  refine wpV_seq1 ?_
  refine wpV_region ?_
  refine ops H' ?_
  obtain ⟨x9, hy', h0'⟩ := Option.bind_eq_some_iff.1 h0'
  refine callG H' (fun _ => []) (W_spec_l05Has _ _ _ hy') ?_
  refine ops H' ?_
  obtain ⟨b_1, gh0', h0'⟩ := Option.bind_eq_some_iff.1 h0'
  refine opsV_cut 4 (fun e' => e' = { N := 24, np := 3, nx := 3, sl := [(0, .pl (.one (.v (.list false 1 (List.map (rL false 1 (rK .i64)) parents))))), (1, .pl (.one (.v (.sc (.int .i64 a))))), (2, .pl (.one (.v (.sc (.int .i64 b))))), (14, .pl (.one (.v (.sc (.bool b_1)))))], ob := [] }) ?_ ?_
  · simp only [List.take_succ_cons, List.take_zero]
    refine opsV_sp (fun hc' => ?_) (fun hc' => ?_)
    · replace gh0' := (ifT hc').symm.trans gh0'
      refine ops H' ?_
      obtain ⟨x13, hy', gh0'⟩ := Option.bind_eq_some_iff.1 gh0'
      refine callG H' (fun _ => []) (W_spec_l05Has _ _ _ hy') ?_
      refine ops H' ?_
      obtain rfl := Option.some.inj gh0'
      refine opsV_nil ?_
      exact ⟨rfl, shd [0, 1, 2, 14] [] 3 rfl⟩
    · replace gh0' := (ifF hc').symm.trans gh0'
      refine ops H' ?_
      obtain rfl := Option.some.inj gh0'
      refine opsV_nil ?_
      exact ⟨rfl, shd [0, 1, 2, 14] [] 3 rfl⟩
  · rintro e' rfl
    simp only [List.drop_succ_cons, List.drop_zero]
    refine ops H' ?_
    obtain ⟨b_2, gh0', h0'⟩ := Option.bind_eq_some_iff.1 h0'
    refine opsV_cut 8 (fun e' => e' = { N := 24, np := 3, nx := 3, sl := [(23, .pl (.one (.v (.sc (.bool b_2)))))], ob := [] }) ?_ ?_
    · simp only [List.take_succ_cons, List.take_zero]
      refine opsV_sp (fun hc' => ?_) (fun hc' => ?_)
      · replace gh0' := (ifT hc').symm.trans gh0'
        refine ops H' ?_
        obtain ⟨x19, hy', gh0'⟩ := Option.bind_eq_some_iff.1 gh0'
        refine callG H' (fun _ => []) (W_spec_l05Set _ _ _ hy') ?_
        obtain ⟨x, hv', gh0'⟩ := Option.bind_eq_some_iff.1 gh0'
        have H' := And.intro (geti_f hv') H'
        refine ops H' ?_
        obtain rfl := Option.some.inj gh0'
        refine opsV_nil ?_
        exact ⟨rfl, shd [23] [] 3 rfl⟩
      · replace gh0' := (ifF hc').symm.trans gh0'
        refine ops H' ?_
        obtain rfl := Option.some.inj gh0'
        refine opsV_nil ?_
        exact ⟨rfl, shd [23] [] 3 rfl⟩
    · rintro e' rfl
      simp only [List.drop_succ_cons, List.drop_zero]
      refine ops H' ?_
      refine opsN ?_
      refine retN ?_
      obtain rfl := Option.some.inj h0'
      exact outG H' rfl rfl
theorem W_laws_sameTexts (a : List ByteArray) (b : List ByteArray) (r' : Bool) (h0' : laws_sameTexts a b = some r') : Fn X 17 [.one (.list false 1 (List.map rS a)), .one (.list false 1 (List.map rS b))] [.one (.sc (.bool r'))] [] := by
  have H' := And.intro t3 (And.intro t9 (And.intro t36 (R_s)))
  unfold laws_sameTexts at h0'
  refine Fn.start (fn := f17) (N := 26) (res := [.tmp 4]) rfl rfl rfl rfl rfl (by simp) ?_
  refine enterG H' ?_
  refine wpV_seq1 ?_
  refine wpV_region ?_
  refine ops H' ?_
  refine opsN ?_
  refine wpV_seq1 ?_
  refine wpV_seq1 ?_
  refine wpV_region ?_
  refine ops H' ?_
  refine opsN ?_
  refine wpV_split (fun hc' => ?_) (fun hc' => ?_)
  · replace h0' := (ifT hc').symm.trans h0'
    refine wpV_seq1 ?_
    refine wpV_region ?_
    refine ops H' ?_
    refine opsN ?_
    refine retN ?_
    obtain rfl := Option.some.inj h0'
    exact outG H' rfl rfl
  · replace h0' := (ifF hc').symm.trans h0'
    refine skipN ?_
    refine wpV_seqJ (fun e' => laws_sameTexts_j1 = some r' ∧ e' = { N := 26, np := 2, nx := 2, sl := [], ob := [] }) ?_ ?_
    · refine wpV_seq1 ?_
      refine wpV_region ?_
      refine ops H' ?_
      refine opsN ?_
      obtain ⟨p, hl', h0'⟩ := Option.bind_eq_some_iff.1 h0'
      refine wpV_block ?_
      refine wpV_loopM (fun i e' => e' = { N := 26, np := 2, nx := 2, sl := [(0, .pl (.one (.v (.list false 1 (List.map rS a))))), (1, .pl (.one (.v (.list false 1 (List.map rS b))))), (5, .pl (.one (.v (.sc (.int .i64 i)))))], ob := [] }) hl' (shd [0, 1, 5] [] 2 rfl) ?_
      rintro i y1' e' h1' rfl
      replace h1' : laws_sameTexts_l1 a b i = some y1' := h1'
      unfold laws_sameTexts_l1 at h1'
      refine wpV_seq1 ?_
      refine wpV_seq1 ?_
      refine wpV_region ?_
      refine ops H' ?_
      refine opsN ?_
      refine wpV_split (fun hc' => ?_) (fun hc' => ?_)
      · replace h1' := (ifT hc').symm.trans h1'
        refine skipN ?_
        refine wpV_seq1 ?_
        refine wpV_block ?_
        refine wpV_seq1 ?_
        refine regQ ?_
        obtain ⟨x, hv', h1'⟩ := Option.bind_eq_some_iff.1 h1'
        have H' := And.intro (geti_f hv') H'
        obtain ⟨x_1, hv', h1'⟩ := Option.bind_eq_some_iff.1 h1'
        have H' := And.intro (geti_f hv') H'
        refine ops H' ?_
        refine quN ?_
        refine wpV_split (fun hc' => ?_) (fun hc' => ?_)
        · replace h1' := (ifT hc').symm.trans h1'
          refine wpV_seq1 ?_
          refine wpV_region ?_
          refine ops H' ?_
          refine opsN ?_
          refine retN ?_
          obtain rfl := Option.some.inj h1'
          refine ⟨_, rfl, fun hr' => ?_⟩
          subst hr'
          obtain rfl := Option.some.inj h0'
          exact outG H' rfl rfl
        · replace h1' := (ifF hc').symm.trans h1'
          refine skipN ?_
          refine wpV_region ?_
          refine ops H' ?_
          refine opsN ?_
          obtain rfl := Option.some.inj h1'
          exact shd [0, 1, 5] [] 2 ⟨_, rfl, rfl⟩
      · replace h1' := (ifF hc').symm.trans h1'
        refine exitN ?_
        obtain rfl := Option.some.inj h1'
        refine ⟨_, rfl, fun hr' => ?_⟩
        subst hr'
        exact shd [] [] 2 ⟨h0', rfl⟩
    · rintro e' ⟨h0', rfl⟩
      unfold laws_sameTexts_j1 at h0'
      refine wpV_seq1 ?_
      refine wpV_region ?_
      refine ops H' ?_
      refine opsN ?_
      refine retN ?_
      obtain rfl := Option.some.inj h0'
      exact outG H' rfl rfl
theorem W_spec_BornIn (w : T_impl_Weave) (v : Int) (r' : (List Int)) (h0' : spec_BornIn w v = some r') : Fn X 18 [.agg [.list false 1 (List.map (rL false 1 (rK .i64)) w.Parents), .list false 4 (List.map (r_T_impl_Body false) w.Bodies)], .one (.sc (.int .i64 v))] [.one (.list true 1 (List.map (rK .i64) r'))] [] := by
  have H' := And.intro t3 (And.intro t31 (And.intro t33 (And.intro t43 (And.intro t110 (And.intro R_Li64 (And.intro R_T_impl_Body (R_i64)))))))
  unfold spec_BornIn at h0'
  refine Fn.start (fn := f18) (N := 32) (res := [.tmp 4]) rfl rfl rfl rfl rfl (by simp) ?_
  refine enterG H' ?_
  refine wpV_seq1 ?_
  refine wpV_region ?_
  refine ops H' ?_
  refine opsN ?_
  refine wpV_seq1 ?_
  refine wpV_region ?_
  refine ops H' ?_
  refine opsN ?_
  refine wpV_seq1 ?_
  refine wpV_seq1 ?_
  refine wpV_region ?_
  refine ops H' ?_
  obtain ⟨x9, hy', h0'⟩ := Option.bind_eq_some_iff.1 h0'
  refine callG H' (fun _ => []) (W_spec_WeaveOk _ _ hy') ?_
  refine ops H' ?_
  refine opsN ?_
  refine wpV_split (fun hc' => ?_) (fun hc' => ?_)
  · replace h0' := (ifT hc').symm.trans h0'
    refine wpV_seq1 ?_
    refine wpV_region ?_
    refine ops H' ?_
    refine opsN ?_
    refine retN ?_
    obtain rfl := Option.some.inj h0'
    exact outG H' rfl rfl
  · replace h0' := (ifF hc').symm.trans h0'
    refine skipN ?_
    refine wpV_seqJ (fun e' => ∃ out_, spec_BornIn_j1 out_ = some r' ∧ e' = { N := 32, np := 3, nx := 4, sl := [(5, .pl (.one (.ref 3 [])))], ob := [(3, .list true 1 (List.map (rK .i64) out_))] }) ?_ ?_
    · refine wpV_seq1 ?_
      refine wpV_region ?_
      refine ops H' ?_
      refine opsN ?_
      obtain ⟨p, hl', h0'⟩ := Option.bind_eq_some_iff.1 h0'
      refine wpV_block ?_
      refine wpV_loopM (fun s' e' => ∃ i out__1, s' = (i, out__1) ∧ e' = { N := 32, np := 3, nx := 5, sl := [(1, .pl (.one (.v (.sc (.int .i64 v))))), (2, .pl (.one (.ref 3 []))), (5, .pl (.one (.ref 4 []))), (6, .pl (.one (.v (.sc (.int .i64 i)))))], ob := [(3, .box true [.list false 1 (List.map (rL false 1 (rK .i64)) w.Parents), .list false 4 (List.map (r_T_impl_Body false) w.Bodies)]), (4, .list true 1 (List.map (rK .i64) out__1))] }) hl' (shd [1, 2, 5, 6] [(3, 3), (5, 4)] 5 ⟨_, _, rfl, rfl⟩) ?_
      rintro s' y1' e' h1' ⟨i, out__1, rfl, rfl⟩
      replace h1' : spec_BornIn_l1 w v i out__1 = some y1' := h1'
      unfold spec_BornIn_l1 at h1'
      refine wpV_seq1 ?_
      refine wpV_seq1 ?_
      refine wpV_region ?_
      refine ops H' ?_
      refine opsN ?_
      refine wpV_split (fun hc' => ?_) (fun hc' => ?_)
      · replace h1' := (ifT hc').symm.trans h1'
        refine skipN ?_
        refine wpV_seq1 ?_
        refine wpV_block ?_
        refine wpV_seq1 ?_
        refine wpV_region ?_
        obtain ⟨x, hv', h1'⟩ := Option.bind_eq_some_iff.1 h1'
        have H' := And.intro (geti_f hv') H'
        refine ops H' ?_
        refine opsN ?_
        refine wpV_split (fun hc' => ?_) (fun hc' => ?_)
        · replace h1' := (ifT hc').symm.trans h1'
          refine wpV_region ?_
          obtain ⟨l, hv', h1'⟩ := Option.bind_eq_some_iff.1 h1'
          have H' := And.intro (app1_f hv') H'
          refine ops H' ?_
          refine opsN ?_
          refine wpV_region ?_
          refine ops H' ?_
          refine opsN ?_
          obtain rfl := Option.some.inj h1'
          exact shd [1, 2, 5, 6] [(3, 3), (4, 4)] 5 ⟨_, rfl, _, _, rfl, rfl⟩
        · replace h1' := (ifF hc').symm.trans h1'
          refine skipN ?_
          refine wpV_region ?_
          refine ops H' ?_
          refine opsN ?_
          obtain rfl := Option.some.inj h1'
          exact shd [1, 2, 5, 6] [(3, 3), (4, 4)] 5 ⟨_, rfl, _, _, rfl, rfl⟩
      · replace h1' := (ifF hc').symm.trans h1'
        refine exitN ?_
        obtain rfl := Option.some.inj h1'
        refine ⟨_, rfl, fun hr' => ?_⟩
        subst hr'
        exact shd [5] [(4, 3)] 4 ⟨_, h0', rfl⟩
    · rintro e' ⟨out_, h0', rfl⟩
      unfold spec_BornIn_j1 at h0'
      refine wpV_seq1 ?_
      refine wpV_region ?_
      refine ops H' ?_
      refine opsN ?_
      refine retN ?_
      obtain rfl := Option.some.inj h0'
      exact outG H' rfl rfl
theorem W_spec_l05List (in_ : List Bool) (r' : (List Int)) (h0' : spec_l05List in_ = some r') : Fn X 70 [.one (.list false 1 (List.map rB in_))] [.one (.list true 1 (List.map (rK .i64) r'))] [] := by
  have H' := And.intro t3 (And.intro t4 (And.intro t43 (And.intro t115 (And.intro R_b (R_i64)))))
  unfold spec_l05List at h0'
  refine Fn.start (fn := f70) (N := 21) (res := [.tmp 2]) rfl rfl rfl rfl rfl (by simp) ?_
  refine enterG H' ?_
  refine wpV_seq1 ?_
  refine wpV_region ?_
  refine ops H' ?_
  refine opsN ?_
  refine wpV_seq1 ?_
  refine wpV_region ?_
  refine ops H' ?_
  refine opsN ?_
  refine wpV_seqJ (fun e' => ∃ out_, spec_l05List_j1 out_ = some r' ∧ e' = { N := 21, np := 1, nx := 2, sl := [(3, .pl (.one (.ref 1 [])))], ob := [(1, .list true 1 (List.map (rK .i64) out_))] }) ?_ ?_
  · refine wpV_seq1 ?_
    refine wpV_region ?_
    refine ops H' ?_
    refine opsN ?_
    obtain ⟨p, hl', h0'⟩ := Option.bind_eq_some_iff.1 h0'
    refine wpV_block ?_
    refine wpV_loopM (fun s' e' => ∃ v out__1, s' = (v, out__1) ∧ e' = { N := 21, np := 1, nx := 2, sl := [(0, .pl (.one (.v (.list false 1 (List.map rB in_))))), (3, .pl (.one (.ref 1 []))), (4, .pl (.one (.v (.sc (.int .i64 v)))))], ob := [(1, .list true 1 (List.map (rK .i64) out__1))] }) hl' (shd [0, 3, 4] [(2, 1)] 2 ⟨_, _, rfl, rfl⟩) ?_
    rintro s' y1' e' h1' ⟨v, out__1, rfl, rfl⟩
    replace h1' : spec_l05List_l1 in_ v out__1 = some y1' := h1'
    unfold spec_l05List_l1 at h1'
    refine wpV_seq1 ?_
    refine wpV_seq1 ?_
    refine wpV_region ?_
    refine ops H' ?_
    refine opsN ?_
    refine wpV_split (fun hc' => ?_) (fun hc' => ?_)
    · replace h1' := (ifT hc').symm.trans h1'
      refine skipN ?_
      refine wpV_seq1 ?_
      refine wpV_block ?_
      refine wpV_seq1 ?_
      refine wpV_region ?_
      obtain ⟨x, hv', h1'⟩ := Option.bind_eq_some_iff.1 h1'
      have H' := And.intro (geti_f hv') H'
      refine ops H' ?_
      refine opsN ?_
      refine wpV_split (fun hc' => ?_) (fun hc' => ?_)
      · replace h1' := (ifT hc').symm.trans h1'
        refine wpV_region ?_
        obtain ⟨l, hv', h1'⟩ := Option.bind_eq_some_iff.1 h1'
        have H' := And.intro (app1_f hv') H'
        refine ops H' ?_
        refine opsN ?_
        refine wpV_region ?_
        refine ops H' ?_
        refine opsN ?_
        obtain rfl := Option.some.inj h1'
        exact shd [0, 3, 4] [(1, 1)] 2 ⟨_, rfl, _, _, rfl, rfl⟩
      · replace h1' := (ifF hc').symm.trans h1'
        refine skipN ?_
        refine wpV_region ?_
        refine ops H' ?_
        refine opsN ?_
        obtain rfl := Option.some.inj h1'
        exact shd [0, 3, 4] [(1, 1)] 2 ⟨_, rfl, _, _, rfl, rfl⟩
    · replace h1' := (ifF hc').symm.trans h1'
      refine exitN ?_
      obtain rfl := Option.some.inj h1'
      refine ⟨_, rfl, fun hr' => ?_⟩
      subst hr'
      exact shd [3] [(1, 1)] 2 ⟨_, h0', rfl⟩
  · rintro e' ⟨out_, h0', rfl⟩
    unfold spec_l05List_j1 at h0'
    refine wpV_seq1 ?_
    refine wpV_region ?_
    refine ops H' ?_
    refine opsN ?_
    refine retN ?_
    obtain rfl := Option.some.inj h0'
    exact outG H' rfl rfl
theorem W_spec_ClosureOf (parents : List (List Int)) (v : Int) (r' : (List Int)) (h0' : spec_ClosureOf parents v = some r') : Fn X 20 [.one (.list false 1 (List.map (rL false 1 (rK .i64)) parents)), .one (.sc (.int .i64 v))] [.one (.list true 1 (List.map (rK .i64) r'))] [] := by
  have H' := And.intro t3 (And.intro t43 (And.intro R_Li64 (And.intro R_b (R_i64))))
  unfold spec_ClosureOf at h0'
  refine Fn.start (fn := f20) (N := 15) (res := [.tmp 4]) rfl rfl rfl rfl rfl (by simp) ?_
  refine enterG H' ?_
  refine wpV_seq1 ?_
  refine wpV_region ?_
  refine ops H' ?_
  refine opsN ?_
  refine wpV_seq1 ?_
  refine wpV_seq1 ?_
  refine wpV_region ?_
  refine ops H' ?_
  obtain ⟨x7, hy', h0'⟩ := Option.bind_eq_some_iff.1 h0'
  refine callG H' (fun _ => []) (W_spec_l05Has _ _ _ hy') ?_
  refine ops H' ?_
  refine opsN ?_
  refine wpV_split (fun hc' => ?_) (fun hc' => ?_)
  · replace h0' := (ifT hc').symm.trans h0'
    refine wpV_seq1 ?_
    refine wpV_region ?_
    refine ops H' ?_
    refine opsN ?_
    refine retN ?_
    obtain rfl := Option.some.inj h0'
    exact outG H' rfl rfl
  · replace h0' := (ifF hc').symm.trans h0'
    refine skipN ?_
    refine wpV_seq1 ?_
    refine wpV_region ?_
    refine ops H' ?_
    obtain ⟨x13, hy', h0'⟩ := Option.bind_eq_some_iff.1 h0'
    refine callG H' (fun _ => []) (W_spec_l05Set _ _ _ hy') ?_
    obtain ⟨x14, hy', h0'⟩ := Option.bind_eq_some_iff.1 h0'
    refine callG H' (fun _ => []) (W_spec_l05List _ _ hy') ?_
    refine ops H' ?_
    refine opsN ?_
    refine retN ?_
    obtain rfl := Option.some.inj h0'
    exact outG H' rfl rfl
theorem W_spec_LiveIn (w : T_impl_Weave) (set : List Int) (r' : (List Int)) (h0' : spec_LiveIn w set = some r') : Fn X 19 [.agg [.list false 1 (List.map (rL false 1 (rK .i64)) w.Parents), .list false 4 (List.map (r_T_impl_Body false) w.Bodies)], .one (.list false 1 (List.map (rK .i64) set))] [.one (.list true 1 (List.map (rK .i64) r'))] [] := by
  have H' := And.intro t3 (And.intro t4 (And.intro t30 (And.intro t33 (And.intro t43 (And.intro t115 (And.intro R_Li64 (And.intro R_T_impl_Body (And.intro R_b (R_i64)))))))))
  unfold spec_LiveIn at h0'
  refine Fn.start (fn := f19) (N := 38) (res := [.tmp 4]) rfl rfl rfl rfl rfl (by simp) ?_
  refine enterG H' ?_
  refine wpV_seq1 ?_
  refine wpV_region ?_
  refine ops H' ?_
  refine opsN ?_
  refine wpV_seq1 ?_
  refine wpV_seq1 ?_
  refine wpV_region ?_
  refine ops H' ?_
  obtain ⟨x8, hy', h0'⟩ := Option.bind_eq_some_iff.1 h0'
  refine callG H' (fun _ => []) (W_spec_WeaveOk _ _ hy') ?_
  refine ops H' ?_
  refine opsN ?_
  refine wpV_split (fun hc' => ?_) (fun hc' => ?_)
  · replace h0' := (ifT hc').symm.trans h0'
    refine wpV_seq1 ?_
    refine wpV_region ?_
    refine ops H' ?_
    refine opsN ?_
    refine retN ?_
    obtain rfl := Option.some.inj h0'
    exact outG H' rfl rfl
  · replace h0' := (ifF hc').symm.trans h0'
    refine skipN ?_
    refine wpV_seq1 ?_
    refine wpV_region ?_
    obtain ⟨x14, hv', h0'⟩ := Option.bind_eq_some_iff.1 h0'
    have H' := And.intro (mkl_f hv') H'
    refine ops H' ?_
    refine opsN ?_
    refine wpV_seqJ (fun e' => ∃ in_, spec_LiveIn_j1 w in_ = some r' ∧ e' = { N := 38, np := 3, nx := 5, sl := [(2, .pl (.one (.ref 3 []))), (5, .pl (.one (.ref 4 [])))], ob := [(3, .box true [.list false 1 (List.map (rL false 1 (rK .i64)) w.Parents), .list false 4 (List.map (r_T_impl_Body false) w.Bodies)]), (4, .list true 1 (List.map rB in_))] }) ?_ ?_
    · refine wpV_seq1 ?_
      refine wpV_region ?_
      refine ops H' ?_
      refine opsN ?_
      obtain ⟨p, hl', h0'⟩ := Option.bind_eq_some_iff.1 h0'
      refine wpV_block ?_
      refine wpV_loopM (fun s' e' => ∃ i in__1, s' = (i, in__1) ∧ e' = { N := 38, np := 3, nx := 5, sl := [(1, .pl (.one (.v (.list false 1 (List.map (rK .i64) set))))), (2, .pl (.one (.ref 3 []))), (5, .pl (.one (.ref 4 []))), (6, .pl (.one (.v (.sc (.int .i64 i)))))], ob := [(3, .box true [.list false 1 (List.map (rL false 1 (rK .i64)) w.Parents), .list false 4 (List.map (r_T_impl_Body false) w.Bodies)]), (4, .list true 1 (List.map rB in__1))] }) hl' (shd [1, 2, 5, 6] [(3, 3), (6, 4)] 5 ⟨_, _, rfl, rfl⟩) ?_
      rintro s' y1' e' h1' ⟨i, in__1, rfl, rfl⟩
      replace h1' : spec_LiveIn_l1 set i in__1 = some y1' := h1'
      unfold spec_LiveIn_l1 at h1'
      refine wpV_seq1 ?_
      refine wpV_seq1 ?_
      refine wpV_region ?_
      refine ops H' ?_
      refine opsN ?_
      refine wpV_split (fun hc' => ?_) (fun hc' => ?_)
      · replace h1' := (ifT hc').symm.trans h1'
        refine skipN ?_
        refine wpV_seq1 ?_
        refine wpV_block ?_
        refine wpV_seq1 ?_
        refine wpV_region ?_
        obtain ⟨x, hv', h1'⟩ := Option.bind_eq_some_iff.1 h1'
        have H' := And.intro (geti_f hv') H'
        refine ops H' ?_
        obtain ⟨x28, hy', h1'⟩ := Option.bind_eq_some_iff.1 h1'
        refine callG H' (fun _ => []) (W_spec_l01In _ _ _ _ hy') ?_
        refine opsN ?_
        refine wpV_split (fun hc' => ?_) (fun hc' => ?_)
        · replace h1' := (ifT hc').symm.trans h1'
          refine wpV_region ?_
          obtain ⟨x_1, hv', h1'⟩ := Option.bind_eq_some_iff.1 h1'
          have H' := And.intro (geti_f hv') H'
          refine ops H' ?_
          refine opsN ?_
          refine wpV_region ?_
          refine ops H' ?_
          refine opsN ?_
          obtain rfl := Option.some.inj h1'
          exact shd [1, 2, 5, 6] [(3, 3), (4, 4)] 5 ⟨_, rfl, _, _, rfl, rfl⟩
        · replace h1' := (ifF hc').symm.trans h1'
          refine skipN ?_
          refine wpV_region ?_
          refine ops H' ?_
          refine opsN ?_
          obtain rfl := Option.some.inj h1'
          exact shd [1, 2, 5, 6] [(3, 3), (4, 4)] 5 ⟨_, rfl, _, _, rfl, rfl⟩
      · replace h1' := (ifF hc').symm.trans h1'
        refine exitN ?_
        obtain rfl := Option.some.inj h1'
        refine ⟨_, rfl, fun hr' => ?_⟩
        subst hr'
        exact shd [2, 5] [(3, 3), (4, 4)] 5 ⟨_, h0', rfl⟩
    · rintro e' ⟨in_, h0', rfl⟩
      unfold spec_LiveIn_j1 at h0'
      refine wpV_seq1 ?_
      refine wpV_region ?_
      refine ops H' ?_
      obtain ⟨x37, hy', h0'⟩ := Option.bind_eq_some_iff.1 h0'
      refine callG H' (fun _ => []) (W_spec_l06Places _ _ _ hy') ?_
      refine ops H' ?_
      refine opsN ?_
      refine retN ?_
      obtain rfl := Option.some.inj h0'
      exact outG H' rfl rfl
theorem W_laws_within (list_ : List Int) (x : Int) (r' : Bool) (h0' : laws_within list_ x = some r') : Fn X 21 [.one (.list false 1 (List.map (rK .i64) list_)), .one (.sc (.int .i64 x))] [.one (.sc (.bool r'))] [] := by
  have H' := And.intro t3 (And.intro t43 (R_i64))
  unfold laws_within at h0'
  refine Fn.start (fn := f21) (N := 18) (res := [.tmp 4]) rfl rfl rfl rfl rfl (by simp) ?_
  refine enterG H' ?_
  refine wpV_seq1 ?_
  refine wpV_region ?_
  refine ops H' ?_
  refine opsN ?_
  refine wpV_seqJ (fun e' => laws_within_j1 = some r' ∧ e' = { N := 18, np := 2, nx := 2, sl := [], ob := [] }) ?_ ?_
  · refine wpV_seq1 ?_
    refine wpV_region ?_
    refine ops H' ?_
    refine opsN ?_
    obtain ⟨p, hl', h0'⟩ := Option.bind_eq_some_iff.1 h0'
    refine wpV_block ?_
    refine wpV_loopM (fun i e' => e' = { N := 18, np := 2, nx := 2, sl := [(0, .pl (.one (.v (.list false 1 (List.map (rK .i64) list_))))), (1, .pl (.one (.v (.sc (.int .i64 x))))), (5, .pl (.one (.v (.sc (.int .i64 i)))))], ob := [] }) hl' (shd [0, 1, 5] [] 2 rfl) ?_
    rintro i y1' e' h1' rfl
    replace h1' : laws_within_l1 list_ x i = some y1' := h1'
    unfold laws_within_l1 at h1'
    refine wpV_seq1 ?_
    refine wpV_seq1 ?_
    refine wpV_region ?_
    refine ops H' ?_
    refine opsN ?_
    refine wpV_split (fun hc' => ?_) (fun hc' => ?_)
    · replace h1' := (ifT hc').symm.trans h1'
      refine skipN ?_
      refine wpV_seq1 ?_
      refine wpV_block ?_
      refine wpV_seq1 ?_
      refine wpV_region ?_
      obtain ⟨x_1, hv', h1'⟩ := Option.bind_eq_some_iff.1 h1'
      have H' := And.intro (geti_f hv') H'
      refine ops H' ?_
      refine opsN ?_
      refine wpV_split (fun hc' => ?_) (fun hc' => ?_)
      · replace h1' := (ifT hc').symm.trans h1'
        refine wpV_seq1 ?_
        refine wpV_region ?_
        refine ops H' ?_
        refine opsN ?_
        refine retN ?_
        obtain rfl := Option.some.inj h1'
        refine ⟨_, rfl, fun hr' => ?_⟩
        subst hr'
        obtain rfl := Option.some.inj h0'
        exact outG H' rfl rfl
      · replace h1' := (ifF hc').symm.trans h1'
        refine skipN ?_
        refine wpV_region ?_
        refine ops H' ?_
        refine opsN ?_
        obtain rfl := Option.some.inj h1'
        exact shd [0, 1, 5] [] 2 ⟨_, rfl, rfl⟩
    · replace h1' := (ifF hc').symm.trans h1'
      refine exitN ?_
      obtain rfl := Option.some.inj h1'
      refine ⟨_, rfl, fun hr' => ?_⟩
      subst hr'
      exact shd [] [] 2 ⟨h0', rfl⟩
  · rintro e' ⟨h0', rfl⟩
    unfold laws_within_j1 at h0'
    refine wpV_seq1 ?_
    refine wpV_region ?_
    refine ops H' ?_
    refine opsN ?_
    refine retN ?_
    obtain rfl := Option.some.inj h0'
    exact outG H' rfl rfl
end Go.TV.KFnUndoes
