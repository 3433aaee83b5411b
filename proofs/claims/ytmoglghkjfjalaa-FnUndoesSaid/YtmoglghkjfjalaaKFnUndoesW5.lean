/- Walks. -/
import Derived.Test.YtmoglghkjfjalaaKFnUndoesE
import Derived.Test.YtmoglghkjfjalaaKFnUndoesW0
import Derived.Test.YtmoglghkjfjalaaKFnUndoesW3
import Derived.Test.YtmoglghkjfjalaaKFnUndoesW4
set_option linter.unusedVariables false
set_option linter.unusedSimpArgs false
set_option maxHeartbeats 8000000
set_option maxRecDepth 100000
namespace Go.TV.KFnUndoes
attribute [local irreducible] anyV wpV opsV Does thenV blockV RetL quV seqV
open Go.Proofs.Try Go.TV.F
theorem W_spec_l06Text (w : T_impl_Weave) (v : Int) (r' : (List ByteArray)) (h0' : spec_l06Text w v = some r') : Fn X 58 [.agg [.list false 1 (List.map (rL false 1 (rK .i64)) w.Parents), .list false 4 (List.map (r_T_impl_Body false) w.Bodies)], .one (.sc (.int .i64 v))] [.one (.list true 1 (List.map rS r'))] [] := by
  have H' := And.intro t33 (And.intro R_Li64 (And.intro R_T_impl_Body (And.intro R_b (And.intro R_i64 (R_s)))))
  unfold spec_l06Text at h0'
  refine Fn.start (fn := f58) (N := 12) (res := [.tmp 4]) rfl rfl rfl rfl rfl (by simp) ?_
  refine enterG H' ?_
  refine wpV_seq1 ?_
  refine wpV_region ?_
  refine ops H' ?_
  refine opsN ?_
  refine wpV_seq1 ?_
  obtain ⟨x9, hy_x9, h0'⟩ := Option.bind_eq_some_iff.1 h0'
  obtain ⟨x10, hy_x10, h0'⟩ := Option.bind_eq_some_iff.1 h0'
  obtain ⟨x11, hy_x11, h0'⟩ := Option.bind_eq_some_iff.1 h0'
  refine wpV_J (fun e' => e' = { N := 12, np := 3, nx := 4, sl := [(4, .pl (.one (.ref 3 [])))], ob := [(3, .list true 1 (List.map rS x11))] }) ?_ ?_
  · refine regAnyF [(0, 5, .pl (.agg [.v (.list false 1 (List.map (rL false 1 (rK .i64)) w.Parents)), .v (.list false 4 (List.map (r_T_impl_Body false) w.Bodies))])), (1, 6, .pl (.agg [.v (.list false 1 (List.map (rL false 1 (rK .i64)) w.Parents)), .v (.list false 4 (List.map (r_T_impl_Body false) w.Bodies))])), (2, 7, .pl (.agg [.v (.list false 1 (List.map (rL false 1 (rK .i64)) w.Parents)), .v (.list false 4 (List.map (r_T_impl_Body false) w.Bodies))]))] ?_
    refine (?_ : anyF X ?ops1_0_0 _ _ ?P1_0_0 _)
    have d1_0_0_0' : anyF X ?ops1_0_0 [0, 1, 2, 3, 4, 5, 6, 7] [] ?P1_0_0 { N := 12, np := 3, nx := 4, sl := [(4, .pl (.one (.ref 3 [])))], ob := [(3, .list true 1 (List.map rS x11))] } := by
      refine fend (e2 := { N := 12, np := 3, nx := 4, sl := [(4, .pl (.one (.ref 3 [])))], ob := [(3, .list true 1 (List.map rS x11))] }) [] [] [] [] trivial ⟨rfl, shd [4] [(3, 3)] 4 rfl⟩
    have d1_0_0_1' : anyF X ?ops1_0_0 [0, 1, 2, 3, 4, 5, 6] [] ?P1_0_0 { N := 12, np := 3, nx := 4, sl := [(11, .pl (.one (.ref 3 [])))], ob := [(3, .list true 1 (List.map rS x11))] } := by
      refine fnode [] [.m 7 [] [0, 1, 2, 3, 4, 5, 6, 7] []] [] [(7, false, [], [0, 1, 2, 3, 4, 5, 6, 7])] ⟨?_, trivial⟩
      · refine obM { N := 12, np := 3, nx := 4, sl := [(11, .pl (.one (.ref 3 [])))], ob := [(3, .list true 1 (List.map rS x11))] } ?_
        refine ops H' ?_
        refine opsV_nil ⟨rfl, .inl ⟨rfl, ?_⟩⟩
        exact anyFShd [4] [(3, 3)] 4 d1_0_0_0'
    have d1_0_0_2' : anyF X ?ops1_0_0 [1, 2, 3, 4, 5] [(0, 5, .pl (.agg [.v (.list false 1 (List.map (rL false 1 (rK .i64)) w.Parents)), .v (.list false 4 (List.map (r_T_impl_Body false) w.Bodies))]))] ?P1_0_0 { N := 12, np := 3, nx := 5, sl := [(2, .pl (.one (.ref 3 []))), (10, .pl (.one (.ref 4 [])))], ob := [(3, .box true [.list false 1 (List.map (rL false 1 (rK .i64)) w.Parents), .list false 4 (List.map (r_T_impl_Body false) w.Bodies)]), (4, .list true 1 (List.map (rK .i64) x10))] } := by
      refine fnode [0] [.q 0 5 (.pl (.agg [.v (.list false 1 (List.map (rL false 1 (rK .i64)) w.Parents)), .v (.list false 4 (List.map (r_T_impl_Body false) w.Bodies))])) [], .m 6 [0] [0, 1, 2, 3, 4, 5, 6] []] [(0, 5)] [(0, true, [], []), (6, false, [0], [0, 1, 2, 3, 4, 5, 6])] ⟨?_, ?_, trivial⟩
      · refine obQ 0 { N := 12, np := 3, nx := 5, sl := [(2, .pl (.one (.ref 3 []))), (10, .pl (.one (.ref 4 [])))], ob := [(3, .box true [.list false 1 (List.map (rL false 1 (rK .i64)) w.Parents), .list false 4 (List.map (r_T_impl_Body false) w.Bodies)]), (4, .list true 1 (List.map (rK .i64) x10))] } ?_
        refine ops H' ?_
        refine opsV_nil ⟨rfl, shd [5, 2, 10] [(3, 3), (4, 4)] 5 rfl⟩
      · refine obM { N := 12, np := 3, nx := 5, sl := [(5, .pl (.agg [.v (.list false 1 (List.map (rL false 1 (rK .i64)) w.Parents)), .v (.list false 4 (List.map (r_T_impl_Body false) w.Bodies))])), (2, .pl (.one (.ref 3 []))), (10, .pl (.one (.ref 4 [])))], ob := [(3, .box true [.list false 1 (List.map (rL false 1 (rK .i64)) w.Parents), .list false 4 (List.map (r_T_impl_Body false) w.Bodies)]), (4, .list true 1 (List.map (rK .i64) x10))] } ?_
        refine callG H' (fun _ => []) (W_spec_l06Lines _ _ _ hy_x11) ?_
        refine opsV_nil ⟨rfl, .inl ⟨rfl, ?_⟩⟩
        exact anyFShd [11] [(5, 3)] 4 d1_0_0_1'
    have d1_0_0_3' : anyF X ?ops1_0_0 [2, 3, 4] [(0, 5, .pl (.agg [.v (.list false 1 (List.map (rL false 1 (rK .i64)) w.Parents)), .v (.list false 4 (List.map (r_T_impl_Body false) w.Bodies))])), (1, 6, .pl (.agg [.v (.list false 1 (List.map (rL false 1 (rK .i64)) w.Parents)), .v (.list false 4 (List.map (r_T_impl_Body false) w.Bodies))]))] ?P1_0_0 { N := 12, np := 3, nx := 5, sl := [(2, .pl (.one (.ref 3 []))), (9, .pl (.one (.ref 4 [])))], ob := [(3, .box true [.list false 1 (List.map (rL false 1 (rK .i64)) w.Parents), .list false 4 (List.map (r_T_impl_Body false) w.Bodies)]), (4, .list true 1 (List.map rB x9))] } := by
      refine fnode [0, 1] [.q 0 5 (.pl (.agg [.v (.list false 1 (List.map (rL false 1 (rK .i64)) w.Parents)), .v (.list false 4 (List.map (r_T_impl_Body false) w.Bodies))])) [], .q 1 6 (.pl (.agg [.v (.list false 1 (List.map (rL false 1 (rK .i64)) w.Parents)), .v (.list false 4 (List.map (r_T_impl_Body false) w.Bodies))])) [], .m 5 [1] [1, 2, 3, 4, 5] [(0, 5, .pl (.agg [.v (.list false 1 (List.map (rL false 1 (rK .i64)) w.Parents)), .v (.list false 4 (List.map (r_T_impl_Body false) w.Bodies))]))]] [(0, 5), (1, 6)] [(0, true, [], []), (1, true, [], []), (5, false, [1], [1, 2, 3, 4, 5])] ⟨?_, ?_, ?_, trivial⟩
      · refine obQ 0 { N := 12, np := 3, nx := 5, sl := [(2, .pl (.one (.ref 3 []))), (9, .pl (.one (.ref 4 [])))], ob := [(3, .box true [.list false 1 (List.map (rL false 1 (rK .i64)) w.Parents), .list false 4 (List.map (r_T_impl_Body false) w.Bodies)]), (4, .list true 1 (List.map rB x9))] } ?_
        refine ops H' ?_
        refine opsV_nil ⟨rfl, shd [5, 2, 9] [(3, 3), (4, 4)] 5 rfl⟩
      · refine obQ 1 { N := 12, np := 3, nx := 5, sl := [(2, .pl (.one (.ref 3 []))), (9, .pl (.one (.ref 4 [])))], ob := [(3, .box true [.list false 1 (List.map (rL false 1 (rK .i64)) w.Parents), .list false 4 (List.map (r_T_impl_Body false) w.Bodies)]), (4, .list true 1 (List.map rB x9))] } ?_
        refine ops H' ?_
        refine opsV_nil ⟨rfl, shd [6, 2, 9] [(3, 3), (4, 4)] 5 rfl⟩
      · refine obM { N := 12, np := 3, nx := 5, sl := [(6, .pl (.agg [.v (.list false 1 (List.map (rL false 1 (rK .i64)) w.Parents)), .v (.list false 4 (List.map (r_T_impl_Body false) w.Bodies))])), (2, .pl (.one (.ref 3 []))), (9, .pl (.one (.ref 4 [])))], ob := [(3, .box true [.list false 1 (List.map (rL false 1 (rK .i64)) w.Parents), .list false 4 (List.map (r_T_impl_Body false) w.Bodies)]), (4, .list true 1 (List.map rB x9))] } ?_
        refine callG H' (fun _ => []) (W_spec_l06Places _ _ _ hy_x10) ?_
        refine opsV_nil ⟨rfl, .inl ⟨rfl, ?_⟩⟩
        exact anyFShd [2, 10] [(3, 3), (5, 4)] 5 d1_0_0_2'
    have d1_0_0_4' : anyF X ?ops1_0_0 [3] [(0, 5, .pl (.agg [.v (.list false 1 (List.map (rL false 1 (rK .i64)) w.Parents)), .v (.list false 4 (List.map (r_T_impl_Body false) w.Bodies))])), (1, 6, .pl (.agg [.v (.list false 1 (List.map (rL false 1 (rK .i64)) w.Parents)), .v (.list false 4 (List.map (r_T_impl_Body false) w.Bodies))])), (2, 7, .pl (.agg [.v (.list false 1 (List.map (rL false 1 (rK .i64)) w.Parents)), .v (.list false 4 (List.map (r_T_impl_Body false) w.Bodies))]))] ?P1_0_0 { N := 12, np := 3, nx := 4, sl := [(2, .pl (.one (.ref 3 []))), (8, .pl (.one (.v (.sc (.int .i64 v)))))], ob := [(3, .box true [.list false 1 (List.map (rL false 1 (rK .i64)) w.Parents), .list false 4 (List.map (r_T_impl_Body false) w.Bodies)])] } := by
      refine fnode [0, 1, 2] [.q 0 5 (.pl (.agg [.v (.list false 1 (List.map (rL false 1 (rK .i64)) w.Parents)), .v (.list false 4 (List.map (r_T_impl_Body false) w.Bodies))])) [], .q 1 6 (.pl (.agg [.v (.list false 1 (List.map (rL false 1 (rK .i64)) w.Parents)), .v (.list false 4 (List.map (r_T_impl_Body false) w.Bodies))])) [], .q 2 7 (.pl (.agg [.v (.list false 1 (List.map (rL false 1 (rK .i64)) w.Parents)), .v (.list false 4 (List.map (r_T_impl_Body false) w.Bodies))])) [], .m 4 [2] [2, 3, 4] [(0, 5, .pl (.agg [.v (.list false 1 (List.map (rL false 1 (rK .i64)) w.Parents)), .v (.list false 4 (List.map (r_T_impl_Body false) w.Bodies))])), (1, 6, .pl (.agg [.v (.list false 1 (List.map (rL false 1 (rK .i64)) w.Parents)), .v (.list false 4 (List.map (r_T_impl_Body false) w.Bodies))]))]] [(0, 5), (1, 6), (2, 7)] [(0, true, [], []), (1, true, [], []), (2, true, [], []), (4, false, [2], [2, 3, 4])] ⟨?_, ?_, ?_, ?_, trivial⟩
      · refine obQ 0 { N := 12, np := 3, nx := 4, sl := [(2, .pl (.one (.ref 3 []))), (8, .pl (.one (.v (.sc (.int .i64 v)))))], ob := [(3, .box true [.list false 1 (List.map (rL false 1 (rK .i64)) w.Parents), .list false 4 (List.map (r_T_impl_Body false) w.Bodies)])] } ?_
        refine ops H' ?_
        refine opsV_nil ⟨rfl, shd [5, 2, 8] [(3, 3)] 4 rfl⟩
      · refine obQ 1 { N := 12, np := 3, nx := 4, sl := [(2, .pl (.one (.ref 3 []))), (8, .pl (.one (.v (.sc (.int .i64 v)))))], ob := [(3, .box true [.list false 1 (List.map (rL false 1 (rK .i64)) w.Parents), .list false 4 (List.map (r_T_impl_Body false) w.Bodies)])] } ?_
        refine ops H' ?_
        refine opsV_nil ⟨rfl, shd [6, 2, 8] [(3, 3)] 4 rfl⟩
      · refine obQ 2 { N := 12, np := 3, nx := 4, sl := [(2, .pl (.one (.ref 3 []))), (8, .pl (.one (.v (.sc (.int .i64 v)))))], ob := [(3, .box true [.list false 1 (List.map (rL false 1 (rK .i64)) w.Parents), .list false 4 (List.map (r_T_impl_Body false) w.Bodies)])] } ?_
        refine ops H' ?_
        refine opsV_nil ⟨rfl, shd [7, 2, 8] [(3, 3)] 4 rfl⟩
      · refine obM { N := 12, np := 3, nx := 4, sl := [(7, .pl (.agg [.v (.list false 1 (List.map (rL false 1 (rK .i64)) w.Parents)), .v (.list false 4 (List.map (r_T_impl_Body false) w.Bodies))])), (2, .pl (.one (.ref 3 []))), (8, .pl (.one (.v (.sc (.int .i64 v)))))], ob := [(3, .box true [.list false 1 (List.map (rL false 1 (rK .i64)) w.Parents), .list false 4 (List.map (r_T_impl_Body false) w.Bodies)])] } ?_
        refine callG H' (fun _ => []) (W_spec_l06Closure _ _ _ hy_x9) ?_
        refine opsV_nil ⟨rfl, .inl ⟨rfl, ?_⟩⟩
        exact anyFShd [2, 9] [(3, 3), (4, 4)] 5 d1_0_0_3'
    refine fpure H' 3 [3] [(0, 5), (1, 6), (2, 7)] ?_
    exact anyFShd [2, 8] [(3, 3)] 4 d1_0_0_4'
  · rintro e' rfl
    refine contN ?_
    refine retN ?_
    obtain rfl := Option.some.inj h0'
    exact outG H' rfl rfl
theorem W_spec_Extract (w : T_impl_Weave) (v : Int) (r' : (List ByteArray) × Int) (h0' : spec_Extract w v = some r') : Fn X 14 [.agg [.list false 1 (List.map (rL false 1 (rK .i64)) w.Parents), .list false 4 (List.map (r_T_impl_Body false) w.Bodies)], .one (.sc (.int .i64 v))] [.one (.list true 1 (List.map rS r'.1)), .one (.sc (.int .i64 r'.2))] [] := by
  have H' := And.intro t9 (And.intro t33 (And.intro t36 (And.intro R_Li64 (And.intro R_T_impl_Body (And.intro R_i64 (R_s))))))
  unfold spec_Extract at h0'
  refine Fn.start (fn := f14) (N := 18) (res := [.tmp 4, .tmp 5]) rfl rfl rfl rfl rfl (by simp) ?_
  refine enterG H' ?_
  refine wpV_seq1 ?_
  refine wpV_region ?_
  refine ops H' ?_
  refine opsN ?_
  refine wpV_seq1 ?_
  refine wpV_seq1 ?_
  refine wpV_region ?_
  refine ops H' ?_
  obtain ⟨x7, hy', h0'⟩ := Option.bind_eq_some_iff.1 h0'
  refine callG H' (fun _ => []) (W_spec_WeaveOk _ _ hy') ?_
  refine ops H' ?_
  refine opsN ?_
  refine wpV_split (fun hc' => ?_) (fun hc' => ?_)
  · replace h0' := (ifT hc').symm.trans h0'
    refine wpV_seq1 ?_
    refine wpV_region ?_
    refine ops H' ?_
    refine opsN ?_
    refine retN ?_
    obtain rfl := Option.some.inj h0'
    exact outG H' rfl rfl
  · replace h0' := (ifF hc').symm.trans h0'
    refine skipN ?_
    refine wpV_seq1 ?_
    refine wpV_seq1 ?_
    refine wpV_region ?_
    refine ops H' ?_
    obtain ⟨x12, hy', h0'⟩ := Option.bind_eq_some_iff.1 h0'
    refine callG H' (fun _ => []) (W_spec_l06Has _ _ _ hy') ?_
    refine ops H' ?_
    refine opsN ?_
    refine wpV_split (fun hc' => ?_) (fun hc' => ?_)
    · replace h0' := (ifT hc').symm.trans h0'
      refine wpV_seq1 ?_
      refine wpV_region ?_
      refine ops H' ?_
      refine opsN ?_
      refine retN ?_
      obtain rfl := Option.some.inj h0'
      exact outG H' rfl rfl
    · replace h0' := (ifF hc').symm.trans h0'
      refine skipN ?_
      refine wpV_seq1 ?_
      refine wpV_region ?_
      refine ops H' ?_
      obtain ⟨x17, hy', h0'⟩ := Option.bind_eq_some_iff.1 h0'
      refine callG H' (fun _ => []) (W_spec_l06Text _ _ _ hy') ?_
      refine ops H' ?_
      refine opsN ?_
      refine retN ?_
      obtain rfl := Option.some.inj h0'
      exact outG H' rfl rfl
theorem W_impl_inRange (n : Int) (least : Int) (most : Int) (r' : Bool) (h0' : impl_inRange n least most = some r') : Fn X 105 [.one (.sc (.int .i64 n)), .one (.sc (.int .i64 least)), .one (.sc (.int .i64 most))] [.one (.sc (.bool r'))] [] := by
  have H' := t3
  unfold impl_inRange at h0'
  refine Fn.start (fn := f105) (N := 15) (res := [.tmp 6]) rfl rfl rfl rfl rfl (by simp) ?_
  refine enterG H' ?_
  refine wpV_seq1 ?_
  refine wpV_region ?_
  refine ops H' ?_
  refine opsN ?_
  refine wpV_seq1 ?_
  refine wpV_region ?_
  refine ops H' ?_
  obtain ⟨b, gh0', h0'⟩ := Option.bind_eq_some_iff.1 h0'
  refine opsV_cut 4 (fun e' => e' = { N := 15, np := 3, nx := 3, sl := [(14, .pl (.one (.v (.sc (.bool b)))))], ob := [] }) ?_ ?_
  · simp only [List.take_succ_cons, List.take_zero]
    refine opsV_sp (fun hc' => ?_) (fun hc' => ?_)
    · replace gh0' := (ifT hc').symm.trans gh0'
      refine ops H' ?_
      obtain rfl := Option.some.inj gh0'
      refine opsV_nil ?_
      exact ⟨rfl, shd [14] [] 3 rfl⟩
    · replace gh0' := (ifF hc').symm.trans gh0'
      refine ops H' ?_
      obtain rfl := Option.some.inj gh0'
      refine opsV_nil ?_
      exact ⟨rfl, shd [14] [] 3 rfl⟩
  · rintro e' rfl
    simp only [List.drop_succ_cons, List.drop_zero]
    refine ops H' ?_
    refine opsN ?_
    refine retN ?_
    obtain rfl := Option.some.inj h0'
    exact outG H' rfl rfl
theorem W_impl_ascends (list_ : List Int) (below : Int) (r' : Bool) (h0' : impl_ascends list_ below = some r') : Fn X 75 [.one (.list false 1 (List.map (rK .i64) list_)), .one (.sc (.int .i64 below))] [.one (.sc (.bool r'))] [] := by
  have H' := And.intro t3 (And.intro t43 (R_i64))
  unfold impl_ascends at h0'
  refine Fn.start (fn := f75) (N := 33) (res := [.tmp 4]) rfl rfl rfl rfl rfl (by simp) ?_
  refine enterG H' ?_
  refine wpV_seq1 ?_
  refine wpV_region ?_
  refine ops H' ?_
  refine opsN ?_
  refine wpV_seqJ (fun e' => impl_ascends_j1 = some r' ∧ e' = { N := 33, np := 2, nx := 2, sl := [], ob := [] }) ?_ ?_
  · refine wpV_seq1 ?_
    refine wpV_region ?_
    refine ops H' ?_
    refine opsN ?_
    obtain ⟨p, hl', h0'⟩ := Option.bind_eq_some_iff.1 h0'
    refine wpV_block ?_
    refine wpV_loopM (fun x9 e' => e' = { N := 33, np := 2, nx := 2, sl := [(0, .pl (.one (.v (.list false 1 (List.map (rK .i64) list_))))), (1, .pl (.one (.v (.sc (.int .i64 below))))), (7, .pl (.one (.v (.list false 1 (List.map (rK .i64) list_))))), (8, .pl (.one (.v (.sc (.int .i64 (list_.length : Int)))))), (9, .pl (.one (.v (.sc (.int .i64 x9)))))], ob := [] }) hl' (shd [0, 1, 7, 8, 9] [] 2 rfl) ?_
    rintro x9 y1' e' h1' rfl
    replace h1' : impl_ascends_l1 list_ below x9 = some y1' := h1'
    unfold impl_ascends_l1 at h1'
    refine wpV_seq1 ?_
    refine wpV_region ?_
    refine ops H' ?_
    refine opsN ?_
    refine wpV_seq1 ?_
    refine wpV_split (fun hc' => ?_) (fun hc' => ?_)
    · replace h1' := (ifT hc').symm.trans h1'
      refine skipN ?_
      refine wpV_seq1 ?_
      refine wpV_block ?_
      refine wpV_seq1 ?_
      refine wpV_region ?_
      obtain ⟨x, hv', h1'⟩ := Option.bind_eq_some_iff.1 h1'
      have H' := And.intro (geti_f hv') H'
      refine ops H' ?_
      refine opsN ?_
      refine wpV_seq1 ?_
      refine wpV_region ?_
      refine ops H' ?_
      obtain ⟨x17, hy', h1'⟩ := Option.bind_eq_some_iff.1 h1'
      refine callG H' (fun _ => []) (W_impl_inRange _ _ _ _ hy') ?_
      refine ops H' ?_
      obtain ⟨b, gh1', h1'⟩ := Option.bind_eq_some_iff.1 h1'
      refine opsV_cut 12 (fun e' => e' = { N := 33, np := 2, nx := 2, sl := [(0, .pl (.one (.v (.list false 1 (List.map (rK .i64) list_))))), (1, .pl (.one (.v (.sc (.int .i64 below))))), (7, .pl (.one (.v (.list false 1 (List.map (rK .i64) list_))))), (8, .pl (.one (.v (.sc (.int .i64 (list_.length : Int)))))), (9, .pl (.one (.v (.sc (.int .i64 x9))))), (31, .pl (.one (.v (.sc (.bool b)))))], ob := [] }) ?_ ?_
      · simp only [List.take_succ_cons, List.take_zero]
        refine opsV_sp (fun hc' => ?_) (fun hc' => ?_)
        · replace gh1' := (ifF hc').symm.trans gh1'
          refine ops H' ?_
          obtain ⟨b_1, ggh1', gh1'⟩ := Option.bind_eq_some_iff.1 gh1'
          refine opsV_cut 8 (fun e' => e' = { N := 33, np := 2, nx := 2, sl := [(0, .pl (.one (.v (.list false 1 (List.map (rK .i64) list_))))), (1, .pl (.one (.v (.sc (.int .i64 below))))), (7, .pl (.one (.v (.list false 1 (List.map (rK .i64) list_))))), (8, .pl (.one (.v (.sc (.int .i64 (list_.length : Int)))))), (9, .pl (.one (.v (.sc (.int .i64 x9))))), (19, .pl (.one (.v (.sc (.bool false))))), (20, .pl (.one (.v (.sc (.int .i64 x9))))), (21, .pl (.one (.v (.sc (.bool (decide (x9 > 0))))))), (30, .pl (.one (.v (.sc (.bool b_1)))))], ob := [] }) ?_ ?_
          · simp only [List.take_succ_cons, List.take_zero]
            refine opsV_sp (fun hc' => ?_) (fun hc' => ?_)
            · replace ggh1' := (ifT hc').symm.trans ggh1'
              obtain ⟨x_1, hv', ggh1'⟩ := Option.bind_eq_some_iff.1 ggh1'
              have H' := And.intro (geti_f hv') H'
              refine ops H' ?_
              obtain rfl := Option.some.inj ggh1'
              refine opsV_nil ?_
              exact ⟨rfl, shd [0, 1, 7, 8, 9, 19, 20, 21, 30] [] 2 rfl⟩
            · replace ggh1' := (ifF hc').symm.trans ggh1'
              refine ops H' ?_
              obtain rfl := Option.some.inj ggh1'
              refine opsV_nil ?_
              exact ⟨rfl, shd [0, 1, 7, 8, 9, 19, 20, 21, 30] [] 2 rfl⟩
          · rintro e' rfl
            simp only [List.drop_succ_cons, List.drop_zero]
            refine ops H' ?_
            obtain rfl := Option.some.inj gh1'
            refine opsV_nil ?_
            exact ⟨rfl, shd [0, 1, 7, 8, 9, 31] [] 2 rfl⟩
        · replace gh1' := (ifT hc').symm.trans gh1'
          refine ops H' ?_
          obtain rfl := Option.some.inj gh1'
          refine opsV_nil ?_
          exact ⟨rfl, shd [0, 1, 7, 8, 9, 31] [] 2 rfl⟩
      · rintro e' rfl
        simp only [List.drop_succ_cons, List.drop_zero]
        refine opsN ?_
        refine wpV_split (fun hc' => ?_) (fun hc' => ?_)
        · replace h1' := (ifT hc').symm.trans h1'
          refine wpV_seq1 ?_
          refine wpV_region ?_
          refine ops H' ?_
          refine opsN ?_
          refine retN ?_
          obtain rfl := Option.some.inj h1'
          refine ⟨_, rfl, fun hr' => ?_⟩
          subst hr'
          obtain rfl := Option.some.inj h0'
          exact outG H' rfl rfl
        · replace h1' := (ifF hc').symm.trans h1'
          refine skipN ?_
          refine wpV_region ?_
          refine ops H' ?_
          refine opsN ?_
          obtain rfl := Option.some.inj h1'
          exact shd [0, 1, 7, 8, 9] [] 2 ⟨_, rfl, rfl⟩
    · replace h1' := (ifF hc').symm.trans h1'
      refine exitN ?_
      obtain rfl := Option.some.inj h1'
      refine ⟨_, rfl, fun hr' => ?_⟩
      subst hr'
      exact shd [] [] 2 ⟨h0', rfl⟩
  · rintro e' ⟨h0', rfl⟩
    unfold impl_ascends_j1 at h0'
    refine wpV_seq1 ?_
    refine wpV_region ?_
    refine ops H' ?_
    refine opsN ?_
    refine retN ?_
    obtain rfl := Option.some.inj h0'
    exact outG H' rfl rfl
theorem W_impl_GraphOk (parents : List (List Int)) (r' : Bool) (h0' : impl_GraphOk parents = some r') : Fn X 127 [.one (.list false 1 (List.map (rL false 1 (rK .i64)) parents))] [.one (.sc (.bool r'))] [] := by
  have H' := And.intro t3 (And.intro t30 (And.intro t43 (And.intro R_Li64 (R_i64))))
  unfold impl_GraphOk at h0'
  refine Fn.start (fn := f127) (N := 25) (res := [.tmp 2]) rfl rfl rfl rfl rfl (by simp) ?_
  refine enterG H' ?_
  refine wpV_seq1 ?_
  refine wpV_region ?_
  refine ops H' ?_
  refine opsN ?_
  refine wpV_seqJ (fun e' => impl_GraphOk_j1 parents = some r' ∧ e' = { N := 25, np := 1, nx := 1, sl := [(0, .pl (.one (.v (.list false 1 (List.map (rL false 1 (rK .i64)) parents)))))], ob := [] }) ?_ ?_
  · refine wpV_seq1 ?_
    refine wpV_region ?_
    refine ops H' ?_
    refine opsN ?_
    obtain ⟨p, hl', h0'⟩ := Option.bind_eq_some_iff.1 h0'
    refine wpV_block ?_
    refine wpV_loopM (fun x7 e' => e' = { N := 25, np := 1, nx := 1, sl := [(0, .pl (.one (.v (.list false 1 (List.map (rL false 1 (rK .i64)) parents))))), (5, .pl (.one (.v (.list false 1 (List.map (rL false 1 (rK .i64)) parents))))), (6, .pl (.one (.v (.sc (.int .i64 (parents.length : Int)))))), (7, .pl (.one (.v (.sc (.int .i64 x7)))))], ob := [] }) hl' (shd [0, 5, 6, 7] [] 1 rfl) ?_
    rintro x7 y1' e' h1' rfl
    replace h1' : impl_GraphOk_l1 parents x7 = some y1' := h1'
    unfold impl_GraphOk_l1 at h1'
    refine wpV_seq1 ?_
    refine wpV_region ?_
    refine ops H' ?_
    refine opsN ?_
    refine wpV_seq1 ?_
    refine wpV_split (fun hc' => ?_) (fun hc' => ?_)
    · replace h1' := (ifT hc').symm.trans h1'
      refine skipN ?_
      refine wpV_seq1 ?_
      refine wpV_block ?_
      refine wpV_seq1 ?_
      refine wpV_region ?_
      obtain ⟨x, hv', h1'⟩ := Option.bind_eq_some_iff.1 h1'
      have H' := And.intro (geti_f hv') H'
      refine ops H' ?_
      refine opsN ?_
      refine wpV_seq1 ?_
      refine wpV_region ?_
      refine ops H' ?_
      obtain ⟨b, gh1', h1'⟩ := Option.bind_eq_some_iff.1 h1'
      refine opsV_cut 5 (fun e' => e' = { N := 25, np := 1, nx := 1, sl := [(0, .pl (.one (.v (.list false 1 (List.map (rL false 1 (rK .i64)) parents))))), (5, .pl (.one (.v (.list false 1 (List.map (rL false 1 (rK .i64)) parents))))), (6, .pl (.one (.v (.sc (.int .i64 (parents.length : Int)))))), (7, .pl (.one (.v (.sc (.int .i64 x7))))), (20, .pl (.one (.v (.sc (.bool b)))))], ob := [] }) ?_ ?_
      · simp only [List.take_succ_cons, List.take_zero]
        refine opsV_sp (fun hc' => ?_) (fun hc' => ?_)
        · replace gh1' := (ifF hc').symm.trans gh1'
          refine ops H' ?_
          obtain ⟨x18, hy', gh1'⟩ := Option.bind_eq_some_iff.1 gh1'
          refine callG H' (fun _ => []) (W_impl_ascends _ _ _ hy') ?_
          refine ops H' ?_
          obtain rfl := Option.some.inj gh1'
          refine opsV_nil ?_
          exact ⟨rfl, shd [0, 5, 6, 7, 20] [] 1 rfl⟩
        · replace gh1' := (ifT hc').symm.trans gh1'
          refine ops H' ?_
          obtain rfl := Option.some.inj gh1'
          refine opsV_nil ?_
          exact ⟨rfl, shd [0, 5, 6, 7, 20] [] 1 rfl⟩
      · rintro e' rfl
        simp only [List.drop_succ_cons, List.drop_zero]
        refine opsN ?_
        refine wpV_split (fun hc' => ?_) (fun hc' => ?_)
        · replace h1' := (ifT hc').symm.trans h1'
          refine wpV_seq1 ?_
          refine wpV_region ?_
          refine ops H' ?_
          refine opsN ?_
          refine retN ?_
          obtain rfl := Option.some.inj h1'
          refine ⟨_, rfl, fun hr' => ?_⟩
          subst hr'
          obtain rfl := Option.some.inj h0'
          exact outG H' rfl rfl
        · replace h1' := (ifF hc').symm.trans h1'
          refine skipN ?_
          refine wpV_region ?_
          refine ops H' ?_
          refine opsN ?_
          obtain rfl := Option.some.inj h1'
          exact shd [0, 5, 6, 7] [] 1 ⟨_, rfl, rfl⟩
    · replace h1' := (ifF hc').symm.trans h1'
      refine exitN ?_
      obtain rfl := Option.some.inj h1'
      refine ⟨_, rfl, fun hr' => ?_⟩
      subst hr'
      exact shd [0] [] 1 ⟨h0', rfl⟩
  · rintro e' ⟨h0', rfl⟩
    unfold impl_GraphOk_j1 at h0'
    refine wpV_seq1 ?_
    refine wpV_region ?_
    refine ops H' ?_
    refine opsN ?_
    refine retN ?_
    obtain rfl := Option.some.inj h0'
    exact outG H' rfl rfl
theorem W_impl_unionOf (closed : List Int) (list_ : List Int) (r' : Int) (h0' : impl_unionOf closed list_ = some r') : Fn X 79 [.one (.list false 1 (List.map (rK .u64) closed)), .one (.list false 1 (List.map (rK .i64) list_))] [.one (.sc (.int .u64 r'))] [] := by
  have H' := And.intro t3 (And.intro t43 (And.intro t105 (And.intro t106 (And.intro R_i64 (R_u64)))))
  unfold impl_unionOf at h0'
  refine Fn.start (fn := f79) (N := 22) (res := [.tmp 4]) rfl rfl rfl rfl rfl (by simp) ?_
  refine enterG H' ?_
  refine wpV_seq1 ?_
  refine wpV_region ?_
  refine ops H' ?_
  refine opsN ?_
  refine wpV_seq1 ?_
  refine wpV_region ?_
  refine ops H' ?_
  refine opsN ?_
  refine wpV_seqJ (fun e' => ∃ s, impl_unionOf_j1 s = some r' ∧ e' = { N := 22, np := 2, nx := 2, sl := [(5, .pl (.one (.v (.sc (.int .u64 s)))))], ob := [] }) ?_ ?_
  · refine wpV_seq1 ?_
    refine wpV_region ?_
    refine ops H' ?_
    refine opsN ?_
    obtain ⟨p, hl', h0'⟩ := Option.bind_eq_some_iff.1 h0'
    refine wpV_block ?_
    refine wpV_loopM (fun s' e' => ∃ s_1 x10, s' = (s_1, x10) ∧ e' = { N := 22, np := 2, nx := 2, sl := [(0, .pl (.one (.v (.list false 1 (List.map (rK .u64) closed))))), (5, .pl (.one (.v (.sc (.int .u64 s_1))))), (8, .pl (.one (.v (.list false 1 (List.map (rK .i64) list_))))), (9, .pl (.one (.v (.sc (.int .i64 (list_.length : Int)))))), (10, .pl (.one (.v (.sc (.int .i64 x10)))))], ob := [] }) hl' (shd [0, 5, 8, 9, 10] [] 2 ⟨_, _, rfl, rfl⟩) ?_
    rintro s' y1' e' h1' ⟨s_1, x10, rfl, rfl⟩
    replace h1' : impl_unionOf_l1 closed list_ s_1 x10 = some y1' := h1'
    unfold impl_unionOf_l1 at h1'
    refine wpV_seq1 ?_
    refine wpV_region ?_
    refine ops H' ?_
    refine opsN ?_
    refine wpV_seq1 ?_
    refine wpV_split (fun hc' => ?_) (fun hc' => ?_)
    · replace h1' := (ifT hc').symm.trans h1'
      refine skipN ?_
      refine wpV_seq1 ?_
      refine wpV_block ?_
      refine wpV_seq1 ?_
      refine wpV_region ?_
      obtain ⟨x, hv', h1'⟩ := Option.bind_eq_some_iff.1 h1'
      have H' := And.intro (geti_f hv') H'
      refine ops H' ?_
      refine opsN ?_
      refine wpV_region ?_
      obtain ⟨x_1, hv', h1'⟩ := Option.bind_eq_some_iff.1 h1'
      have H' := And.intro (geti_f hv') H'
      refine ops H' ?_
      refine opsN ?_
      refine wpV_region ?_
      refine ops H' ?_
      refine opsN ?_
      obtain rfl := Option.some.inj h1'
      exact shd [0, 5, 8, 9, 10] [] 2 ⟨_, rfl, _, _, rfl, rfl⟩
    · replace h1' := (ifF hc').symm.trans h1'
      refine exitN ?_
      obtain rfl := Option.some.inj h1'
      refine ⟨_, rfl, fun hr' => ?_⟩
      subst hr'
      exact shd [5] [] 2 ⟨_, h0', rfl⟩
  · rintro e' ⟨s, h0', rfl⟩
    unfold impl_unionOf_j1 at h0'
    refine wpV_seq1 ?_
    refine wpV_region ?_
    refine ops H' ?_
    refine opsN ?_
    refine retN ?_
    obtain rfl := Option.some.inj h0'
    exact outG H' rfl rfl
theorem W_impl_closures (parents : List (List Int)) (r' : (List Int)) (h0' : impl_closures parents = some r') : Fn X 60 [.one (.list false 1 (List.map (rL false 1 (rK .i64)) parents))] [.one (.list true 1 (List.map (rK .u64) r'))] [] := by
  have H' := And.intro t3 (And.intro t30 (And.intro t43 (And.intro t105 (And.intro t106 (And.intro t162 (And.intro R_Li64 (And.intro R_i64 (R_u64))))))))
  unfold impl_closures at h0'
  refine Fn.start (fn := f60) (N := 28) (res := [.tmp 2]) rfl rfl rfl rfl rfl (by simp) ?_
  refine enterG H' ?_
  refine wpV_seq1 ?_
  refine wpV_region ?_
  refine ops H' ?_
  refine opsN ?_
  refine wpV_seq1 ?_
  refine wpV_region ?_
  obtain ⟨x8, hv', h0'⟩ := Option.bind_eq_some_iff.1 h0'
  have H' := And.intro (mkl_f hv') H'
  refine ops H' ?_
  refine opsN ?_
  refine wpV_seqJ (fun e' => ∃ out_, impl_closures_j1 out_ = some r' ∧ e' = { N := 28, np := 1, nx := 2, sl := [(3, .pl (.one (.ref 1 [])))], ob := [(1, .list true 1 (List.map (rK .u64) out_))] }) ?_ ?_
  · refine wpV_seq1 ?_
    refine wpV_region ?_
    refine ops H' ?_
    refine opsN ?_
    obtain ⟨p, hl', h0'⟩ := Option.bind_eq_some_iff.1 h0'
    refine wpV_block ?_
    refine wpV_loopM (fun s' e' => ∃ x11 out__1, s' = (x11, out__1) ∧ e' = { N := 28, np := 1, nx := 2, sl := [(3, .pl (.one (.ref 1 []))), (9, .pl (.one (.v (.list false 1 (List.map (rL false 1 (rK .i64)) parents))))), (10, .pl (.one (.v (.sc (.int .i64 (parents.length : Int)))))), (11, .pl (.one (.v (.sc (.int .i64 x11)))))], ob := [(1, .list true 1 (List.map (rK .u64) out__1))] }) hl' (shd [3, 9, 10, 11] [(2, 1)] 2 ⟨_, _, rfl, rfl⟩) ?_
    rintro s' y1' e' h1' ⟨x11, out__1, rfl, rfl⟩
    replace h1' : impl_closures_l1 parents x11 out__1 = some y1' := h1'
    unfold impl_closures_l1 at h1'
    refine wpV_seq1 ?_
    refine wpV_region ?_
    refine ops H' ?_
    refine opsN ?_
    refine wpV_seq1 ?_
    refine wpV_split (fun hc' => ?_) (fun hc' => ?_)
    · replace h1' := (ifT hc').symm.trans h1'
      refine skipN ?_
      refine wpV_seq1 ?_
      refine wpV_block ?_
      refine wpV_seq1 ?_
      refine wpV_region ?_
      obtain ⟨x, hv', h1'⟩ := Option.bind_eq_some_iff.1 h1'
      have H' := And.intro (geti_f hv') H'
      refine ops H' ?_
      refine opsN ?_
      refine wpV_region ?_
      refine ops H' ?_
      obtain ⟨x20, hy', h1'⟩ := Option.bind_eq_some_iff.1 h1'
      refine callG H' (fun _ => []) (W_impl_unionOf _ _ _ hy') ?_
      obtain ⟨u, hv', h1'⟩ := Option.bind_eq_some_iff.1 h1'
      have H' := And.intro (chkF hv') H'
      obtain ⟨x_1, hv', h1'⟩ := Option.bind_eq_some_iff.1 h1'
      have H' := And.intro (geti_f hv') H'
      refine ops H' ?_
      refine opsN ?_
      refine wpV_region ?_
      refine ops H' ?_
      refine opsN ?_
      obtain rfl := Option.some.inj h1'
      exact shd [3, 9, 10, 11] [(1, 1)] 2 ⟨_, rfl, _, _, rfl, rfl⟩
    · replace h1' := (ifF hc').symm.trans h1'
      refine exitN ?_
      obtain rfl := Option.some.inj h1'
      refine ⟨_, rfl, fun hr' => ?_⟩
      subst hr'
      exact shd [3] [(1, 1)] 2 ⟨_, h0', rfl⟩
  · rintro e' ⟨out_, h0', rfl⟩
    unfold impl_closures_j1 at h0'
    refine wpV_seq1 ?_
    refine wpV_region ?_
    refine ops H' ?_
    refine opsN ?_
    refine retN ?_
    obtain rfl := Option.some.inj h0'
    exact outG H' rfl rfl
theorem W_internal_stringslite_IndexByte (s : ByteArray) (c : Int) (r' : Int) (h0' : internal_stringslite_IndexByte s c = some r') : Fn X 203 [.one (.sc (.string s)), .one (.sc (.int .u8 c))] [.one (.sc (.int .i64 r'))] [] := by
  have H' := trivial
  unfold internal_stringslite_IndexByte at h0'
  refine Fn.start (fn := f203) (N := 8) (res := [.tmp 4]) rfl rfl rfl rfl rfl (by simp) ?_
  refine enterG H' ?_
  refine wpV_seq1 ?_
  refine wpV_region ?_
  refine ops H' ?_
  refine opsN ?_
  refine wpV_seq1 ?_
  refine wpV_region ?_
  refine ops H' ?_
  refine opsV_idxB H' ?_
  refine ops H' ?_
  refine opsN ?_
  refine retN ?_
  obtain rfl := Option.some.inj h0'
  exact outG H' rfl rfl
theorem W_internal_stringslite_Index (s : ByteArray) (substr : ByteArray) (r' : Int) (h0' : internal_stringslite_Index s substr = some r') : Fn X 199 [.one (.sc (.string s)), .one (.sc (.string substr))] [.one (.sc (.int .i64 r'))] [] := by
  have H' := And.intro t3 (t9)
  unfold internal_stringslite_Index at h0'
  refine Fn.start (fn := f199) (N := 143) (res := [.tmp 4]) rfl rfl rfl rfl rfl (by simp) ?_
  refine enterG H' ?_
  refine wpV_seq1 ?_
  refine wpV_region ?_
  refine ops H' ?_
  refine opsN ?_
  refine wpV_seq1 ?_
  refine wpV_region ?_
  refine ops H' ?_
  refine opsN ?_
  refine wpV_seq1 ?_
  refine wpV_block ?_
  refine wpV_seq1 ?_
  refine wpV_region ?_
  refine ops H' ?_
  obtain ⟨b, gh0', h0'⟩ := Option.bind_eq_some_iff.1 h0'
  refine opsV_cut 4 (fun e' => e' = { N := 143, np := 2, nx := 2, sl := [(0, .pl (.one (.v (.sc (.string s))))), (1, .pl (.one (.v (.sc (.string substr))))), (5, .pl (.one (.v (.sc (.int .i64 (substr.size : Int)))))), (23, .pl (.one (.v (.sc (.bool b)))))], ob := [] }) ?_ ?_
  · simp only [List.take_succ_cons, List.take_zero]
    refine opsV_sp (fun hc' => ?_) (fun hc' => ?_)
    · replace gh0' := (ifF hc').symm.trans gh0'
      refine ops H' ?_
      obtain rfl := Option.some.inj gh0'
      refine opsV_nil ?_
      exact ⟨rfl, shd [0, 1, 5, 23] [] 2 rfl⟩
    · replace gh0' := (ifT hc').symm.trans gh0'
      refine ops H' ?_
      obtain rfl := Option.some.inj gh0'
      refine opsV_nil ?_
      exact ⟨rfl, shd [0, 1, 5, 23] [] 2 rfl⟩
  · rintro e' rfl
    simp only [List.drop_succ_cons, List.drop_zero]
    refine ops H' ?_
    refine opsN ?_
    refine wpV_split (fun hc' => ?_) (fun hc' => ?_)
    · replace h0' := (ifT hc').symm.trans h0'
      refine wpV_seq1 ?_
      refine wpV_region ?_
      refine ops H' ?_
      refine opsN ?_
      refine retN ?_
      obtain rfl := Option.some.inj h0'
      exact outG H' rfl rfl
    · replace h0' := (ifF hc').symm.trans h0'
      refine wpV_seq1 ?_
      refine wpV_region ?_
      refine ops H' ?_
      refine opsN ?_
      refine wpV_split (fun hc' => ?_) (fun hc' => ?_)
      · replace h0' := (ifT hc').symm.trans h0'
        refine wpV_seq1 ?_
        refine wpV_region ?_
        obtain ⟨x29, hv', h0'⟩ := Option.bind_eq_some_iff.1 h0'
        have H' := And.intro (sidx_f hv') H'
        refine ops H' ?_
        obtain ⟨x30, hy', h0'⟩ := Option.bind_eq_some_iff.1 h0'
        refine callG H' (fun _ => []) (W_internal_stringslite_IndexByte _ _ _ hy') ?_
        refine ops H' ?_
        refine opsN ?_
        refine retN ?_
        obtain rfl := Option.some.inj h0'
        exact outG H' rfl rfl
      · replace h0' := (ifF hc').symm.trans h0'
        refine wpV_seq1 ?_
        refine wpV_region ?_
        refine ops H' ?_
        refine opsN ?_
        refine wpV_split (fun hc' => ?_) (fun hc' => ?_)
        · replace h0' := (ifT hc').symm.trans h0'
          refine wpV_seq1 ?_
          refine wpV_region ?_
          refine ops H' ?_
          refine opsN ?_
          refine retN ?_
          obtain rfl := Option.some.inj h0'
          exact outG H' rfl rfl
        · replace h0' := (ifF hc').symm.trans h0'
          cases h0'
theorem W_strings_Index (s : ByteArray) (substr : ByteArray) (r' : Int) (h0' : strings_Index s substr = some r') : Fn X 193 [.one (.sc (.string s)), .one (.sc (.string substr))] [.one (.sc (.int .i64 r'))] [] := by
  have H' := trivial
  unfold strings_Index at h0'
  refine Fn.start (fn := f193) (N := 8) (res := [.tmp 4]) rfl rfl rfl rfl rfl (by simp) ?_
  refine enterG H' ?_
  refine wpV_seq1 ?_
  refine wpV_region ?_
  refine ops H' ?_
  refine opsN ?_
  refine wpV_seq1 ?_
  refine wpV_region ?_
  refine ops H' ?_
  obtain ⟨x7, hy', h0'⟩ := Option.bind_eq_some_iff.1 h0'
  refine callG H' (fun _ => []) (W_internal_stringslite_Index _ _ _ hy') ?_
  refine ops H' ?_
  refine opsN ?_
  refine retN ?_
  obtain rfl := Option.some.inj h0'
  exact outG H' rfl rfl
theorem W_strings_Contains (s : ByteArray) (substr : ByteArray) (r' : Bool) (h0' : strings_Contains s substr = some r') : Fn X 181 [.one (.sc (.string s)), .one (.sc (.string substr))] [.one (.sc (.bool r'))] [] := by
  have H' := t3
  unfold strings_Contains at h0'
  refine Fn.start (fn := f181) (N := 9) (res := [.tmp 4]) rfl rfl rfl rfl rfl (by simp) ?_
  refine enterG H' ?_
  refine wpV_seq1 ?_
  refine wpV_region ?_
  refine ops H' ?_
  refine opsN ?_
  refine wpV_seq1 ?_
  refine wpV_region ?_
  refine ops H' ?_
  obtain ⟨x7, hy', h0'⟩ := Option.bind_eq_some_iff.1 h0'
  refine callG H' (fun _ => []) (W_strings_Index _ _ _ hy') ?_
  refine ops H' ?_
  refine opsN ?_
  refine retN ?_
  obtain rfl := Option.some.inj h0'
  exact outG H' rfl rfl
theorem W_impl_LineOk (line : ByteArray) (r' : Bool) (h0' : impl_LineOk line = some r') : Fn X 155 [.one (.sc (.string line))] [.one (.sc (.bool r'))] [] := by
  have H' := And.intro t3 (t9)
  unfold impl_LineOk at h0'
  refine Fn.start (fn := f155) (N := 11) (res := [.tmp 2]) rfl rfl rfl rfl rfl (by simp) ?_
  refine enterG H' ?_
  refine wpV_seq1 ?_
  refine wpV_region ?_
  refine ops H' ?_
  refine opsN ?_
  refine wpV_seq1 ?_
  refine wpV_region ?_
  refine ops H' ?_
  obtain ⟨b, gh0', h0'⟩ := Option.bind_eq_some_iff.1 h0'
  refine opsV_cut 4 (fun e' => e' = { N := 11, np := 1, nx := 1, sl := [(10, .pl (.one (.v (.sc (.bool b)))))], ob := [] }) ?_ ?_
  · simp only [List.take_succ_cons, List.take_zero]
    refine opsV_sp (fun hc' => ?_) (fun hc' => ?_)
    · replace gh0' := (ifT hc').symm.trans gh0'
      refine ops H' ?_
      obtain ⟨x8, hy', gh0'⟩ := Option.bind_eq_some_iff.1 gh0'
      refine callG H' (fun _ => []) (W_strings_Contains _ _ _ hy') ?_
      refine ops H' ?_
      obtain rfl := Option.some.inj gh0'
      refine opsV_nil ?_
      exact ⟨rfl, shd [10] [] 1 rfl⟩
    · replace gh0' := (ifF hc').symm.trans gh0'
      refine ops H' ?_
      obtain rfl := Option.some.inj gh0'
      refine opsV_nil ?_
      exact ⟨rfl, shd [10] [] 1 rfl⟩
  · rintro e' rfl
    simp only [List.drop_succ_cons, List.drop_zero]
    refine ops H' ?_
    refine opsN ?_
    refine retN ?_
    obtain rfl := Option.some.inj h0'
    exact outG H' rfl rfl
theorem W_impl_isPlace (n : Int) (size : Int) (r' : Bool) (h0' : impl_isPlace n size = some r') : Fn X 129 [.one (.sc (.int .i64 n)), .one (.sc (.int .i64 size))] [.one (.sc (.bool r'))] [] := by
  have H' := t3
  unfold impl_isPlace at h0'
  refine Fn.start (fn := f129) (N := 9) (res := [.tmp 4]) rfl rfl rfl rfl rfl (by simp) ?_
  refine enterG H' ?_
  refine wpV_seq1 ?_
  refine wpV_region ?_
  refine ops H' ?_
  refine opsN ?_
  refine wpV_seq1 ?_
  refine wpV_region ?_
  refine ops H' ?_
  obtain ⟨x8, hy', h0'⟩ := Option.bind_eq_some_iff.1 h0'
  refine callG H' (fun _ => []) (W_impl_inRange _ _ _ _ hy') ?_
  refine ops H' ?_
  refine opsN ?_
  refine retN ?_
  obtain rfl := Option.some.inj h0'
  exact outG H' rfl rfl
theorem W_impl_set_has (s : Int) (v : Int) (r' : Bool) (h0' : impl_set_has s v = some r') : Fn X 124 [.one (.sc (.int .u64 s)), .one (.sc (.int .i64 v))] [.one (.sc (.bool r'))] [] := by
  have H' := And.intro t3 (And.intro t105 (t162))
  unfold impl_set_has at h0'
  refine Fn.start (fn := f124) (N := 15) (res := [.tmp 4]) rfl rfl rfl rfl rfl (by simp) ?_
  refine enterG H' ?_
  refine wpV_seq1 ?_
  refine wpV_region ?_
  refine ops H' ?_
  refine opsN ?_
  refine wpV_seq1 ?_
  refine wpV_region ?_
  refine ops H' ?_
  obtain ⟨x6, hy', h0'⟩ := Option.bind_eq_some_iff.1 h0'
  refine callG H' (fun _ => []) (W_impl_inRange _ _ _ _ hy') ?_
  refine ops H' ?_
  obtain ⟨b, gh0', h0'⟩ := Option.bind_eq_some_iff.1 h0'
  refine opsV_cut 7 (fun e' => e' = { N := 15, np := 2, nx := 2, sl := [(14, .pl (.one (.v (.sc (.bool b)))))], ob := [] }) ?_ ?_
  · simp only [List.take_succ_cons, List.take_zero]
    refine opsV_sp (fun hc' => ?_) (fun hc' => ?_)
    · replace gh0' := (ifT hc').symm.trans gh0'
      obtain ⟨u, hv', gh0'⟩ := Option.bind_eq_some_iff.1 gh0'
      have H' := And.intro (chkF hv') H'
      refine ops H' ?_
      obtain rfl := Option.some.inj gh0'
      refine opsV_nil ?_
      exact ⟨rfl, shd [14] [] 2 rfl⟩
    · replace gh0' := (ifF hc').symm.trans gh0'
      refine ops H' ?_
      obtain rfl := Option.some.inj gh0'
      refine opsV_nil ?_
      exact ⟨rfl, shd [14] [] 2 rfl⟩
  · rintro e' rfl
    simp only [List.drop_succ_cons, List.drop_zero]
    refine ops H' ?_
    refine opsN ?_
    refine retN ?_
    obtain rfl := Option.some.inj h0'
    exact outG H' rfl rfl
theorem W_impl_setOf (list_ : List Int) (r' : Int) (h0' : impl_setOf list_ = some r') : Fn X 125 [.one (.list false 1 (List.map (rK .i64) list_))] [.one (.sc (.int .u64 r'))] [] := by
  have H' := And.intro t3 (And.intro t43 (And.intro t105 (And.intro t162 (R_i64))))
  unfold impl_setOf at h0'
  refine Fn.start (fn := f125) (N := 21) (res := [.tmp 2]) rfl rfl rfl rfl rfl (by simp) ?_
  refine enterG H' ?_
  refine wpV_seq1 ?_
  refine wpV_region ?_
  refine ops H' ?_
  refine opsN ?_
  refine wpV_seq1 ?_
  refine wpV_region ?_
  refine ops H' ?_
  refine opsN ?_
  refine wpV_seqJ (fun e' => ∃ s, impl_setOf_j1 s = some r' ∧ e' = { N := 21, np := 1, nx := 1, sl := [(3, .pl (.one (.v (.sc (.int .u64 s)))))], ob := [] }) ?_ ?_
  · refine wpV_seq1 ?_
    refine wpV_region ?_
    refine ops H' ?_
    refine opsN ?_
    obtain ⟨p, hl', h0'⟩ := Option.bind_eq_some_iff.1 h0'
    refine wpV_block ?_
    refine wpV_loopM (fun s' e' => ∃ s_1 x8, s' = (s_1, x8) ∧ e' = { N := 21, np := 1, nx := 1, sl := [(3, .pl (.one (.v (.sc (.int .u64 s_1))))), (6, .pl (.one (.v (.list false 1 (List.map (rK .i64) list_))))), (7, .pl (.one (.v (.sc (.int .i64 (list_.length : Int)))))), (8, .pl (.one (.v (.sc (.int .i64 x8)))))], ob := [] }) hl' (shd [3, 6, 7, 8] [] 1 ⟨_, _, rfl, rfl⟩) ?_
    rintro s' y1' e' h1' ⟨s_1, x8, rfl, rfl⟩
    replace h1' : impl_setOf_l1 list_ s_1 x8 = some y1' := h1'
    unfold impl_setOf_l1 at h1'
    refine wpV_seq1 ?_
    refine wpV_region ?_
    refine ops H' ?_
    refine opsN ?_
    refine wpV_seq1 ?_
    refine wpV_split (fun hc' => ?_) (fun hc' => ?_)
    · replace h1' := (ifT hc').symm.trans h1'
      refine skipN ?_
      refine wpV_seq1 ?_
      refine wpV_block ?_
      refine wpV_seq1 ?_
      refine wpV_region ?_
      obtain ⟨x, hv', h1'⟩ := Option.bind_eq_some_iff.1 h1'
      have H' := And.intro (geti_f hv') H'
      refine ops H' ?_
      refine opsN ?_
      refine wpV_seq1 ?_
      refine wpV_region ?_
      refine ops H' ?_
      obtain ⟨x13, hy', h1'⟩ := Option.bind_eq_some_iff.1 h1'
      refine callG H' (fun _ => []) (W_impl_inRange _ _ _ _ hy') ?_
      refine opsN ?_
      refine wpV_split (fun hc' => ?_) (fun hc' => ?_)
      · replace h1' := (ifT hc').symm.trans h1'
        refine wpV_region ?_
        obtain ⟨u, hv', h1'⟩ := Option.bind_eq_some_iff.1 h1'
        have H' := And.intro (chkF hv') H'
        refine ops H' ?_
        refine opsN ?_
        refine wpV_region ?_
        refine ops H' ?_
        refine opsN ?_
        obtain rfl := Option.some.inj h1'
        exact shd [3, 6, 7, 8] [] 1 ⟨_, rfl, _, _, rfl, rfl⟩
      · replace h1' := (ifF hc').symm.trans h1'
        refine skipN ?_
        refine wpV_region ?_
        refine ops H' ?_
        refine opsN ?_
        obtain rfl := Option.some.inj h1'
        exact shd [3, 6, 7, 8] [] 1 ⟨_, rfl, _, _, rfl, rfl⟩
    · replace h1' := (ifF hc').symm.trans h1'
      refine exitN ?_
      obtain rfl := Option.some.inj h1'
      refine ⟨_, rfl, fun hr' => ?_⟩
      subst hr'
      exact shd [3] [] 1 ⟨_, h0', rfl⟩
  · rintro e' ⟨s, h0', rfl⟩
    unfold impl_setOf_j1 at h0'
    refine wpV_seq1 ?_
    refine wpV_region ?_
    refine ops H' ?_
    refine opsN ?_
    refine retN ?_
    obtain rfl := Option.some.inj h0'
    exact outG H' rfl rfl
theorem W_impl_Body_isLive (b : T_impl_Body) (s : Int) (r' : Bool) (h0' : impl_Body_isLive b s = some r') : Fn X 63 [.agg [.sc (.string b.Line), .sc (.int .i64 b.Ins), .sc (.int .i64 b.Ord), .list false 1 (List.map (rK .i64) b.Dels)], .one (.sc (.int .u64 s))] [.one (.sc (.bool r'))] [] := by
  have H' := And.intro t3 (And.intro t43 (And.intro t105 (And.intro t110 (R_i64))))
  unfold impl_Body_isLive at h0'
  refine Fn.start (fn := f63) (N := 17) (res := [.tmp 4]) rfl rfl rfl rfl rfl (by simp) ?_
  refine enterG H' ?_
  refine wpV_seq1 ?_
  refine wpV_region ?_
  refine ops H' ?_
  refine opsN ?_
  refine wpV_seq1 ?_
  refine wpV_region ?_
  refine ops H' ?_
  obtain ⟨x8, hy', h0'⟩ := Option.bind_eq_some_iff.1 h0'
  refine callG H' (fun _ => []) (W_impl_set_has _ _ _ hy') ?_
  refine ops H' ?_
  obtain ⟨b_1, gh0', h0'⟩ := Option.bind_eq_some_iff.1 h0'
  refine opsV_cut 7 (fun e' => e' = { N := 17, np := 5, nx := 5, sl := [(16, .pl (.one (.v (.sc (.bool b_1)))))], ob := [] }) ?_ ?_
  · simp only [List.take_succ_cons, List.take_zero]
    refine opsV_sp (fun hc' => ?_) (fun hc' => ?_)
    · replace gh0' := (ifT hc').symm.trans gh0'
      refine ops H' ?_
      obtain ⟨x12, hy', gh0'⟩ := Option.bind_eq_some_iff.1 gh0'
      refine callG H' (fun _ => []) (W_impl_setOf _ _ hy') ?_
      refine ops H' ?_
      obtain rfl := Option.some.inj gh0'
      refine opsV_nil ?_
      exact ⟨rfl, shd [16] [] 5 rfl⟩
    · replace gh0' := (ifF hc').symm.trans gh0'
      refine ops H' ?_
      obtain rfl := Option.some.inj gh0'
      refine opsV_nil ?_
      exact ⟨rfl, shd [16] [] 5 rfl⟩
  · rintro e' rfl
    simp only [List.drop_succ_cons, List.drop_zero]
    refine ops H' ?_
    refine opsN ?_
    refine retN ?_
    obtain rfl := Option.some.inj h0'
    exact outG H' rfl rfl
theorem W_impl_Weave_liveIn (w : T_impl_Weave) (s : Int) (r' : (List Int)) (h0' : impl_Weave_liveIn w s = some r') : Fn X 78 [.one (.box false [.list false 1 (List.map (rL false 1 (rK .i64)) w.Parents), .list false 4 (List.map (r_T_impl_Body false) w.Bodies)]), .one (.sc (.int .u64 s))] [.one (.list true 1 (List.map (rK .i64) r'))] [] := by
  have H' := And.intro t3 (And.intro t31 (And.intro t33 (And.intro t43 (And.intro t110 (And.intro R_Li64 (And.intro R_T_impl_Body (R_i64)))))))
  unfold impl_Weave_liveIn at h0'
  refine Fn.start (fn := f78) (N := 27) (res := [.tmp 4]) rfl rfl rfl rfl rfl (by simp) ?_
  refine enterG H' ?_
  refine wpV_seq1 ?_
  refine wpV_region ?_
  refine ops H' ?_
  refine opsN ?_
  refine wpV_seq1 ?_
  refine wpV_region ?_
  refine ops H' ?_
  refine opsN ?_
  refine wpV_seqJ (fun e' => ∃ out_, impl_Weave_liveIn_j1 out_ = some r' ∧ e' = { N := 27, np := 2, nx := 3, sl := [(5, .pl (.one (.ref 2 [])))], ob := [(2, .list true 1 (List.map (rK .i64) out_))] }) ?_ ?_
  · refine wpV_seq1 ?_
    refine wpV_region ?_
    refine ops H' ?_
    refine opsN ?_
    obtain ⟨p, hl', h0'⟩ := Option.bind_eq_some_iff.1 h0'
    refine wpV_block ?_
    refine wpV_loopM (fun s' e' => ∃ x13 out__1, s' = (x13, out__1) ∧ e' = { N := 27, np := 2, nx := 3, sl := [(1, .pl (.one (.v (.sc (.int .u64 s))))), (5, .pl (.one (.ref 2 []))), (11, .pl (.one (.v (.list false 4 (List.map (r_T_impl_Body false) w.Bodies))))), (12, .pl (.one (.v (.sc (.int .i64 (w.Bodies.length : Int)))))), (13, .pl (.one (.v (.sc (.int .i64 x13)))))], ob := [(2, .list true 1 (List.map (rK .i64) out__1))] }) hl' (shd [1, 5, 11, 12, 13] [(3, 2)] 3 ⟨_, _, rfl, rfl⟩) ?_
    rintro s' y1' e' h1' ⟨x13, out__1, rfl, rfl⟩
    replace h1' : impl_Weave_liveIn_l1 w s x13 out__1 = some y1' := h1'
    unfold impl_Weave_liveIn_l1 at h1'
    refine wpV_seq1 ?_
    refine wpV_region ?_
    refine ops H' ?_
    refine opsN ?_
    refine wpV_seq1 ?_
    refine wpV_split (fun hc' => ?_) (fun hc' => ?_)
    · replace h1' := (ifT hc').symm.trans h1'
      refine skipN ?_
      refine wpV_seq1 ?_
      refine wpV_block ?_
      refine wpV_seq1 ?_
      refine wpV_region ?_
      obtain ⟨x, hv', h1'⟩ := Option.bind_eq_some_iff.1 h1'
      have H' := And.intro (geti_f hv') H'
      refine ops H' ?_
      refine opsN ?_
      refine wpV_seq1 ?_
      refine wpV_region ?_
      refine ops H' ?_
      obtain ⟨x20, hy', h1'⟩ := Option.bind_eq_some_iff.1 h1'
      refine callG H' (fun _ => []) (W_impl_Body_isLive _ _ _ hy') ?_
      refine opsN ?_
      refine wpV_split (fun hc' => ?_) (fun hc' => ?_)
      · replace h1' := (ifT hc').symm.trans h1'
        refine wpV_region ?_
        obtain ⟨l, hv', h1'⟩ := Option.bind_eq_some_iff.1 h1'
        have H' := And.intro (app1_f hv') H'
        refine ops H' ?_
        refine opsN ?_
        refine wpV_region ?_
        refine ops H' ?_
        refine opsN ?_
        obtain rfl := Option.some.inj h1'
        exact shd [1, 5, 11, 12, 13] [(2, 2)] 3 ⟨_, rfl, _, _, rfl, rfl⟩
      · replace h1' := (ifF hc').symm.trans h1'
        refine skipN ?_
        refine wpV_region ?_
        refine ops H' ?_
        refine opsN ?_
        obtain rfl := Option.some.inj h1'
        exact shd [1, 5, 11, 12, 13] [(2, 2)] 3 ⟨_, rfl, _, _, rfl, rfl⟩
    · replace h1' := (ifF hc').symm.trans h1'
      refine exitN ?_
      obtain rfl := Option.some.inj h1'
      refine ⟨_, rfl, fun hr' => ?_⟩
      subst hr'
      exact shd [5] [(2, 2)] 3 ⟨_, h0', rfl⟩
  · rintro e' ⟨out_, h0', rfl⟩
    unfold impl_Weave_liveIn_j1 at h0'
    refine wpV_seq1 ?_
    refine wpV_region ?_
    refine ops H' ?_
    refine opsN ?_
    refine retN ?_
    obtain rfl := Option.some.inj h0'
    exact outG H' rfl rfl
theorem W_impl_bodiesOk (w : T_impl_Weave) (closed : List Int) (r' : Bool) (h0' : impl_bodiesOk w closed = some r') : Fn X 128 [.agg [.list false 1 (List.map (rL false 1 (rK .i64)) w.Parents), .list false 4 (List.map (r_T_impl_Body false) w.Bodies)], .one (.list false 1 (List.map (rK .u64) closed))] [.one (.sc (.bool r'))] [] := by
  have H' := And.intro t3 (And.intro t9 (And.intro t30 (And.intro t31 (And.intro t33 (And.intro t43 (And.intro t105 (And.intro t106 (And.intro t110 (And.intro R_Li64 (And.intro R_T_impl_Body (And.intro R_i64 (R_u64))))))))))))
  unfold impl_bodiesOk at h0'
  refine Fn.start (fn := f128) (N := 97) (res := [.tmp 4]) rfl rfl rfl rfl rfl (by simp) ?_
  refine enterG H' ?_
  refine wpV_seq1 ?_
  refine wpV_region ?_
  refine ops H' ?_
  refine opsN ?_
  refine wpV_seq1 ?_
  refine wpV_region ?_
  obtain ⟨x14, hv', h0'⟩ := Option.bind_eq_some_iff.1 h0'
  have H' := And.intro (mkl_f hv') H'
  refine ops H' ?_
  refine opsN ?_
  refine wpV_seqJ (fun e' => ∃ born, impl_bodiesOk_j1 w closed born = some r' ∧ e' = { N := 97, np := 3, nx := 5, sl := [(1, .pl (.one (.v (.list false 1 (List.map (rK .u64) closed))))), (2, .pl (.one (.ref 3 []))), (5, .pl (.one (.ref 4 [])))], ob := [(3, .box true [.list false 1 (List.map (rL false 1 (rK .i64)) w.Parents), .list false 4 (List.map (r_T_impl_Body false) w.Bodies)]), (4, .list true 1 (List.map (rK .i64) born))] }) ?_ ?_
  · refine wpV_seq1 ?_
    refine wpV_region ?_
    refine ops H' ?_
    refine opsN ?_
    obtain ⟨p_1, hl', h0'⟩ := Option.bind_eq_some_iff.1 h0'
    refine wpV_block ?_
    refine wpV_loopM (fun s' e' => ∃ x18 born_1, s' = (x18, born_1) ∧ e' = { N := 97, np := 3, nx := 5, sl := [(1, .pl (.one (.v (.list false 1 (List.map (rK .u64) closed))))), (2, .pl (.one (.ref 3 []))), (5, .pl (.one (.ref 4 []))), (16, .pl (.one (.v (.list false 4 (List.map (r_T_impl_Body false) w.Bodies))))), (17, .pl (.one (.v (.sc (.int .i64 (w.Bodies.length : Int)))))), (18, .pl (.one (.v (.sc (.int .i64 x18)))))], ob := [(3, .box true [.list false 1 (List.map (rL false 1 (rK .i64)) w.Parents), .list false 4 (List.map (r_T_impl_Body false) w.Bodies)]), (4, .list true 1 (List.map (rK .i64) born_1))] }) hl' (shd [1, 2, 5, 16, 17, 18] [(3, 3), (4, 4)] 5 ⟨_, _, rfl, rfl⟩) ?_
    rintro s' y1' e' h1' ⟨x18, born_1, rfl, rfl⟩
    replace h1' : impl_bodiesOk_l2 w closed x18 born_1 = some y1' := h1'
    unfold impl_bodiesOk_l2 at h1'
    refine wpV_seq1 ?_
    refine wpV_region ?_
    refine ops H' ?_
    refine opsN ?_
    refine wpV_seq1 ?_
    refine wpV_split (fun hc' => ?_) (fun hc' => ?_)
    · replace h1' := (ifT hc').symm.trans h1'
      refine skipN ?_
      refine wpV_seqJ (fun e' => ∃ born_2, impl_bodiesOk_j3 x18 born_2 = some y1' ∧ e' = { N := 97, np := 3, nx := 5, sl := [(1, .pl (.one (.v (.list false 1 (List.map (rK .u64) closed))))), (2, .pl (.one (.ref 3 []))), (5, .pl (.one (.ref 4 []))), (16, .pl (.one (.v (.list false 4 (List.map (r_T_impl_Body false) w.Bodies))))), (17, .pl (.one (.v (.sc (.int .i64 (w.Bodies.length : Int)))))), (18, .pl (.one (.v (.sc (.int .i64 x18)))))], ob := [(3, .box true [.list false 1 (List.map (rL false 1 (rK .i64)) w.Parents), .list false 4 (List.map (r_T_impl_Body false) w.Bodies)]), (4, .list true 1 (List.map (rK .i64) born_2))] }) ?_ ?_
      · refine wpV_block ?_
        refine wpV_seq1 ?_
        refine wpV_region ?_
        obtain ⟨x_2, hv', h1'⟩ := Option.bind_eq_some_iff.1 h1'
        have H' := And.intro (geti_f hv') H'
        refine ops H' ?_
        refine opsN ?_
        refine wpV_seq1 ?_
        refine wpV_seq1 ?_
        refine regQ ?_
        refine ops H' ?_
        obtain ⟨x24, hy', h1'⟩ := Option.bind_eq_some_iff.1 h1'
        refine callGQ H' (W_impl_LineOk _ _ hy') ?_
        refine ops H' ?_
        obtain ⟨b_1, gh1', h1'⟩ := Option.bind_eq_some_iff.1 h1'
        refine quV_cut 7 (fun e' => e' = { N := 97, np := 3, nx := 6, sl := [(1, .pl (.one (.v (.list false 1 (List.map (rK .u64) closed))))), (2, .pl (.one (.ref 3 []))), (5, .pl (.one (.ref 4 []))), (7, .pl (.one (.ref 5 []))), (16, .pl (.one (.v (.list false 4 (List.map (r_T_impl_Body false) w.Bodies))))), (17, .pl (.one (.v (.sc (.int .i64 (w.Bodies.length : Int)))))), (18, .pl (.one (.v (.sc (.int .i64 x18))))), (33, .pl (.one (.v (.sc (.bool b_1)))))], ob := [(3, .box true [.list false 1 (List.map (rL false 1 (rK .i64)) w.Parents), .list false 4 (List.map (r_T_impl_Body false) w.Bodies)]), (4, .list true 1 (List.map (rK .i64) born_1)), (5, .box true [.sc (.string x_2.Line), .sc (.int .i64 x_2.Ins), .sc (.int .i64 x_2.Ord), .list false 1 (List.map (rK .i64) x_2.Dels)])] }) ?_ ?_
        · simp only [List.take_succ_cons, List.take_zero]
          refine quV_sp (fun hc' => ?_) (fun hc' => ?_)
          · replace gh1' := (ifF hc').symm.trans gh1'
            refine ops H' ?_
            obtain ⟨x31, hy', gh1'⟩ := Option.bind_eq_some_iff.1 gh1'
            refine callGQ H' (W_impl_isPlace _ _ _ hy') ?_
            refine ops H' ?_
            obtain rfl := Option.some.inj gh1'
            refine quV_nil ?_
            exact ⟨rfl, shd [1, 2, 5, 7, 16, 17, 18, 33] [(3, 3), (4, 4), (5, 5)] 6 rfl⟩
          · replace gh1' := (ifT hc').symm.trans gh1'
            refine ops H' ?_
            obtain rfl := Option.some.inj gh1'
            refine quV_nil ?_
            exact ⟨rfl, shd [1, 2, 5, 7, 16, 17, 18, 33] [(3, 3), (4, 4), (5, 5)] 6 rfl⟩
        · rintro e' rfl
          simp only [List.drop_succ_cons, List.drop_zero]
          refine ops H' ?_
          obtain ⟨b_2, gh1', h1'⟩ := Option.bind_eq_some_iff.1 h1'
          refine quV_cut 9 (fun e' => e' = { N := 97, np := 3, nx := 6, sl := [(1, .pl (.one (.v (.list false 1 (List.map (rK .u64) closed))))), (2, .pl (.one (.ref 3 []))), (5, .pl (.one (.ref 4 []))), (7, .pl (.one (.ref 5 []))), (16, .pl (.one (.v (.list false 4 (List.map (r_T_impl_Body false) w.Bodies))))), (17, .pl (.one (.v (.sc (.int .i64 (w.Bodies.length : Int)))))), (18, .pl (.one (.v (.sc (.int .i64 x18))))), (43, .pl (.one (.v (.sc (.bool b_2)))))], ob := [(3, .box true [.list false 1 (List.map (rL false 1 (rK .i64)) w.Parents), .list false 4 (List.map (r_T_impl_Body false) w.Bodies)]), (4, .list true 1 (List.map (rK .i64) born_1)), (5, .box true [.sc (.string x_2.Line), .sc (.int .i64 x_2.Ins), .sc (.int .i64 x_2.Ord), .list false 1 (List.map (rK .i64) x_2.Dels)])] }) ?_ ?_
          · simp only [List.take_succ_cons, List.take_zero]
            refine quV_sp (fun hc' => ?_) (fun hc' => ?_)
            · replace gh1' := (ifF hc').symm.trans gh1'
              obtain ⟨x_3, hv', gh1'⟩ := Option.bind_eq_some_iff.1 gh1'
              have H' := And.intro (geti_f hv') H'
              refine ops H' ?_
              obtain rfl := Option.some.inj gh1'
              refine quV_nil ?_
              exact ⟨rfl, shd [1, 2, 5, 7, 16, 17, 18, 43] [(3, 3), (4, 4), (5, 5)] 6 rfl⟩
            · replace gh1' := (ifT hc').symm.trans gh1'
              refine ops H' ?_
              obtain rfl := Option.some.inj gh1'
              refine quV_nil ?_
              exact ⟨rfl, shd [1, 2, 5, 7, 16, 17, 18, 43] [(3, 3), (4, 4), (5, 5)] 6 rfl⟩
          · rintro e' rfl
            simp only [List.drop_succ_cons, List.drop_zero]
            refine ops H' ?_
            obtain ⟨b_3, gh1', h1'⟩ := Option.bind_eq_some_iff.1 h1'
            refine quV_cut 7 (fun e' => e' = { N := 97, np := 3, nx := 6, sl := [(1, .pl (.one (.v (.list false 1 (List.map (rK .u64) closed))))), (2, .pl (.one (.ref 3 []))), (5, .pl (.one (.ref 4 []))), (7, .pl (.one (.ref 5 []))), (16, .pl (.one (.v (.list false 4 (List.map (r_T_impl_Body false) w.Bodies))))), (17, .pl (.one (.v (.sc (.int .i64 (w.Bodies.length : Int)))))), (18, .pl (.one (.v (.sc (.int .i64 x18))))), (51, .pl (.one (.v (.sc (.bool b_3)))))], ob := [(3, .box true [.list false 1 (List.map (rL false 1 (rK .i64)) w.Parents), .list false 4 (List.map (r_T_impl_Body false) w.Bodies)]), (4, .list true 1 (List.map (rK .i64) born_1)), (5, .box true [.sc (.string x_2.Line), .sc (.int .i64 x_2.Ins), .sc (.int .i64 x_2.Ord), .list false 1 (List.map (rK .i64) x_2.Dels)])] }) ?_ ?_
            · simp only [List.take_succ_cons, List.take_zero]
              refine quV_sp (fun hc' => ?_) (fun hc' => ?_)
              · replace gh1' := (ifF hc').symm.trans gh1'
                refine ops H' ?_
                obtain ⟨x49, hy', gh1'⟩ := Option.bind_eq_some_iff.1 gh1'
                refine callGQ H' (W_impl_ascends _ _ _ hy') ?_
                refine ops H' ?_
                obtain rfl := Option.some.inj gh1'
                refine quV_nil ?_
                exact ⟨rfl, shd [1, 2, 5, 7, 16, 17, 18, 51] [(3, 3), (4, 4), (5, 5)] 6 rfl⟩
              · replace gh1' := (ifT hc').symm.trans gh1'
                refine ops H' ?_
                obtain rfl := Option.some.inj gh1'
                refine quV_nil ?_
                exact ⟨rfl, shd [1, 2, 5, 7, 16, 17, 18, 51] [(3, 3), (4, 4), (5, 5)] 6 rfl⟩
            · rintro e' rfl
              simp only [List.drop_succ_cons, List.drop_zero]
              refine quN ?_
              refine wpV_split (fun hc' => ?_) (fun hc' => ?_)
              · replace h1' := (ifT hc').symm.trans h1'
                refine wpV_seq1 ?_
                refine wpV_region ?_
                refine ops H' ?_
                refine opsN ?_
                refine retN ?_
                obtain rfl := Option.some.inj h1'
                refine ⟨_, rfl, fun hr' => ?_⟩
                subst hr'
                obtain rfl := Option.some.inj h0'
                exact outG H' rfl rfl
              · replace h1' := (ifF hc').symm.trans h1'
                refine skipN ?_
                refine wpV_seq1 ?_
                refine wpV_region ?_
                obtain ⟨x_4, hv', h1'⟩ := Option.bind_eq_some_iff.1 h1'
                have H' := And.intro (geti_f hv') H'
                refine ops H' ?_
                refine opsN ?_
                refine wpV_seq1 ?_
                refine wpV_region ?_
                refine ops H' ?_
                refine opsN ?_
                obtain ⟨p_2, hl', h1'⟩ := Option.bind_eq_some_iff.1 h1'
                refine wpV_block ?_
                refine wpV_loopM (fun x62 e' => e' = { N := 97, np := 3, nx := 6, sl := [(1, .pl (.one (.v (.list false 1 (List.map (rK .u64) closed))))), (2, .pl (.one (.ref 3 []))), (5, .pl (.one (.ref 4 []))), (7, .pl (.one (.ref 5 []))), (16, .pl (.one (.v (.list false 4 (List.map (r_T_impl_Body false) w.Bodies))))), (17, .pl (.one (.v (.sc (.int .i64 (w.Bodies.length : Int)))))), (18, .pl (.one (.v (.sc (.int .i64 x18))))), (60, .pl (.one (.v (.list false 1 (List.map (rK .i64) x_2.Dels))))), (61, .pl (.one (.v (.sc (.int .i64 (x_2.Dels.length : Int)))))), (62, .pl (.one (.v (.sc (.int .i64 x62)))))], ob := [(3, .box true [.list false 1 (List.map (rL false 1 (rK .i64)) w.Parents), .list false 4 (List.map (r_T_impl_Body false) w.Bodies)]), (4, .list true 1 (List.map (rK .i64) (born_1.set x_2.Ins.toNat (wk .i64 (x_4 + 1))))), (5, .box true [.sc (.string x_2.Line), .sc (.int .i64 x_2.Ins), .sc (.int .i64 x_2.Ord), .list false 1 (List.map (rK .i64) x_2.Dels)])] }) hl' (shd [1, 2, 5, 7, 16, 17, 18, 60, 61, 62] [(3, 3), (4, 4), (5, 5)] 6 rfl) ?_
                rintro x62 y2' e' h2' rfl
                replace h2' : impl_bodiesOk_l3 w closed x_2 x62 = some y2' := h2'
                unfold impl_bodiesOk_l3 at h2'
                refine wpV_seq1 ?_
                refine wpV_region ?_
                refine ops H' ?_
                refine opsN ?_
                refine wpV_seq1 ?_
                refine wpV_split (fun hc' => ?_) (fun hc' => ?_)
                · replace h2' := (ifT hc').symm.trans h2'
                  refine skipN ?_
                  refine wpV_seq1 ?_
                  refine wpV_block ?_
                  refine wpV_seq1 ?_
                  refine wpV_region ?_
                  obtain ⟨x_5, hv', h2'⟩ := Option.bind_eq_some_iff.1 h2'
                  have H' := And.intro (geti_f hv') H'
                  refine ops H' ?_
                  refine opsN ?_
                  refine wpV_seq1 ?_
                  refine regQ ?_
                  obtain ⟨x_6, hv', h2'⟩ := Option.bind_eq_some_iff.1 h2'
                  have H' := And.intro (geti_f hv') H'
                  refine ops H' ?_
                  obtain ⟨x73, hy', h2'⟩ := Option.bind_eq_some_iff.1 h2'
                  refine callGQ H' (W_impl_unionOf _ _ _ hy') ?_
                  obtain ⟨x74, hy', h2'⟩ := Option.bind_eq_some_iff.1 h2'
                  refine callGQ H' (W_impl_Body_isLive _ _ _ hy') ?_
                  refine ops H' ?_
                  refine quN ?_
                  refine wpV_split (fun hc' => ?_) (fun hc' => ?_)
                  · replace h2' := (ifT hc').symm.trans h2'
                    refine wpV_seq1 ?_
                    refine wpV_region ?_
                    refine ops H' ?_
                    refine opsN ?_
                    refine retN ?_
                    obtain rfl := Option.some.inj h2'
                    refine ⟨_, rfl, fun hr' => ?_⟩
                    subst hr'
                    obtain rfl := Option.some.inj h1'
                    refine ⟨_, rfl, fun hr' => ?_⟩
                    subst hr'
                    obtain rfl := Option.some.inj h0'
                    exact outG H' rfl rfl
                  · replace h2' := (ifF hc').symm.trans h2'
                    refine skipN ?_
                    refine wpV_region ?_
                    refine ops H' ?_
                    refine opsN ?_
                    obtain rfl := Option.some.inj h2'
                    exact shd [1, 2, 5, 7, 16, 17, 18, 60, 61, 62] [(3, 3), (4, 4), (5, 5)] 6 ⟨_, rfl, rfl⟩
                · replace h2' := (ifF hc').symm.trans h2'
                  refine exitN ?_
                  obtain rfl := Option.some.inj h2'
                  refine ⟨_, rfl, fun hr' => ?_⟩
                  subst hr'
                  exact shd [1, 2, 5, 16, 17, 18] [(3, 3), (4, 4)] 5 ⟨_, h1', rfl⟩
      · rintro e' ⟨born_2, h1', rfl⟩
        unfold impl_bodiesOk_j3 at h1'
        refine wpV_region ?_
        refine ops H' ?_
        refine opsN ?_
        obtain rfl := Option.some.inj h1'
        exact shd [1, 2, 5, 16, 17, 18] [(3, 3), (4, 4)] 5 ⟨_, rfl, _, _, rfl, rfl⟩
    · replace h1' := (ifF hc').symm.trans h1'
      refine exitN ?_
      obtain rfl := Option.some.inj h1'
      refine ⟨_, rfl, fun hr' => ?_⟩
      subst hr'
      exact shd [1, 2, 5] [(3, 3), (4, 4)] 5 ⟨_, h0', rfl⟩
  · rintro e' ⟨born, h0', rfl⟩
    unfold impl_bodiesOk_j1 at h0'
    refine wpV_seqJ (fun e' => impl_bodiesOk_j2 = some r' ∧ e' = { N := 97, np := 3, nx := 3, sl := [], ob := [] }) ?_ ?_
    · refine wpV_seq1 ?_
      refine wpV_region ?_
      refine ops H' ?_
      refine opsN ?_
      obtain ⟨p, hl', h0'⟩ := Option.bind_eq_some_iff.1 h0'
      refine wpV_block ?_
      refine wpV_loopM (fun x80 e' => e' = { N := 97, np := 3, nx := 5, sl := [(2, .pl (.one (.ref 3 []))), (5, .pl (.one (.ref 4 []))), (78, .pl (.one (.v (.list false 1 (List.map (rK .u64) closed))))), (79, .pl (.one (.v (.sc (.int .i64 (closed.length : Int)))))), (80, .pl (.one (.v (.sc (.int .i64 x80)))))], ob := [(3, .box true [.list false 1 (List.map (rL false 1 (rK .i64)) w.Parents), .list false 4 (List.map (r_T_impl_Body false) w.Bodies)]), (4, .list true 1 (List.map (rK .i64) born))] }) hl' (shd [2, 5, 78, 79, 80] [(3, 3), (4, 4)] 5 rfl) ?_
      rintro x80 y1' e' h1' rfl
      replace h1' : impl_bodiesOk_l1 w closed born x80 = some y1' := h1'
      unfold impl_bodiesOk_l1 at h1'
      refine wpV_seq1 ?_
      refine wpV_region ?_
      refine ops H' ?_
      refine opsN ?_
      refine wpV_seq1 ?_
      refine wpV_split (fun hc' => ?_) (fun hc' => ?_)
      · replace h1' := (ifT hc').symm.trans h1'
        refine skipN ?_
        refine wpV_seq1 ?_
        refine wpV_block ?_
        refine wpV_seq1 ?_
        refine wpV_region ?_
        obtain ⟨x, hv', h1'⟩ := Option.bind_eq_some_iff.1 h1'
        have H' := And.intro (geti_f hv') H'
        refine ops H' ?_
        refine opsN ?_
        refine wpV_seq1 ?_
        refine wpV_region ?_
        obtain ⟨x_1, hv', h1'⟩ := Option.bind_eq_some_iff.1 h1'
        have H' := And.intro (geti_f hv') H'
        refine ops H' ?_
        obtain ⟨b, gh1', h1'⟩ := Option.bind_eq_some_iff.1 h1'
        refine opsV_cut 5 (fun e' => e' = { N := 97, np := 3, nx := 5, sl := [(2, .pl (.one (.ref 3 []))), (5, .pl (.one (.ref 4 []))), (78, .pl (.one (.v (.list false 1 (List.map (rK .u64) closed))))), (79, .pl (.one (.v (.sc (.int .i64 (closed.length : Int)))))), (80, .pl (.one (.v (.sc (.int .i64 x80))))), (95, .pl (.one (.v (.sc (.bool b)))))], ob := [(3, .box true [.list false 1 (List.map (rL false 1 (rK .i64)) w.Parents), .list false 4 (List.map (r_T_impl_Body false) w.Bodies)]), (4, .list true 1 (List.map (rK .i64) born))] }) ?_ ?_
        · simp only [List.take_succ_cons, List.take_zero]
          refine opsV_sp (fun hc' => ?_) (fun hc' => ?_)
          · replace gh1' := (ifF hc').symm.trans gh1'
            refine ops H' ?_
            obtain ⟨x92, hy', gh1'⟩ := Option.bind_eq_some_iff.1 gh1'
            refine callG H' (fun _ => []) (W_impl_Weave_liveIn _ _ _ hy') ?_
            refine ops H' ?_
            obtain rfl := Option.some.inj gh1'
            refine opsV_nil ?_
            exact ⟨rfl, shd [2, 5, 78, 79, 80, 95] [(3, 3), (4, 4)] 5 rfl⟩
          · replace gh1' := (ifT hc').symm.trans gh1'
            refine ops H' ?_
            obtain rfl := Option.some.inj gh1'
            refine opsV_nil ?_
            exact ⟨rfl, shd [2, 5, 78, 79, 80, 95] [(3, 3), (4, 4)] 5 rfl⟩
        · rintro e' rfl
          simp only [List.drop_succ_cons, List.drop_zero]
          refine opsN ?_
          refine wpV_split (fun hc' => ?_) (fun hc' => ?_)
          · replace h1' := (ifT hc').symm.trans h1'
            refine wpV_seq1 ?_
            refine wpV_region ?_
            refine ops H' ?_
            refine opsN ?_
            refine retN ?_
            obtain rfl := Option.some.inj h1'
            refine ⟨_, rfl, fun hr' => ?_⟩
            subst hr'
            obtain rfl := Option.some.inj h0'
            exact outG H' rfl rfl
          · replace h1' := (ifF hc').symm.trans h1'
            refine skipN ?_
            refine wpV_region ?_
            refine ops H' ?_
            refine opsN ?_
            obtain rfl := Option.some.inj h1'
            exact shd [2, 5, 78, 79, 80] [(3, 3), (4, 4)] 5 ⟨_, rfl, rfl⟩
      · replace h1' := (ifF hc').symm.trans h1'
        refine exitN ?_
        obtain rfl := Option.some.inj h1'
        refine ⟨_, rfl, fun hr' => ?_⟩
        subst hr'
        exact shd [] [] 3 ⟨h0', rfl⟩
    · rintro e' ⟨h0', rfl⟩
      unfold impl_bodiesOk_j2 at h0'
      refine wpV_seq1 ?_
      refine wpV_region ?_
      refine ops H' ?_
      refine opsN ?_
      refine retN ?_
      obtain rfl := Option.some.inj h0'
      exact outG H' rfl rfl
end Go.TV.KFnUndoes
