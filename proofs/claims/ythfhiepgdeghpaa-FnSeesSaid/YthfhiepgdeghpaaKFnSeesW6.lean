/- Walks. -/
import Derived.Test.YthfhiepgdeghpaaKFnSeesE
import Derived.Test.YthfhiepgdeghpaaKFnSeesW0
import Derived.Test.YthfhiepgdeghpaaKFnSeesW3
import Derived.Test.YthfhiepgdeghpaaKFnSeesW4
import Derived.Test.YthfhiepgdeghpaaKFnSeesW5
set_option linter.unusedVariables false
set_option linter.unusedSimpArgs false
set_option maxHeartbeats 8000000
set_option maxRecDepth 100000
namespace Go.TV.KFnSees
attribute [local irreducible] anyV wpV opsV Does thenV blockV RetL quV seqV
open Go.Proofs.Try Go.TV.F
theorem W_spec_l06Text (w : T_impl_Weave) (v : Int) (r' : (List ByteArray)) (h0' : spec_l06Text w v = some r') : Fn X 126 [.agg [.list false 1 (List.map (rL false 1 (rK .i64)) w.Parents), .list false 4 (List.map (r_T_impl_Body false) w.Bodies)], .one (.sc (.int .i64 v))] [.one (.list true 1 (List.map rS r'))] [] := by
  have H' := And.intro t41 (And.intro R_Li64 (And.intro R_T_impl_Body (And.intro R_b (And.intro R_i64 (R_s)))))
  unfold spec_l06Text at h0'
  refine Fn.start (fn := f126) (N := 12) (res := [.tmp 4]) rfl rfl rfl rfl rfl (by simp) ?_
  refine enterG H' ?_
  refine wpV_seq1 ?_
  refine wpV_region ?_
  refine ops H' ?_
  refine opsN ?_
  refine wpV_seq1 ?_
  obtain ⟨x9, hy_x9, h0'⟩ := Option.bind_eq_some_iff.1 h0'
  obtain ⟨x10, hy_x10, h0'⟩ := Option.bind_eq_some_iff.1 h0'
  obtain ⟨x11, hy_x11, h0'⟩ := Option.bind_eq_some_iff.1 h0'
  refine wpV_J (fun e' => e' = { N := 12, np := 3, nx := 4, sl := [(4, .pl (.one (.ref 3 [])))], ob := [(3, .list true 1 (List.map rS x11))] }) ?_ ?_
  · refine regAnyF [(0, 5, .pl (.agg [.v (.list false 1 (List.map (rL false 1 (rK .i64)) w.Parents)), .v (.list false 4 (List.map (r_T_impl_Body false) w.Bodies))])), (1, 6, .pl (.agg [.v (.list false 1 (List.map (rL false 1 (rK .i64)) w.Parents)), .v (.list false 4 (List.map (r_T_impl_Body false) w.Bodies))])), (2, 7, .pl (.agg [.v (.list false 1 (List.map (rL false 1 (rK .i64)) w.Parents)), .v (.list false 4 (List.map (r_T_impl_Body false) w.Bodies))]))] ?_
    refine (?_ : anyF X ?ops1_0_0 _ _ ?P1_0_0 _)
    have d1_0_0_0' : anyF X ?ops1_0_0 [0, 1, 2, 3, 4, 5, 6, 7] [] ?P1_0_0 { N := 12, np := 3, nx := 4, sl := [(4, .pl (.one (.ref 3 [])))], ob := [(3, .list true 1 (List.map rS x11))] } := by
      refine fend (e2 := { N := 12, np := 3, nx := 4, sl := [(4, .pl (.one (.ref 3 [])))], ob := [(3, .list true 1 (List.map rS x11))] }) [] [] [] [] trivial ⟨rfl, shd [4] [(3, 3)] 4 rfl⟩
    have d1_0_0_1' : anyF X ?ops1_0_0 [0, 1, 2, 3, 4, 5, 6] [] ?P1_0_0 { N := 12, np := 3, nx := 4, sl := [(11, .pl (.one (.ref 3 [])))], ob := [(3, .list true 1 (List.map rS x11))] } := by
      refine fnode [] [.m 7 [] [0, 1, 2, 3, 4, 5, 6, 7] []] [] [(7, false, [], [0, 1, 2, 3, 4, 5, 6, 7])] ⟨?_, trivial⟩
      · refine obM { N := 12, np := 3, nx := 4, sl := [(11, .pl (.one (.ref 3 [])))], ob := [(3, .list true 1 (List.map rS x11))] } ?_
        refine ops H' ?_
        refine opsV_nil ⟨rfl, .inl ⟨rfl, ?_⟩⟩
        exact anyFShd [4] [(3, 3)] 4 d1_0_0_0'
    have d1_0_0_2' : anyF X ?ops1_0_0 [1, 2, 3, 4, 5] [(0, 5, .pl (.agg [.v (.list false 1 (List.map (rL false 1 (rK .i64)) w.Parents)), .v (.list false 4 (List.map (r_T_impl_Body false) w.Bodies))]))] ?P1_0_0 { N := 12, np := 3, nx := 5, sl := [(2, .pl (.one (.ref 3 []))), (10, .pl (.one (.ref 4 [])))], ob := [(3, .box true [.list false 1 (List.map (rL false 1 (rK .i64)) w.Parents), .list false 4 (List.map (r_T_impl_Body false) w.Bodies)]), (4, .list true 1 (List.map (rK .i64) x10))] } := by
      refine fnode [0] [.q 0 5 (.pl (.agg [.v (.list false 1 (List.map (rL false 1 (rK .i64)) w.Parents)), .v (.list false 4 (List.map (r_T_impl_Body false) w.Bodies))])) [], .m 6 [0] [0, 1, 2, 3, 4, 5, 6] []] [(0, 5)] [(0, true, [], []), (6, false, [0], [0, 1, 2, 3, 4, 5, 6])] ⟨?_, ?_, trivial⟩
      · refine obQ 0 { N := 12, np := 3, nx := 5, sl := [(2, .pl (.one (.ref 3 []))), (10, .pl (.one (.ref 4 [])))], ob := [(3, .box true [.list false 1 (List.map (rL false 1 (rK .i64)) w.Parents), .list false 4 (List.map (r_T_impl_Body false) w.Bodies)]), (4, .list true 1 (List.map (rK .i64) x10))] } ?_
        refine ops H' ?_
        refine opsV_nil ⟨rfl, shd [5, 2, 10] [(3, 3), (4, 4)] 5 rfl⟩
      · refine obM { N := 12, np := 3, nx := 5, sl := [(5, .pl (.agg [.v (.list false 1 (List.map (rL false 1 (rK .i64)) w.Parents)), .v (.list false 4 (List.map (r_T_impl_Body false) w.Bodies))])), (2, .pl (.one (.ref 3 []))), (10, .pl (.one (.ref 4 [])))], ob := [(3, .box true [.list false 1 (List.map (rL false 1 (rK .i64)) w.Parents), .list false 4 (List.map (r_T_impl_Body false) w.Bodies)]), (4, .list true 1 (List.map (rK .i64) x10))] } ?_
        refine callG H' (fun _ => []) (W_spec_l06Lines _ _ _ hy_x11) ?_
        refine opsV_nil ⟨rfl, .inl ⟨rfl, ?_⟩⟩
        exact anyFShd [11] [(5, 3)] 4 d1_0_0_1'
    have d1_0_0_3' : anyF X ?ops1_0_0 [2, 3, 4] [(0, 5, .pl (.agg [.v (.list false 1 (List.map (rL false 1 (rK .i64)) w.Parents)), .v (.list false 4 (List.map (r_T_impl_Body false) w.Bodies))])), (1, 6, .pl (.agg [.v (.list false 1 (List.map (rL false 1 (rK .i64)) w.Parents)), .v (.list false 4 (List.map (r_T_impl_Body false) w.Bodies))]))] ?P1_0_0 { N := 12, np := 3, nx := 5, sl := [(2, .pl (.one (.ref 3 []))), (9, .pl (.one (.ref 4 [])))], ob := [(3, .box true [.list false 1 (List.map (rL false 1 (rK .i64)) w.Parents), .list false 4 (List.map (r_T_impl_Body false) w.Bodies)]), (4, .list true 1 (List.map rB x9))] } := by
      refine fnode [0, 1] [.q 0 5 (.pl (.agg [.v (.list false 1 (List.map (rL false 1 (rK .i64)) w.Parents)), .v (.list false 4 (List.map (r_T_impl_Body false) w.Bodies))])) [], .q 1 6 (.pl (.agg [.v (.list false 1 (List.map (rL false 1 (rK .i64)) w.Parents)), .v (.list false 4 (List.map (r_T_impl_Body false) w.Bodies))])) [], .m 5 [1] [1, 2, 3, 4, 5] [(0, 5, .pl (.agg [.v (.list false 1 (List.map (rL false 1 (rK .i64)) w.Parents)), .v (.list false 4 (List.map (r_T_impl_Body false) w.Bodies))]))]] [(0, 5), (1, 6)] [(0, true, [], []), (1, true, [], []), (5, false, [1], [1, 2, 3, 4, 5])] ⟨?_, ?_, ?_, trivial⟩
      · refine obQ 0 { N := 12, np := 3, nx := 5, sl := [(2, .pl (.one (.ref 3 []))), (9, .pl (.one (.ref 4 [])))], ob := [(3, .box true [.list false 1 (List.map (rL false 1 (rK .i64)) w.Parents), .list false 4 (List.map (r_T_impl_Body false) w.Bodies)]), (4, .list true 1 (List.map rB x9))] } ?_
        refine ops H' ?_
        refine opsV_nil ⟨rfl, shd [5, 2, 9] [(3, 3), (4, 4)] 5 rfl⟩
      · refine obQ 1 { N := 12, np := 3, nx := 5, sl := [(2, .pl (.one (.ref 3 []))), (9, .pl (.one (.ref 4 [])))], ob := [(3, .box true [.list false 1 (List.map (rL false 1 (rK .i64)) w.Parents), .list false 4 (List.map (r_T_impl_Body false) w.Bodies)]), (4, .list true 1 (List.map rB x9))] } ?_
        refine ops H' ?_
        refine opsV_nil ⟨rfl, shd [6, 2, 9] [(3, 3), (4, 4)] 5 rfl⟩
      · refine obM { N := 12, np := 3, nx := 5, sl := [(6, .pl (.agg [.v (.list false 1 (List.map (rL false 1 (rK .i64)) w.Parents)), .v (.list false 4 (List.map (r_T_impl_Body false) w.Bodies))])), (2, .pl (.one (.ref 3 []))), (9, .pl (.one (.ref 4 [])))], ob := [(3, .box true [.list false 1 (List.map (rL false 1 (rK .i64)) w.Parents), .list false 4 (List.map (r_T_impl_Body false) w.Bodies)]), (4, .list true 1 (List.map rB x9))] } ?_
        refine callG H' (fun _ => []) (W_spec_l06Places _ _ _ hy_x10) ?_
        refine opsV_nil ⟨rfl, .inl ⟨rfl, ?_⟩⟩
        exact anyFShd [2, 10] [(3, 3), (5, 4)] 5 d1_0_0_2'
    have d1_0_0_4' : anyF X ?ops1_0_0 [3] [(0, 5, .pl (.agg [.v (.list false 1 (List.map (rL false 1 (rK .i64)) w.Parents)), .v (.list false 4 (List.map (r_T_impl_Body false) w.Bodies))])), (1, 6, .pl (.agg [.v (.list false 1 (List.map (rL false 1 (rK .i64)) w.Parents)), .v (.list false 4 (List.map (r_T_impl_Body false) w.Bodies))])), (2, 7, .pl (.agg [.v (.list false 1 (List.map (rL false 1 (rK .i64)) w.Parents)), .v (.list false 4 (List.map (r_T_impl_Body false) w.Bodies))]))] ?P1_0_0 { N := 12, np := 3, nx := 4, sl := [(2, .pl (.one (.ref 3 []))), (8, .pl (.one (.v (.sc (.int .i64 v)))))], ob := [(3, .box true [.list false 1 (List.map (rL false 1 (rK .i64)) w.Parents), .list false 4 (List.map (r_T_impl_Body false) w.Bodies)])] } := by
      refine fnode [0, 1, 2] [.q 0 5 (.pl (.agg [.v (.list false 1 (List.map (rL false 1 (rK .i64)) w.Parents)), .v (.list false 4 (List.map (r_T_impl_Body false) w.Bodies))])) [], .q 1 6 (.pl (.agg [.v (.list false 1 (List.map (rL false 1 (rK .i64)) w.Parents)), .v (.list false 4 (List.map (r_T_impl_Body false) w.Bodies))])) [], .q 2 7 (.pl (.agg [.v (.list false 1 (List.map (rL false 1 (rK .i64)) w.Parents)), .v (.list false 4 (List.map (r_T_impl_Body false) w.Bodies))])) [], .m 4 [2] [2, 3, 4] [(0, 5, .pl (.agg [.v (.list false 1 (List.map (rL false 1 (rK .i64)) w.Parents)), .v (.list false 4 (List.map (r_T_impl_Body false) w.Bodies))])), (1, 6, .pl (.agg [.v (.list false 1 (List.map (rL false 1 (rK .i64)) w.Parents)), .v (.list false 4 (List.map (r_T_impl_Body false) w.Bodies))]))]] [(0, 5), (1, 6), (2, 7)] [(0, true, [], []), (1, true, [], []), (2, true, [], []), (4, false, [2], [2, 3, 4])] ⟨?_, ?_, ?_, ?_, trivial⟩
      · refine obQ 0 { N := 12, np := 3, nx := 4, sl := [(2, .pl (.one (.ref 3 []))), (8, .pl (.one (.v (.sc (.int .i64 v)))))], ob := [(3, .box true [.list false 1 (List.map (rL false 1 (rK .i64)) w.Parents), .list false 4 (List.map (r_T_impl_Body false) w.Bodies)])] } ?_
        refine ops H' ?_
        refine opsV_nil ⟨rfl, shd [5, 2, 8] [(3, 3)] 4 rfl⟩
      · refine obQ 1 { N := 12, np := 3, nx := 4, sl := [(2, .pl (.one (.ref 3 []))), (8, .pl (.one (.v (.sc (.int .i64 v)))))], ob := [(3, .box true [.list false 1 (List.map (rL false 1 (rK .i64)) w.Parents), .list false 4 (List.map (r_T_impl_Body false) w.Bodies)])] } ?_
        refine ops H' ?_
        refine opsV_nil ⟨rfl, shd [6, 2, 8] [(3, 3)] 4 rfl⟩
      · refine obQ 2 { N := 12, np := 3, nx := 4, sl := [(2, .pl (.one (.ref 3 []))), (8, .pl (.one (.v (.sc (.int .i64 v)))))], ob := [(3, .box true [.list false 1 (List.map (rL false 1 (rK .i64)) w.Parents), .list false 4 (List.map (r_T_impl_Body false) w.Bodies)])] } ?_
        refine ops H' ?_
        refine opsV_nil ⟨rfl, shd [7, 2, 8] [(3, 3)] 4 rfl⟩
      · refine obM { N := 12, np := 3, nx := 4, sl := [(7, .pl (.agg [.v (.list false 1 (List.map (rL false 1 (rK .i64)) w.Parents)), .v (.list false 4 (List.map (r_T_impl_Body false) w.Bodies))])), (2, .pl (.one (.ref 3 []))), (8, .pl (.one (.v (.sc (.int .i64 v)))))], ob := [(3, .box true [.list false 1 (List.map (rL false 1 (rK .i64)) w.Parents), .list false 4 (List.map (r_T_impl_Body false) w.Bodies)])] } ?_
        refine callG H' (fun _ => []) (W_spec_l06Closure _ _ _ hy_x9) ?_
        refine opsV_nil ⟨rfl, .inl ⟨rfl, ?_⟩⟩
        exact anyFShd [2, 9] [(3, 3), (4, 4)] 5 d1_0_0_3'
    refine fpure H' 3 [3] [(0, 5), (1, 6), (2, 7)] ?_
    exact anyFShd [2, 8] [(3, 3)] 4 d1_0_0_4'
  · rintro e' rfl
    refine contN ?_
    refine retN ?_
    obtain rfl := Option.some.inj h0'
    exact outG H' rfl rfl
theorem W_spec_Extract (w : T_impl_Weave) (v : Int) (r' : (List ByteArray) × Int) (h0' : spec_Extract w v = some r') : Fn X 49 [.agg [.list false 1 (List.map (rL false 1 (rK .i64)) w.Parents), .list false 4 (List.map (r_T_impl_Body false) w.Bodies)], .one (.sc (.int .i64 v))] [.one (.list true 1 (List.map rS r'.1)), .one (.sc (.int .i64 r'.2))] [] := by
  have H' := And.intro t9 (And.intro t41 (And.intro t55 (And.intro R_Li64 (And.intro R_T_impl_Body (And.intro R_i64 (R_s))))))
  unfold spec_Extract at h0'
  refine Fn.start (fn := f49) (N := 18) (res := [.tmp 4, .tmp 5]) rfl rfl rfl rfl rfl (by simp) ?_
  refine enterG H' ?_
  refine wpV_seq1 ?_
  refine wpV_region ?_
  refine ops H' ?_
  refine opsN ?_
  refine wpV_seq1 ?_
  refine wpV_seq1 ?_
  refine wpV_region ?_
  refine ops H' ?_
  obtain ⟨x7, hy', h0'⟩ := Option.bind_eq_some_iff.1 h0'
  refine callG H' (fun _ => []) (W_spec_WeaveOk _ _ hy') ?_
  refine ops H' ?_
  refine opsN ?_
  refine wpV_split (fun hc' => ?_) (fun hc' => ?_)
  · replace h0' := (ifT hc').symm.trans h0'
    refine wpV_seq1 ?_
    refine wpV_region ?_
    refine ops H' ?_
    refine opsN ?_
    refine retN ?_
    obtain rfl := Option.some.inj h0'
    exact outG H' rfl rfl
  · replace h0' := (ifF hc').symm.trans h0'
    refine skipN ?_
    refine wpV_seq1 ?_
    refine wpV_seq1 ?_
    refine wpV_region ?_
    refine ops H' ?_
    obtain ⟨x12, hy', h0'⟩ := Option.bind_eq_some_iff.1 h0'
    refine callG H' (fun _ => []) (W_spec_l06Has _ _ _ hy') ?_
    refine ops H' ?_
    refine opsN ?_
    refine wpV_split (fun hc' => ?_) (fun hc' => ?_)
    · replace h0' := (ifT hc').symm.trans h0'
      refine wpV_seq1 ?_
      refine wpV_region ?_
      refine ops H' ?_
      refine opsN ?_
      refine retN ?_
      obtain rfl := Option.some.inj h0'
      exact outG H' rfl rfl
    · replace h0' := (ifF hc').symm.trans h0'
      refine skipN ?_
      refine wpV_seq1 ?_
      refine wpV_region ?_
      refine ops H' ?_
      obtain ⟨x17, hy', h0'⟩ := Option.bind_eq_some_iff.1 h0'
      refine callG H' (fun _ => []) (W_spec_l06Text _ _ _ hy') ?_
      refine ops H' ?_
      refine opsN ?_
      refine retN ?_
      obtain rfl := Option.some.inj h0'
      exact outG H' rfl rfl
theorem W_laws_sameTexts (a : List ByteArray) (b : List ByteArray) (r' : Bool) (h0' : laws_sameTexts a b = some r') : Fn X 50 [.one (.list false 1 (List.map rS a)), .one (.list false 1 (List.map rS b))] [.one (.sc (.bool r'))] [] := by
  have H' := And.intro t3 (And.intro t9 (And.intro t55 (R_s)))
  unfold laws_sameTexts at h0'
  refine Fn.start (fn := f50) (N := 26) (res := [.tmp 4]) rfl rfl rfl rfl rfl (by simp) ?_
  refine enterG H' ?_
  refine wpV_seq1 ?_
  refine wpV_region ?_
  refine ops H' ?_
  refine opsN ?_
  refine wpV_seq1 ?_
  refine wpV_seq1 ?_
  refine wpV_region ?_
  refine ops H' ?_
  refine opsN ?_
  refine wpV_split (fun hc' => ?_) (fun hc' => ?_)
  · replace h0' := (ifT hc').symm.trans h0'
    refine wpV_seq1 ?_
    refine wpV_region ?_
    refine ops H' ?_
    refine opsN ?_
    refine retN ?_
    obtain rfl := Option.some.inj h0'
    exact outG H' rfl rfl
  · replace h0' := (ifF hc').symm.trans h0'
    refine skipN ?_
    refine wpV_seqJ (fun e' => laws_sameTexts_j1 = some r' ∧ e' = { N := 26, np := 2, nx := 2, sl := [], ob := [] }) ?_ ?_
    · refine wpV_seq1 ?_
      refine wpV_region ?_
      refine ops H' ?_
      refine opsN ?_
      obtain ⟨p, hl', h0'⟩ := Option.bind_eq_some_iff.1 h0'
      refine wpV_block ?_
      refine wpV_loopM (fun i e' => e' = { N := 26, np := 2, nx := 2, sl := [(0, .pl (.one (.v (.list false 1 (List.map rS a))))), (1, .pl (.one (.v (.list false 1 (List.map rS b))))), (5, .pl (.one (.v (.sc (.int .i64 i)))))], ob := [] }) hl' (shd [0, 1, 5] [] 2 rfl) ?_
      rintro i y1' e' h1' rfl
      replace h1' : laws_sameTexts_l1 a b i = some y1' := h1'
      unfold laws_sameTexts_l1 at h1'
      refine wpV_seq1 ?_
      refine wpV_seq1 ?_
      refine wpV_region ?_
      refine ops H' ?_
      refine opsN ?_
      refine wpV_split (fun hc' => ?_) (fun hc' => ?_)
      · replace h1' := (ifT hc').symm.trans h1'
        refine skipN ?_
        refine wpV_seq1 ?_
        refine wpV_block ?_
        refine wpV_seq1 ?_
        refine regQ ?_
        obtain ⟨x, hv', h1'⟩ := Option.bind_eq_some_iff.1 h1'
        have H' := And.intro (geti_f hv') H'
        obtain ⟨x_1, hv', h1'⟩ := Option.bind_eq_some_iff.1 h1'
        have H' := And.intro (geti_f hv') H'
        refine ops H' ?_
        refine quN ?_
        refine wpV_split (fun hc' => ?_) (fun hc' => ?_)
        · replace h1' := (ifT hc').symm.trans h1'
          refine wpV_seq1 ?_
          refine wpV_region ?_
          refine ops H' ?_
          refine opsN ?_
          refine retN ?_
          obtain rfl := Option.some.inj h1'
          refine ⟨_, rfl, fun hr' => ?_⟩
          subst hr'
          obtain rfl := Option.some.inj h0'
          exact outG H' rfl rfl
        · replace h1' := (ifF hc').symm.trans h1'
          refine skipN ?_
          refine wpV_region ?_
          refine ops H' ?_
          refine opsN ?_
          obtain rfl := Option.some.inj h1'
          exact shd [0, 1, 5] [] 2 ⟨_, rfl, rfl⟩
      · replace h1' := (ifF hc').symm.trans h1'
        refine exitN ?_
        obtain rfl := Option.some.inj h1'
        refine ⟨_, rfl, fun hr' => ?_⟩
        subst hr'
        exact shd [] [] 2 ⟨h0', rfl⟩
    · rintro e' ⟨h0', rfl⟩
      unfold laws_sameTexts_j1 at h0'
      refine wpV_seq1 ?_
      refine wpV_region ?_
      refine ops H' ?_
      refine opsN ?_
      refine retN ?_
      obtain rfl := Option.some.inj h0'
      exact outG H' rfl rfl
theorem W_laws_FnSees (code : List Int) (r' : Bool) (h0' : laws_FnSees code = some r') : Fn X 8 [.one (.list false 1 (List.map (rK .u8) code))] [.one (.sc (.bool r'))] [] := by
  have H' := And.intro t3 (And.intro t9 (And.intro t38 (And.intro t39 (And.intro t41 (And.intro t44 (And.intro t50 (And.intro t55 (And.intro R_Li64 (And.intro R_T_impl_Body (And.intro R_i64 (And.intro R_s (R_u8))))))))))))
  unfold laws_FnSees at h0'
  refine Fn.start (fn := f8) (N := 94) (res := [.tmp 2]) rfl rfl rfl rfl rfl (by simp) ?_
  refine enterG H' ?_
  refine wpV_seq1 ?_
  refine wpV_region ?_
  refine ops H' ?_
  refine opsN ?_
  refine wpV_seq1 ?_
  refine wpV_seq1 ?_
  refine wpV_region ?_
  refine ops H' ?_
  obtain ⟨x14, hy', h0'⟩ := Option.bind_eq_some_iff.1 h0'
  refine callG H' (fun _ => []) (W_laws_big _ _ hy') ?_
  refine opsN ?_
  refine wpV_split (fun hc' => ?_) (fun hc' => ?_)
  · replace h0' := (ifT hc').symm.trans h0'
    refine wpV_seq1 ?_
    refine wpV_region ?_
    refine ops H' ?_
    refine opsN ?_
    refine retN ?_
    obtain rfl := Option.some.inj h0'
    exact outG H' rfl rfl
  · replace h0' := (ifF hc').symm.trans h0'
    refine skipN ?_
    refine wpV_seq1 ?_
    refine wpV_region ?_
    refine ops H' ?_
    obtain ⟨x17, hy', h0'⟩ := Option.bind_eq_some_iff.1 h0'
    refine callG H' (fun _ => []) (W_spec_DrawPair _ _ hy') ?_
    refine ops H' ?_
    refine opsN ?_
    refine wpV_seq1 ?_
    refine wpV_region ?_
    refine ops H' ?_
    obtain ⟨x24, hy', h0'⟩ := Option.bind_eq_some_iff.1 h0'
    refine callG H' (fun _ => []) (W_impl_SeenBy _ _ _ hy') ?_
    refine ops H' ?_
    refine opsN ?_
    refine wpV_seq1 ?_
    refine wpV_region ?_
    refine ops H' ?_
    obtain ⟨x28, hy', h0'⟩ := Option.bind_eq_some_iff.1 h0'
    refine callG H' (fun _ => []) (W_impl_Extract _ _ _ hy') ?_
    refine ops H' ?_
    refine opsN ?_
    refine wpV_seq1 ?_
    obtain ⟨x35, hy_x35, h0'⟩ := Option.bind_eq_some_iff.1 h0'
    obtain ⟨x36, hy_x36, h0'⟩ := Option.bind_eq_some_iff.1 h0'
    refine wpV_J (fun e' => e' = { N := 94, np := 1, nx := 5, sl := [(3, .pl (.one (.ref 1 []))), (4, .pl (.one (.v (.sc (.int .i64 x17.2.1))))), (6, .pl (.one (.ref 2 []))), (7, .pl (.one (.ref 3 []))), (8, .pl (.one (.v (.sc (.int .i64 x28.2))))), (9, .pl (.one (.ref 4 [])))], ob := [(1, .box true [.list true 1 (List.map (rL true 1 (rK .i64)) x17.1.Parents), .list true 4 (List.map (r_T_impl_Body true) x17.1.Bodies)]), (2, .list true 1 (List.map rS x24)), (3, .list true 1 (List.map rS x28.1)), (4, .list true 1 (List.map (rK .i64) x36))] }) ?_ ?_
    · refine regAnyF [] ?_
      refine (?_ : anyF X ?ops6_0_0 _ _ ?P6_0_0 _)
      have d6_0_0_0' : anyF X ?ops6_0_0 [0, 1, 2, 3, 4, 5, 6] [] ?P6_0_0 { N := 94, np := 1, nx := 5, sl := [(3, .pl (.one (.ref 1 []))), (4, .pl (.one (.v (.sc (.int .i64 x17.2.1))))), (6, .pl (.one (.ref 2 []))), (7, .pl (.one (.ref 3 []))), (8, .pl (.one (.v (.sc (.int .i64 x28.2))))), (9, .pl (.one (.ref 4 [])))], ob := [(1, .box true [.list true 1 (List.map (rL true 1 (rK .i64)) x17.1.Parents), .list true 4 (List.map (r_T_impl_Body true) x17.1.Bodies)]), (2, .list true 1 (List.map rS x24)), (3, .list true 1 (List.map rS x28.1)), (4, .list true 1 (List.map (rK .i64) x36))] } := by
        refine fend (e2 := { N := 94, np := 1, nx := 5, sl := [(3, .pl (.one (.ref 1 []))), (4, .pl (.one (.v (.sc (.int .i64 x17.2.1))))), (6, .pl (.one (.ref 2 []))), (7, .pl (.one (.ref 3 []))), (8, .pl (.one (.v (.sc (.int .i64 x28.2))))), (9, .pl (.one (.ref 4 [])))], ob := [(1, .box true [.list true 1 (List.map (rL true 1 (rK .i64)) x17.1.Parents), .list true 4 (List.map (r_T_impl_Body true) x17.1.Bodies)]), (2, .list true 1 (List.map rS x24)), (3, .list true 1 (List.map rS x28.1)), (4, .list true 1 (List.map (rK .i64) x36))] }) [] [] [] [] trivial ⟨rfl, shd [3, 4, 6, 7, 8, 9] [(1, 1), (2, 2), (3, 3), (4, 4)] 5 rfl⟩
      have d6_0_0_1' : anyF X ?ops6_0_0 [0, 1, 2, 3, 4, 5] [] ?P6_0_0 { N := 94, np := 1, nx := 5, sl := [(3, .pl (.one (.ref 1 []))), (4, .pl (.one (.v (.sc (.int .i64 x17.2.1))))), (6, .pl (.one (.ref 2 []))), (7, .pl (.one (.ref 3 []))), (8, .pl (.one (.v (.sc (.int .i64 x28.2))))), (36, .pl (.one (.ref 4 [])))], ob := [(1, .box true [.list true 1 (List.map (rL true 1 (rK .i64)) x17.1.Parents), .list true 4 (List.map (r_T_impl_Body true) x17.1.Bodies)]), (2, .list true 1 (List.map rS x24)), (3, .list true 1 (List.map rS x28.1)), (4, .list true 1 (List.map (rK .i64) x36))] } := by
        refine fnode [] [.m 6 [] [0, 1, 2, 3, 4, 5, 6] []] [] [(6, false, [], [0, 1, 2, 3, 4, 5, 6])] ⟨?_, trivial⟩
        · refine obM { N := 94, np := 1, nx := 5, sl := [(3, .pl (.one (.ref 1 []))), (4, .pl (.one (.v (.sc (.int .i64 x17.2.1))))), (6, .pl (.one (.ref 2 []))), (7, .pl (.one (.ref 3 []))), (8, .pl (.one (.v (.sc (.int .i64 x28.2))))), (36, .pl (.one (.ref 4 [])))], ob := [(1, .box true [.list true 1 (List.map (rL true 1 (rK .i64)) x17.1.Parents), .list true 4 (List.map (r_T_impl_Body true) x17.1.Bodies)]), (2, .list true 1 (List.map rS x24)), (3, .list true 1 (List.map rS x28.1)), (4, .list true 1 (List.map (rK .i64) x36))] } ?_
          refine ops H' ?_
          refine opsV_nil ⟨rfl, .inl ⟨rfl, ?_⟩⟩
          exact anyFShd [3, 4, 6, 7, 8, 9] [(1, 1), (2, 2), (3, 3), (4, 4)] 5 d6_0_0_0'
      have d6_0_0_2' : anyF X ?ops6_0_0 [0, 1, 2, 3, 4] [] ?P6_0_0 { N := 94, np := 1, nx := 5, sl := [(3, .pl (.one (.ref 1 []))), (4, .pl (.one (.v (.sc (.int .i64 x17.2.1))))), (6, .pl (.one (.ref 2 []))), (7, .pl (.one (.ref 3 []))), (8, .pl (.one (.v (.sc (.int .i64 x28.2))))), (31, .pl (.agg [.ref 1 [(0, 0, 0)], .ref 1 [(0, 0, 1)]])), (35, .pl (.one (.ref 4 [])))], ob := [(1, .box true [.list true 1 (List.map (rL true 1 (rK .i64)) x17.1.Parents), .list true 4 (List.map (r_T_impl_Body true) x17.1.Bodies)]), (2, .list true 1 (List.map rS x24)), (3, .list true 1 (List.map rS x28.1)), (4, .list true 1 (List.map (rK .i64) x35))] } := by
        refine fnode [] [.m 5 [] [0, 1, 2, 3, 4, 5] []] [] [(5, false, [], [0, 1, 2, 3, 4, 5])] ⟨?_, trivial⟩
        · refine obM { N := 94, np := 1, nx := 5, sl := [(3, .pl (.one (.ref 1 []))), (4, .pl (.one (.v (.sc (.int .i64 x17.2.1))))), (6, .pl (.one (.ref 2 []))), (7, .pl (.one (.ref 3 []))), (8, .pl (.one (.v (.sc (.int .i64 x28.2))))), (31, .pl (.agg [.ref 1 [(0, 0, 0)], .ref 1 [(0, 0, 1)]])), (35, .pl (.one (.ref 4 [])))], ob := [(1, .box true [.list true 1 (List.map (rL true 1 (rK .i64)) x17.1.Parents), .list true 4 (List.map (r_T_impl_Body true) x17.1.Bodies)]), (2, .list true 1 (List.map rS x24)), (3, .list true 1 (List.map rS x28.1)), (4, .list true 1 (List.map (rK .i64) x35))] } ?_
          refine callG H' (fun _ => []) (W_impl_LiveIn _ _ _ hy_x36) ?_
          refine opsV_nil ⟨rfl, .inl ⟨rfl, ?_⟩⟩
          exact anyFShd [3, 4, 6, 7, 8, 36] [(1, 1), (2, 2), (3, 3), (5, 4)] 5 d6_0_0_1'
      have d6_0_0_3' : anyF X ?ops6_0_0 [0, 1, 2, 3] [] ?P6_0_0 { N := 94, np := 1, nx := 4, sl := [(3, .pl (.one (.ref 1 []))), (4, .pl (.one (.v (.sc (.int .i64 x17.2.1))))), (6, .pl (.one (.ref 2 []))), (7, .pl (.one (.ref 3 []))), (8, .pl (.one (.v (.sc (.int .i64 x28.2))))), (31, .pl (.agg [.ref 1 [(0, 0, 0)], .ref 1 [(0, 0, 1)]])), (33, .pl (.one (.ref 1 [(0, 0, 0)]))), (34, .pl (.one (.v (.sc (.int .i64 x17.2.1)))))], ob := [(1, .box true [.list true 1 (List.map (rL true 1 (rK .i64)) x17.1.Parents), .list true 4 (List.map (r_T_impl_Body true) x17.1.Bodies)]), (2, .list true 1 (List.map rS x24)), (3, .list true 1 (List.map rS x28.1))] } := by
        refine fnode [] [.m 4 [] [0, 1, 2, 3, 4] []] [] [(4, false, [], [0, 1, 2, 3, 4])] ⟨?_, trivial⟩
        · refine obM { N := 94, np := 1, nx := 4, sl := [(3, .pl (.one (.ref 1 []))), (4, .pl (.one (.v (.sc (.int .i64 x17.2.1))))), (6, .pl (.one (.ref 2 []))), (7, .pl (.one (.ref 3 []))), (8, .pl (.one (.v (.sc (.int .i64 x28.2))))), (31, .pl (.agg [.ref 1 [(0, 0, 0)], .ref 1 [(0, 0, 1)]])), (33, .pl (.one (.ref 1 [(0, 0, 0)]))), (34, .pl (.one (.v (.sc (.int .i64 x17.2.1)))))], ob := [(1, .box true [.list true 1 (List.map (rL true 1 (rK .i64)) x17.1.Parents), .list true 4 (List.map (r_T_impl_Body true) x17.1.Bodies)]), (2, .list true 1 (List.map rS x24)), (3, .list true 1 (List.map rS x28.1))] } ?_
          refine callG H' (fun _ => []) (W_impl_ClosureOf _ _ _ hy_x35) ?_
          refine opsV_nil ⟨rfl, .inl ⟨rfl, ?_⟩⟩
          exact anyFShd [3, 4, 6, 7, 8, 31, 35] [(1, 1), (2, 2), (3, 3), (4, 4)] 5 d6_0_0_2'
      have d6_0_0_4' : anyF X ?ops6_0_0 [0, 1, 3] [] ?P6_0_0 { N := 94, np := 1, nx := 4, sl := [(3, .pl (.one (.ref 1 []))), (4, .pl (.one (.v (.sc (.int .i64 x17.2.1))))), (6, .pl (.one (.ref 2 []))), (7, .pl (.one (.ref 3 []))), (8, .pl (.one (.v (.sc (.int .i64 x28.2))))), (31, .pl (.agg [.ref 1 [(0, 0, 0)], .ref 1 [(0, 0, 1)]])), (32, .pl (.one (.addr 1 [] 0 0 0))), (34, .pl (.one (.v (.sc (.int .i64 x17.2.1)))))], ob := [(1, .box true [.list true 1 (List.map (rL true 1 (rK .i64)) x17.1.Parents), .list true 4 (List.map (r_T_impl_Body true) x17.1.Bodies)]), (2, .list true 1 (List.map rS x24)), (3, .list true 1 (List.map rS x28.1))] } := by
        refine fnode [] [.m 2 [] [0, 1, 2, 3] []] [] [(2, false, [], [0, 1, 2, 3])] ⟨?_, trivial⟩
        · refine obM { N := 94, np := 1, nx := 4, sl := [(3, .pl (.one (.ref 1 []))), (4, .pl (.one (.v (.sc (.int .i64 x17.2.1))))), (6, .pl (.one (.ref 2 []))), (7, .pl (.one (.ref 3 []))), (8, .pl (.one (.v (.sc (.int .i64 x28.2))))), (31, .pl (.agg [.ref 1 [(0, 0, 0)], .ref 1 [(0, 0, 1)]])), (32, .pl (.one (.addr 1 [] 0 0 0))), (34, .pl (.one (.v (.sc (.int .i64 x17.2.1)))))], ob := [(1, .box true [.list true 1 (List.map (rL true 1 (rK .i64)) x17.1.Parents), .list true 4 (List.map (r_T_impl_Body true) x17.1.Bodies)]), (2, .list true 1 (List.map rS x24)), (3, .list true 1 (List.map rS x28.1))] } ?_
          refine ops H' ?_
          refine opsV_nil ⟨rfl, .inl ⟨rfl, ?_⟩⟩
          exact anyFShd [3, 4, 6, 7, 8, 31, 33, 34] [(1, 1), (2, 2), (3, 3)] 4 d6_0_0_3'
      have d6_0_0_5' : anyF X ?ops6_0_0 [1, 2, 3, 4] [] ?P6_0_0 { N := 94, np := 1, nx := 5, sl := [(3, .pl (.one (.ref 1 []))), (4, .pl (.one (.v (.sc (.int .i64 x17.2.1))))), (6, .pl (.one (.ref 2 []))), (7, .pl (.one (.ref 3 []))), (8, .pl (.one (.v (.sc (.int .i64 x28.2))))), (35, .pl (.one (.ref 4 [])))], ob := [(1, .box true [.list true 1 (List.map (rL true 1 (rK .i64)) x17.1.Parents), .list true 4 (List.map (r_T_impl_Body true) x17.1.Bodies)]), (2, .list true 1 (List.map rS x24)), (3, .list true 1 (List.map rS x28.1)), (4, .list true 1 (List.map (rK .i64) x35))] } := by
        refine fnode [] [.m 0 [] [0, 1, 2, 3, 4] []] [] [(0, false, [], [0, 1, 2, 3, 4])] ⟨?_, trivial⟩
        · refine obM { N := 94, np := 1, nx := 5, sl := [(3, .pl (.one (.ref 1 []))), (4, .pl (.one (.v (.sc (.int .i64 x17.2.1))))), (6, .pl (.one (.ref 2 []))), (7, .pl (.one (.ref 3 []))), (8, .pl (.one (.v (.sc (.int .i64 x28.2))))), (35, .pl (.one (.ref 4 [])))], ob := [(1, .box true [.list true 1 (List.map (rL true 1 (rK .i64)) x17.1.Parents), .list true 4 (List.map (r_T_impl_Body true) x17.1.Bodies)]), (2, .list true 1 (List.map rS x24)), (3, .list true 1 (List.map rS x28.1)), (4, .list true 1 (List.map (rK .i64) x35))] } ?_
          refine ops H' ?_
          refine opsV_nil ⟨rfl, .inl ⟨rfl, ?_⟩⟩
          exact anyFShd [3, 4, 6, 7, 8, 31, 35] [(1, 1), (2, 2), (3, 3), (4, 4)] 5 d6_0_0_2'
      have d6_0_0_6' : anyF X ?ops6_0_0 [1, 2, 3] [] ?P6_0_0 { N := 94, np := 1, nx := 4, sl := [(3, .pl (.one (.ref 1 []))), (4, .pl (.one (.v (.sc (.int .i64 x17.2.1))))), (6, .pl (.one (.ref 2 []))), (7, .pl (.one (.ref 3 []))), (8, .pl (.one (.v (.sc (.int .i64 x28.2))))), (33, .pl (.one (.ref 1 [(0, 0, 0)]))), (34, .pl (.one (.v (.sc (.int .i64 x17.2.1)))))], ob := [(1, .box true [.list true 1 (List.map (rL true 1 (rK .i64)) x17.1.Parents), .list true 4 (List.map (r_T_impl_Body true) x17.1.Bodies)]), (2, .list true 1 (List.map rS x24)), (3, .list true 1 (List.map rS x28.1))] } := by
        refine fnode [] [.m 0 [] [0, 1, 2, 3] [], .m 4 [] [1, 2, 3, 4] []] [] [(0, false, [], [0, 1, 2, 3]), (4, false, [], [1, 2, 3, 4])] ⟨?_, ?_, trivial⟩
        · refine obM { N := 94, np := 1, nx := 4, sl := [(3, .pl (.one (.ref 1 []))), (4, .pl (.one (.v (.sc (.int .i64 x17.2.1))))), (6, .pl (.one (.ref 2 []))), (7, .pl (.one (.ref 3 []))), (8, .pl (.one (.v (.sc (.int .i64 x28.2))))), (33, .pl (.one (.ref 1 [(0, 0, 0)]))), (34, .pl (.one (.v (.sc (.int .i64 x17.2.1)))))], ob := [(1, .box true [.list true 1 (List.map (rL true 1 (rK .i64)) x17.1.Parents), .list true 4 (List.map (r_T_impl_Body true) x17.1.Bodies)]), (2, .list true 1 (List.map rS x24)), (3, .list true 1 (List.map rS x28.1))] } ?_
          refine ops H' ?_
          refine opsV_nil ⟨rfl, .inl ⟨rfl, ?_⟩⟩
          exact anyFShd [3, 4, 6, 7, 8, 31, 33, 34] [(1, 1), (2, 2), (3, 3)] 4 d6_0_0_3'
        · refine obM { N := 94, np := 1, nx := 4, sl := [(3, .pl (.one (.ref 1 []))), (4, .pl (.one (.v (.sc (.int .i64 x17.2.1))))), (6, .pl (.one (.ref 2 []))), (7, .pl (.one (.ref 3 []))), (8, .pl (.one (.v (.sc (.int .i64 x28.2))))), (33, .pl (.one (.ref 1 [(0, 0, 0)]))), (34, .pl (.one (.v (.sc (.int .i64 x17.2.1)))))], ob := [(1, .box true [.list true 1 (List.map (rL true 1 (rK .i64)) x17.1.Parents), .list true 4 (List.map (r_T_impl_Body true) x17.1.Bodies)]), (2, .list true 1 (List.map rS x24)), (3, .list true 1 (List.map rS x28.1))] } ?_
          refine callG H' (fun _ => []) (W_impl_ClosureOf _ _ _ hy_x35) ?_
          refine opsV_nil ⟨rfl, .inl ⟨rfl, ?_⟩⟩
          exact anyFShd [3, 4, 6, 7, 8, 35] [(1, 1), (2, 2), (3, 3), (4, 4)] 5 d6_0_0_5'
      have d6_0_0_7' : anyF X ?ops6_0_0 [1, 3] [] ?P6_0_0 { N := 94, np := 1, nx := 4, sl := [(3, .pl (.one (.ref 1 []))), (4, .pl (.one (.v (.sc (.int .i64 x17.2.1))))), (6, .pl (.one (.ref 2 []))), (7, .pl (.one (.ref 3 []))), (8, .pl (.one (.v (.sc (.int .i64 x28.2))))), (32, .pl (.one (.addr 1 [] 0 0 0))), (34, .pl (.one (.v (.sc (.int .i64 x17.2.1)))))], ob := [(1, .box true [.list true 1 (List.map (rL true 1 (rK .i64)) x17.1.Parents), .list true 4 (List.map (r_T_impl_Body true) x17.1.Bodies)]), (2, .list true 1 (List.map rS x24)), (3, .list true 1 (List.map rS x28.1))] } := by
        refine fnode [] [.m 0 [] [0, 1, 3] [], .m 2 [] [1, 2, 3] []] [] [(0, false, [], [0, 1, 3]), (2, false, [], [1, 2, 3])] ⟨?_, ?_, trivial⟩
        · refine obM { N := 94, np := 1, nx := 4, sl := [(3, .pl (.one (.ref 1 []))), (4, .pl (.one (.v (.sc (.int .i64 x17.2.1))))), (6, .pl (.one (.ref 2 []))), (7, .pl (.one (.ref 3 []))), (8, .pl (.one (.v (.sc (.int .i64 x28.2))))), (32, .pl (.one (.addr 1 [] 0 0 0))), (34, .pl (.one (.v (.sc (.int .i64 x17.2.1)))))], ob := [(1, .box true [.list true 1 (List.map (rL true 1 (rK .i64)) x17.1.Parents), .list true 4 (List.map (r_T_impl_Body true) x17.1.Bodies)]), (2, .list true 1 (List.map rS x24)), (3, .list true 1 (List.map rS x28.1))] } ?_
          refine ops H' ?_
          refine opsV_nil ⟨rfl, .inl ⟨rfl, ?_⟩⟩
          exact anyFShd [3, 4, 6, 7, 8, 31, 32, 34] [(1, 1), (2, 2), (3, 3)] 4 d6_0_0_4'
        · refine obM { N := 94, np := 1, nx := 4, sl := [(3, .pl (.one (.ref 1 []))), (4, .pl (.one (.v (.sc (.int .i64 x17.2.1))))), (6, .pl (.one (.ref 2 []))), (7, .pl (.one (.ref 3 []))), (8, .pl (.one (.v (.sc (.int .i64 x28.2))))), (32, .pl (.one (.addr 1 [] 0 0 0))), (34, .pl (.one (.v (.sc (.int .i64 x17.2.1)))))], ob := [(1, .box true [.list true 1 (List.map (rL true 1 (rK .i64)) x17.1.Parents), .list true 4 (List.map (r_T_impl_Body true) x17.1.Bodies)]), (2, .list true 1 (List.map rS x24)), (3, .list true 1 (List.map rS x28.1))] } ?_
          refine ops H' ?_
          refine opsV_nil ⟨rfl, .inl ⟨rfl, ?_⟩⟩
          exact anyFShd [3, 4, 6, 7, 8, 33, 34] [(1, 1), (2, 2), (3, 3)] 4 d6_0_0_6'
      refine fpure H' 1 [1] [] ?_
      refine fpure H' 3 [1, 3] [] ?_
      exact anyFShd [3, 4, 6, 7, 8, 32, 34] [(6, 1), (8, 2), (9, 3)] 4 d6_0_0_7'
    · rintro e' rfl
      refine contN ?_
      refine wpV_seq1 ?_
      refine wpV_region ?_
      refine ops H' ?_
      obtain ⟨x40, hy', h0'⟩ := Option.bind_eq_some_iff.1 h0'
      refine callG H' (fun _ => []) (W_spec_Extract _ _ _ hy') ?_
      refine ops H' ?_
      refine opsN ?_
      refine wpV_seq1 ?_
      refine wpV_seq1 ?_
      refine wpV_region ?_
      refine ops H' ?_
      obtain ⟨b, gh0', h0'⟩ := Option.bind_eq_some_iff.1 h0'
      refine opsV_cut 5 (fun e' => e' = { N := 94, np := 1, nx := 5, sl := [(3, .pl (.one (.ref 1 []))), (6, .pl (.one (.ref 2 []))), (7, .pl (.one (.ref 3 []))), (9, .pl (.one (.ref 4 []))), (50, .pl (.one (.v (.sc (.bool b)))))], ob := [(1, .box true [.list true 1 (List.map (rL true 1 (rK .i64)) x17.1.Parents), .list true 4 (List.map (r_T_impl_Body true) x17.1.Bodies)]), (2, .list true 1 (List.map rS x24)), (3, .list true 1 (List.map rS x28.1)), (4, .list true 1 (List.map (rK .i64) x36))] }) ?_ ?_
      · simp only [List.take_succ_cons, List.take_zero]
        refine opsV_sp (fun hc' => ?_) (fun hc' => ?_)
        · replace gh0' := (ifF hc').symm.trans gh0'
          refine ops H' ?_
          obtain ⟨x48, hy', gh0'⟩ := Option.bind_eq_some_iff.1 gh0'
          refine callG H' (fun _ => []) (W_laws_sameTexts _ _ _ hy') ?_
          refine ops H' ?_
          obtain rfl := Option.some.inj gh0'
          refine opsV_nil ?_
          exact ⟨rfl, shd [3, 6, 7, 9, 50] [(1, 1), (2, 2), (3, 3), (4, 4)] 5 rfl⟩
        · replace gh0' := (ifT hc').symm.trans gh0'
          refine ops H' ?_
          obtain rfl := Option.some.inj gh0'
          refine opsV_nil ?_
          exact ⟨rfl, shd [3, 6, 7, 9, 50] [(1, 1), (2, 2), (3, 3), (4, 4)] 5 rfl⟩
      · rintro e' rfl
        simp only [List.drop_succ_cons, List.drop_zero]
        refine ops H' ?_
        obtain ⟨b_1, gh0', h0'⟩ := Option.bind_eq_some_iff.1 h0'
        refine opsV_cut 5 (fun e' => e' = { N := 94, np := 1, nx := 4, sl := [(3, .pl (.one (.ref 1 []))), (7, .pl (.one (.ref 2 []))), (9, .pl (.one (.ref 3 []))), (56, .pl (.one (.v (.sc (.bool b_1)))))], ob := [(1, .box true [.list true 1 (List.map (rL true 1 (rK .i64)) x17.1.Parents), .list true 4 (List.map (r_T_impl_Body true) x17.1.Bodies)]), (2, .list true 1 (List.map rS x28.1)), (3, .list true 1 (List.map (rK .i64) x36))] }) ?_ ?_
        · simp only [List.take_succ_cons, List.take_zero]
          refine opsV_sp (fun hc' => ?_) (fun hc' => ?_)
          · replace gh0' := (ifF hc').symm.trans gh0'
            refine ops H' ?_
            obtain ⟨x54, hy', gh0'⟩ := Option.bind_eq_some_iff.1 gh0'
            refine callG H' (fun _ => []) (W_laws_sameTexts _ _ _ hy') ?_
            refine ops H' ?_
            obtain rfl := Option.some.inj gh0'
            refine opsV_nil ?_
            exact ⟨rfl, shd [3, 7, 9, 56] [(1, 1), (3, 2), (4, 3)] 4 rfl⟩
          · replace gh0' := (ifT hc').symm.trans gh0'
            refine ops H' ?_
            obtain rfl := Option.some.inj gh0'
            refine opsV_nil ?_
            exact ⟨rfl, shd [3, 7, 9, 56] [(1, 1), (3, 2), (4, 3)] 4 rfl⟩
        · rintro e' rfl
          simp only [List.drop_succ_cons, List.drop_zero]
          refine ops H' ?_
          obtain ⟨b_2, gh0', h0'⟩ := Option.bind_eq_some_iff.1 h0'
          refine opsV_cut 6 (fun e' => e' = { N := 94, np := 1, nx := 4, sl := [(3, .pl (.one (.ref 1 []))), (7, .pl (.one (.ref 2 []))), (9, .pl (.one (.ref 3 []))), (63, .pl (.one (.v (.sc (.bool b_2)))))], ob := [(1, .box true [.list true 1 (List.map (rL true 1 (rK .i64)) x17.1.Parents), .list true 4 (List.map (r_T_impl_Body true) x17.1.Bodies)]), (2, .list true 1 (List.map rS x28.1)), (3, .list true 1 (List.map (rK .i64) x36))] }) ?_ ?_
          · simp only [List.take_succ_cons, List.take_zero]
            refine opsV_sp (fun hc' => ?_) (fun hc' => ?_)
            · replace gh0' := (ifF hc').symm.trans gh0'
              refine ops H' ?_
              obtain rfl := Option.some.inj gh0'
              refine opsV_nil ?_
              exact ⟨rfl, shd [3, 7, 9, 63] [(1, 1), (2, 2), (3, 3)] 4 rfl⟩
            · replace gh0' := (ifT hc').symm.trans gh0'
              refine ops H' ?_
              obtain rfl := Option.some.inj gh0'
              refine opsV_nil ?_
              exact ⟨rfl, shd [3, 7, 9, 63] [(1, 1), (2, 2), (3, 3)] 4 rfl⟩
          · rintro e' rfl
            simp only [List.drop_succ_cons, List.drop_zero]
            refine opsN ?_
            refine wpV_split (fun hc' => ?_) (fun hc' => ?_)
            · replace h0' := (ifT hc').symm.trans h0'
              refine wpV_seq1 ?_
              refine wpV_region ?_
              refine ops H' ?_
              refine opsN ?_
              refine retN ?_
              obtain rfl := Option.some.inj h0'
              exact outG H' rfl rfl
            · replace h0' := (ifF hc').symm.trans h0'
              refine skipN ?_
              refine wpV_seqJ (fun e' => laws_FnSees_j1 = some r' ∧ e' = { N := 94, np := 1, nx := 1, sl := [], ob := [] }) ?_ ?_
              · refine wpV_seq1 ?_
                refine wpV_region ?_
                refine ops H' ?_
                refine opsN ?_
                obtain ⟨p, hl', h0'⟩ := Option.bind_eq_some_iff.1 h0'
                refine wpV_block ?_
                refine wpV_loopM (fun i e' => e' = { N := 94, np := 1, nx := 4, sl := [(3, .pl (.one (.ref 1 []))), (7, .pl (.one (.ref 2 []))), (9, .pl (.one (.ref 3 []))), (12, .pl (.one (.v (.sc (.int .i64 i)))))], ob := [(1, .box true [.list true 1 (List.map (rL true 1 (rK .i64)) x17.1.Parents), .list true 4 (List.map (r_T_impl_Body true) x17.1.Bodies)]), (2, .list true 1 (List.map rS x28.1)), (3, .list true 1 (List.map (rK .i64) x36))] }) hl' (shd [3, 7, 9, 12] [(1, 1), (2, 2), (3, 3)] 4 rfl) ?_
                rintro i y1' e' h1' rfl
                replace h1' : laws_FnSees_l1 x17 x28 x36 i = some y1' := h1'
                unfold laws_FnSees_l1 at h1'
                refine wpV_seq1 ?_
                refine wpV_seq1 ?_
                refine wpV_region ?_
                refine ops H' ?_
                refine opsN ?_
                refine wpV_split (fun hc' => ?_) (fun hc' => ?_)
                · replace h1' := (ifT hc').symm.trans h1'
                  refine skipN ?_
                  refine wpV_seq1 ?_
                  refine wpV_block ?_
                  refine wpV_seq1 ?_
                  refine regQ ?_
                  obtain ⟨x, hv', h1'⟩ := Option.bind_eq_some_iff.1 h1'
                  have H' := And.intro (geti_f hv') H'
                  refine ops H' ?_
                  obtain ⟨b_3, gh1', h1'⟩ := Option.bind_eq_some_iff.1 h1'
                  refine quV_cut 15 (fun e' => e' = { N := 94, np := 1, nx := 4, sl := [(3, .pl (.one (.ref 1 []))), (7, .pl (.one (.ref 2 []))), (9, .pl (.one (.ref 3 []))), (12, .pl (.one (.v (.sc (.int .i64 i))))), (93, .pl (.one (.v (.sc (.bool b_3)))))], ob := [(1, .box true [.list true 1 (List.map (rL true 1 (rK .i64)) x17.1.Parents), .list true 4 (List.map (r_T_impl_Body true) x17.1.Bodies)]), (2, .list true 1 (List.map rS x28.1)), (3, .list true 1 (List.map (rK .i64) x36))] }) ?_ ?_
                  · simp only [List.take_succ_cons, List.take_zero]
                    refine quV_sp (fun hc' => ?_) (fun hc' => ?_)
                    · replace gh1' := (ifF hc').symm.trans gh1'
                      obtain ⟨x_1, hv', gh1'⟩ := Option.bind_eq_some_iff.1 gh1'
                      have H' := And.intro (geti_f hv') H'
                      obtain ⟨x_2, hv', gh1'⟩ := Option.bind_eq_some_iff.1 gh1'
                      have H' := And.intro (geti_f hv') H'
                      refine ops H' ?_
                      obtain rfl := Option.some.inj gh1'
                      refine quV_nil ?_
                      exact ⟨rfl, shd [3, 7, 9, 12, 93] [(1, 1), (2, 2), (3, 3)] 4 rfl⟩
                    · replace gh1' := (ifT hc').symm.trans gh1'
                      refine ops H' ?_
                      obtain rfl := Option.some.inj gh1'
                      refine quV_nil ?_
                      exact ⟨rfl, shd [3, 7, 9, 12, 93] [(1, 1), (2, 2), (3, 3)] 4 rfl⟩
                  · rintro e' rfl
                    simp only [List.drop_succ_cons, List.drop_zero]
                    refine quN ?_
                    refine wpV_split (fun hc' => ?_) (fun hc' => ?_)
                    · replace h1' := (ifT hc').symm.trans h1'
                      refine wpV_seq1 ?_
                      refine wpV_region ?_
                      refine ops H' ?_
                      refine opsN ?_
                      refine retN ?_
                      obtain rfl := Option.some.inj h1'
                      refine ⟨_, rfl, fun hr' => ?_⟩
                      subst hr'
                      obtain rfl := Option.some.inj h0'
                      exact outG H' rfl rfl
                    · replace h1' := (ifF hc').symm.trans h1'
                      refine skipN ?_
                      refine wpV_region ?_
                      refine ops H' ?_
                      refine opsN ?_
                      obtain rfl := Option.some.inj h1'
                      exact shd [3, 7, 9, 12] [(1, 1), (2, 2), (3, 3)] 4 ⟨_, rfl, rfl⟩
                · replace h1' := (ifF hc').symm.trans h1'
                  refine exitN ?_
                  obtain rfl := Option.some.inj h1'
                  refine ⟨_, rfl, fun hr' => ?_⟩
                  subst hr'
                  exact shd [] [] 1 ⟨h0', rfl⟩
              · rintro e' ⟨h0', rfl⟩
                unfold laws_FnSees_j1 at h0'
                refine wpV_seq1 ?_
                refine wpV_region ?_
                refine ops H' ?_
                refine opsN ?_
                refine retN ?_
                obtain rfl := Option.some.inj h0'
                exact outG H' rfl rfl
end Go.TV.KFnSees
