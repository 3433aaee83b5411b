/- Walks. -/
import Derived.Test.YthfhiepgdeghpaaKFnPicksE
import Derived.Test.YthfhiepgdeghpaaKFnPicksW0
import Derived.Test.YthfhiepgdeghpaaKFnPicksW3
set_option linter.unusedVariables false
set_option linter.unusedSimpArgs false
set_option maxHeartbeats 8000000
set_option maxRecDepth 100000
namespace Go.TV.KFnPicks
attribute [local irreducible] anyV wpV opsV Does thenV blockV RetL quV seqV
open Go.Proofs.Try Go.TV.F
theorem W_spec_WeaveOk (w : T_impl_Weave) (r' : Bool) (h0' : spec_WeaveOk w = some r') : Fn X 101 [.agg [.list false 1 (List.map (rL false 1 (rK .i64)) w.Parents), .list false 4 (List.map (r_T_impl_Body false) w.Bodies)]] [.one (.sc (.bool r'))] [] := by
  have H' := And.intro t3 (And.intro t9 (And.intro t38 (And.intro t39 (And.intro t41 (And.intro t44 (And.intro t50 (And.intro t154 (And.intro t202 (And.intro R_Lb (And.intro R_Li64 (And.intro R_T_impl_Body (And.intro R_b (R_i64)))))))))))))
  unfold spec_WeaveOk at h0'
  refine Fn.start (fn := f101) (N := 131) (res := [.tmp 2]) rfl rfl rfl rfl rfl (by simp) ?_
  refine enterG H' ?_
  refine wpV_seq1 ?_
  refine wpV_region ?_
  refine ops H' ?_
  refine opsN ?_
  refine wpV_seq1 ?_
  refine wpV_seq1 ?_
  refine wpV_region ?_
  refine ops H' ?_
  obtain ⟨x13, hy', h0'⟩ := Option.bind_eq_some_iff.1 h0'
  refine callG H' (fun _ => []) (W_spec_GraphOk _ _ hy') ?_
  refine ops H' ?_
  obtain ⟨b, gh0', h0'⟩ := Option.bind_eq_some_iff.1 h0'
  refine opsV_cut 5 (fun e' => e' = { N := 131, np := 2, nx := 3, sl := [(1, .pl (.one (.ref 2 []))), (20, .pl (.one (.v (.sc (.bool b)))))], ob := [(2, .box true [.list false 1 (List.map (rL false 1 (rK .i64)) w.Parents), .list false 4 (List.map (r_T_impl_Body false) w.Bodies)])] }) ?_ ?_
  · simp only [List.take_succ_cons, List.take_zero]
    refine opsV_sp (fun hc' => ?_) (fun hc' => ?_)
    · replace gh0' := (ifF hc').symm.trans gh0'
      refine ops H' ?_
      obtain rfl := Option.some.inj gh0'
      refine opsV_nil ?_
      exact ⟨rfl, shd [1, 20] [(2, 2)] 3 rfl⟩
    · replace gh0' := (ifT hc').symm.trans gh0'
      refine ops H' ?_
      obtain rfl := Option.some.inj gh0'
      refine opsV_nil ?_
      exact ⟨rfl, shd [1, 20] [(2, 2)] 3 rfl⟩
  · rintro e' rfl
    simp only [List.drop_succ_cons, List.drop_zero]
    refine opsN ?_
    refine wpV_split (fun hc' => ?_) (fun hc' => ?_)
    · replace h0' := (ifT hc').symm.trans h0'
      refine wpV_seq1 ?_
      refine wpV_region ?_
      refine ops H' ?_
      refine opsN ?_
      refine retN ?_
      obtain rfl := Option.some.inj h0'
      exact outG H' rfl rfl
    · replace h0' := (ifF hc').symm.trans h0'
      refine skipN ?_
      refine wpV_seq1 ?_
      refine wpV_region ?_
      refine ops H' ?_
      refine opsN ?_
      refine wpV_seq1 ?_
      refine wpV_region ?_
      obtain ⟨x25, hv', h0'⟩ := Option.bind_eq_some_iff.1 h0'
      have H' := And.intro (mkl_f hv') H'
      refine ops H' ?_
      refine opsN ?_
      refine wpV_seq1 ?_
      refine wpV_region ?_
      refine ops H' ?_
      refine opsN ?_
      refine wpV_seqJ (fun e' => ∃ proper, spec_WeaveOk_j1 w x25 proper = some r' ∧ e' = { N := 131, np := 2, nx := 5, sl := [(1, .pl (.one (.ref 2 []))), (3, .pl (.one (.v (.sc (.int .i64 (w.Parents.length : Int)))))), (4, .pl (.one (.ref 3 []))), (5, .pl (.one (.ref 4 [])))], ob := [(2, .box true [.list false 1 (List.map (rL false 1 (rK .i64)) w.Parents), .list false 4 (List.map (r_T_impl_Body false) w.Bodies)]), (3, .list true 1 (List.map (rK .i64) x25)), (4, .list true 1 (List.map (rL true 1 rB) proper))] }) ?_ ?_
      · refine wpV_seq1 ?_
        refine wpV_region ?_
        refine ops H' ?_
        refine opsN ?_
        obtain ⟨p_3, hl', h0'⟩ := Option.bind_eq_some_iff.1 h0'
        refine wpV_block ?_
        refine wpV_loopM (fun s' e' => ∃ v_1 proper_1, s' = (v_1, proper_1) ∧ e' = { N := 131, np := 2, nx := 5, sl := [(1, .pl (.one (.ref 2 []))), (3, .pl (.one (.v (.sc (.int .i64 (w.Parents.length : Int)))))), (4, .pl (.one (.ref 3 []))), (5, .pl (.one (.ref 4 []))), (6, .pl (.one (.v (.sc (.int .i64 v_1)))))], ob := [(2, .box true [.list false 1 (List.map (rL false 1 (rK .i64)) w.Parents), .list false 4 (List.map (r_T_impl_Body false) w.Bodies)]), (3, .list true 1 (List.map (rK .i64) x25)), (4, .list true 1 (List.map (rL true 1 rB) proper_1))] }) hl' (shd [1, 3, 4, 5, 6] [(2, 2), (3, 3), (4, 4)] 5 ⟨_, _, rfl, rfl⟩) ?_
        rintro s' y1' e' h1' ⟨v_1, proper_1, rfl, rfl⟩
        replace h1' : spec_WeaveOk_l4 w v_1 proper_1 = some y1' := h1'
        unfold spec_WeaveOk_l4 at h1'
        refine wpV_seq1 ?_
        refine wpV_seq1 ?_
        refine wpV_region ?_
        refine ops H' ?_
        refine opsN ?_
        refine wpV_split (fun hc' => ?_) (fun hc' => ?_)
        · replace h1' := (ifT hc').symm.trans h1'
          refine skipN ?_
          refine wpV_seq1 ?_
          refine wpV_block ?_
          obtain ⟨x_6, hv', h1'⟩ := Option.bind_eq_some_iff.1 h1'
          have H' := And.intro (geti_f hv') H'
          obtain ⟨x40, hy_x40, h1'⟩ := Option.bind_eq_some_iff.1 h1'
          obtain ⟨l, hv', h1'⟩ := Option.bind_eq_some_iff.1 h1'
          have H' := And.intro (app1_f hv') H'
          refine wpV_J (fun e' => e' = { N := 131, np := 2, nx := 5, sl := [(1, .pl (.one (.ref 2 []))), (3, .pl (.one (.v (.sc (.int .i64 (w.Parents.length : Int)))))), (4, .pl (.one (.ref 3 []))), (5, .pl (.one (.ref 4 []))), (6, .pl (.one (.v (.sc (.int .i64 v_1)))))], ob := [(2, .box true [.list false 1 (List.map (rL false 1 (rK .i64)) w.Parents), .list false 4 (List.map (r_T_impl_Body false) w.Bodies)]), (3, .list true 1 (List.map (rK .i64) x25)), (4, .list true 1 (List.map (rL true 1 rB) l))] }) ?_ ?_
          · refine regAnyF [(2, 34, .pl (.one (.v (.list false 1 (List.map (rL false 1 (rK .i64)) w.Parents))))), (4, 36, .pl (.one (.v (.list false 1 (List.map (rL false 1 (rK .i64)) w.Parents))))), (6, 38, .pl (.one (.ba [.list false 1 (List.map (rK .i64) x_6)]))), (7, 39, .pl (.one (.v (.list false 1 (List.map (rK .i64) x_6)))))] ?_
            refine (?_ : anyF X ?ops9_2_0 _ _ ?P9_2_0 _)
            have d9_2_0_0' : anyF X ?ops9_2_0 [0, 1, 2, 3, 4, 5, 6, 7, 8, 9, 10, 11] [] ?P9_2_0 { N := 131, np := 2, nx := 5, sl := [(1, .pl (.one (.ref 2 []))), (3, .pl (.one (.v (.sc (.int .i64 (w.Parents.length : Int)))))), (4, .pl (.one (.ref 3 []))), (5, .pl (.one (.ref 4 []))), (6, .pl (.one (.v (.sc (.int .i64 v_1)))))], ob := [(2, .box true [.list false 1 (List.map (rL false 1 (rK .i64)) w.Parents), .list false 4 (List.map (r_T_impl_Body false) w.Bodies)]), (3, .list true 1 (List.map (rK .i64) x25)), (4, .list true 1 (List.map (rL true 1 rB) l))] } := by
              refine fend (e2 := { N := 131, np := 2, nx := 5, sl := [(1, .pl (.one (.ref 2 []))), (3, .pl (.one (.v (.sc (.int .i64 (w.Parents.length : Int)))))), (4, .pl (.one (.ref 3 []))), (5, .pl (.one (.ref 4 []))), (6, .pl (.one (.v (.sc (.int .i64 v_1)))))], ob := [(2, .box true [.list false 1 (List.map (rL false 1 (rK .i64)) w.Parents), .list false 4 (List.map (r_T_impl_Body false) w.Bodies)]), (3, .list true 1 (List.map (rK .i64) x25)), (4, .list true 1 (List.map (rL true 1 rB) l))] }) [] [] [] [] trivial ⟨rfl, shd [1, 3, 4, 5, 6] [(2, 2), (3, 3), (4, 4)] 5 rfl⟩
            have d9_2_0_1' : anyF X ?ops9_2_0 [0, 1, 2, 3, 4, 5, 6, 7, 8, 9, 10] [] ?P9_2_0 { N := 131, np := 2, nx := 5, sl := [(1, .pl (.one (.ref 2 []))), (3, .pl (.one (.v (.sc (.int .i64 (w.Parents.length : Int)))))), (4, .pl (.one (.ref 3 []))), (6, .pl (.one (.v (.sc (.int .i64 v_1))))), (42, .pl (.one (.ref 4 [])))], ob := [(2, .box true [.list false 1 (List.map (rL false 1 (rK .i64)) w.Parents), .list false 4 (List.map (r_T_impl_Body false) w.Bodies)]), (3, .list true 1 (List.map (rK .i64) x25)), (4, .list true 1 (List.map (rL true 1 rB) l))] } := by
              refine fnode [] [.m 11 [] [0, 1, 2, 3, 4, 5, 6, 7, 8, 9, 10, 11] []] [] [(11, false, [], [0, 1, 2, 3, 4, 5, 6, 7, 8, 9, 10, 11])] ⟨?_, trivial⟩
              · refine obM ?_
                refine ops H' ?_
                refine opsV_nil ⟨rfl, .inl ⟨rfl, ?_⟩⟩
                exact anyFShd [1, 3, 4, 5, 6] [(2, 2), (3, 3), (4, 4)] 5 d9_2_0_0'
            have d9_2_0_2' : anyF X ?ops9_2_0 [0, 1, 2, 3, 4, 5, 6, 7, 8, 9] [] ?P9_2_0 { N := 131, np := 2, nx := 6, sl := [(1, .pl (.one (.ref 2 []))), (3, .pl (.one (.v (.sc (.int .i64 (w.Parents.length : Int)))))), (4, .pl (.one (.ref 3 []))), (6, .pl (.one (.v (.sc (.int .i64 v_1))))), (32, .pl (.one (.ref 4 []))), (41, .pl (.one (.ref 5 [])))], ob := [(2, .box true [.list false 1 (List.map (rL false 1 (rK .i64)) w.Parents), .list false 4 (List.map (r_T_impl_Body false) w.Bodies)]), (3, .list true 1 (List.map (rK .i64) x25)), (4, .list true 1 (List.map (rL true 1 rB) proper_1)), (5, .list true 1 (List.map (rL true 1 rB) [x40]))] } := by
              refine fnode [] [.m 10 [] [0, 1, 2, 3, 4, 5, 6, 7, 8, 9, 10] []] [] [(10, false, [], [0, 1, 2, 3, 4, 5, 6, 7, 8, 9, 10])] ⟨?_, trivial⟩
              · refine obM ?_
                refine ops H' ?_
                refine opsV_nil ⟨rfl, .inl ⟨rfl, ?_⟩⟩
                exact anyFShd [1, 3, 4, 6, 42] [(2, 2), (3, 3), (4, 4)] 5 d9_2_0_1'
            have d9_2_0_3' : anyF X ?ops9_2_0 [0, 1, 2, 3, 4, 5, 6, 7, 8] [] ?P9_2_0 { N := 131, np := 2, nx := 6, sl := [(1, .pl (.one (.ref 2 []))), (3, .pl (.one (.v (.sc (.int .i64 (w.Parents.length : Int)))))), (4, .pl (.one (.ref 3 []))), (6, .pl (.one (.v (.sc (.int .i64 v_1))))), (32, .pl (.one (.ref 4 []))), (40, .pl (.one (.ref 5 [])))], ob := [(2, .box true [.list false 1 (List.map (rL false 1 (rK .i64)) w.Parents), .list false 4 (List.map (r_T_impl_Body false) w.Bodies)]), (3, .list true 1 (List.map (rK .i64) x25)), (4, .list true 1 (List.map (rL true 1 rB) proper_1)), (5, .list true 1 (List.map rB x40))] } := by
              refine fnode [] [.m 9 [] [0, 1, 2, 3, 4, 5, 6, 7, 8, 9] []] [] [(9, false, [], [0, 1, 2, 3, 4, 5, 6, 7, 8, 9])] ⟨?_, trivial⟩
              · refine obM ?_
                refine ops H' ?_
                refine opsV_nil ⟨rfl, .inl ⟨rfl, ?_⟩⟩
                exact anyFShd [1, 3, 4, 6, 32, 41] [(2, 2), (3, 3), (4, 4), (6, 5)] 6 d9_2_0_2'
            have d9_2_0_4' : anyF X ?ops9_2_0 [0, 1, 3, 5] [(2, 34, .pl (.one (.v (.list false 1 (List.map (rL false 1 (rK .i64)) w.Parents))))), (4, 36, .pl (.one (.v (.list false 1 (List.map (rL false 1 (rK .i64)) w.Parents))))), (6, 38, .pl (.one (.ba [.list false 1 (List.map (rK .i64) x_6)]))), (7, 39, .pl (.one (.v (.list false 1 (List.map (rK .i64) x_6)))))] ?P9_2_0 { N := 131, np := 2, nx := 5, sl := [(1, .pl (.one (.ref 2 []))), (3, .pl (.one (.v (.sc (.int .i64 (w.Parents.length : Int)))))), (4, .pl (.one (.ref 3 []))), (6, .pl (.one (.v (.sc (.int .i64 v_1))))), (32, .pl (.one (.ref 4 []))), (33, .pl (.one (.addr 2 [] 0 0 0))), (35, .pl (.one (.addr 2 [] 0 0 0))), (37, .pl (.one (.v (.sc (.int .i64 v_1)))))], ob := [(2, .box true [.list false 1 (List.map (rL false 1 (rK .i64)) w.Parents), .list false 4 (List.map (r_T_impl_Body false) w.Bodies)]), (3, .list true 1 (List.map (rK .i64) x25)), (4, .list true 1 (List.map (rL true 1 rB) proper_1))] } := by
              refine fnode [2, 4, 6, 7] [.q 2 34 (.pl (.one (.v (.list false 1 (List.map (rL false 1 (rK .i64)) w.Parents))))) [], .q 4 36 (.pl (.one (.v (.list false 1 (List.map (rL false 1 (rK .i64)) w.Parents))))) [], .q 6 38 (.pl (.one (.ba [.list false 1 (List.map (rK .i64) x_6)]))) [4], .q 7 39 (.pl (.one (.v (.list false 1 (List.map (rK .i64) x_6))))) [6], .m 8 [2, 7, 6, 4] [0, 1, 2, 3, 4, 5, 6, 7, 8] []] [(2, 34), (4, 36), (6, 38), (7, 39)] [(2, true, [], []), (4, true, [], []), (6, true, [4], []), (7, true, [6], []), (8, false, [2, 7, 6, 4], [0, 1, 2, 3, 4, 5, 6, 7, 8])] ⟨?_, ?_, ?_, ?_, ?_, trivial⟩
              · refine obQ 0 ?_
                refine ops H' ?_
                refine opsV_nil ⟨rfl, shd [34, 1, 3, 4, 6, 32, 33, 35, 37] [(2, 2), (3, 3), (4, 4)] 5 rfl⟩
              · refine obQ 1 ?_
                refine ops H' ?_
                refine opsV_nil ⟨rfl, shd [36, 1, 3, 4, 6, 32, 33, 35, 37] [(2, 2), (3, 3), (4, 4)] 5 rfl⟩
              · refine obQ 2 ?_
                refine ops H' ?_
                refine opsV_nil ⟨rfl, shd [38, 1, 3, 4, 6, 32, 33, 35, 37] [(2, 2), (3, 3), (4, 4)] 5 rfl⟩
              · refine obQ 3 ?_
                refine ops H' ?_
                refine opsV_nil ⟨rfl, shd [39, 1, 3, 4, 6, 32, 33, 35, 37] [(2, 2), (3, 3), (4, 4)] 5 rfl⟩
              · refine obM ?_
                refine callG H' (fun _ => []) (W_spec_l05Set _ _ _ hy_x40) ?_
                refine opsV_nil ⟨rfl, .inl ⟨rfl, ?_⟩⟩
                exact anyFShd [1, 3, 4, 6, 32, 40] [(2, 2), (3, 3), (4, 4), (5, 5)] 6 d9_2_0_3'
            refine fpure H' 0 [0] [(2, 34), (4, 36), (6, 38), (7, 39)] ?_
            refine fpure H' 1 [0, 1] [(2, 34), (4, 36), (6, 38), (7, 39)] ?_
            refine fpure H' 3 [0, 1, 3] [(2, 34), (4, 36), (6, 38), (7, 39)] ?_
            refine fpure H' 5 [0, 1, 3, 5] [(2, 34), (4, 36), (6, 38), (7, 39)] ?_
            exact anyFShd [1, 3, 4, 6, 32, 33, 35, 37] [(2, 2), (3, 3), (4, 4)] 5 d9_2_0_4'
          · rintro e' rfl
            refine contN ?_
            refine wpV_region ?_
            refine ops H' ?_
            refine opsN ?_
            obtain rfl := Option.some.inj h1'
            exact shd [1, 3, 4, 5, 6] [(2, 2), (3, 3), (4, 4)] 5 ⟨_, rfl, _, _, rfl, rfl⟩
        · replace h1' := (ifF hc').symm.trans h1'
          refine exitN ?_
          obtain rfl := Option.some.inj h1'
          refine ⟨_, rfl, fun hr' => ?_⟩
          subst hr'
          exact shd [1, 3, 4, 5] [(2, 2), (3, 3), (4, 4)] 5 ⟨_, h0', rfl⟩
      · rintro e' ⟨proper, h0', rfl⟩
        unfold spec_WeaveOk_j1 at h0'
        refine wpV_seqJ (fun e' => ∃ born, spec_WeaveOk_j2 w born = some r' ∧ e' = { N := 131, np := 2, nx := 4, sl := [(1, .pl (.one (.ref 2 []))), (3, .pl (.one (.v (.sc (.int .i64 (w.Parents.length : Int)))))), (4, .pl (.one (.ref 3 [])))], ob := [(2, .box true [.list false 1 (List.map (rL false 1 (rK .i64)) w.Parents), .list false 4 (List.map (r_T_impl_Body false) w.Bodies)]), (3, .list true 1 (List.map (rK .i64) born))] }) ?_ ?_
        · refine wpV_seq1 ?_
          refine wpV_region ?_
          refine ops H' ?_
          refine opsN ?_
          obtain ⟨p_1, hl', h0'⟩ := Option.bind_eq_some_iff.1 h0'
          refine wpV_block ?_
          refine wpV_loopM (fun s' e' => ∃ i born_1, s' = (i, born_1) ∧ e' = { N := 131, np := 2, nx := 5, sl := [(1, .pl (.one (.ref 2 []))), (3, .pl (.one (.v (.sc (.int .i64 (w.Parents.length : Int)))))), (4, .pl (.one (.ref 3 []))), (5, .pl (.one (.ref 4 []))), (7, .pl (.one (.v (.sc (.int .i64 i)))))], ob := [(2, .box true [.list false 1 (List.map (rL false 1 (rK .i64)) w.Parents), .list false 4 (List.map (r_T_impl_Body false) w.Bodies)]), (3, .list true 1 (List.map (rK .i64) born_1)), (4, .list true 1 (List.map (rL true 1 rB) proper))] }) hl' (shd [1, 3, 4, 5, 7] [(2, 2), (3, 3), (4, 4)] 5 ⟨_, _, rfl, rfl⟩) ?_
          rintro s' y1' e' h1' ⟨i, born_1, rfl, rfl⟩
          replace h1' : spec_WeaveOk_l2 w proper i born_1 = some y1' := h1'
          unfold spec_WeaveOk_l2 at h1'
          refine wpV_seq1 ?_
          refine wpV_seq1 ?_
          refine wpV_region ?_
          refine ops H' ?_
          refine opsN ?_
          refine wpV_split (fun hc' => ?_) (fun hc' => ?_)
          · replace h1' := (ifT hc').symm.trans h1'
            refine skipN ?_
            refine wpV_seqJ (fun e' => ∃ born_2, spec_WeaveOk_j4 i born_2 = some y1' ∧ e' = { N := 131, np := 2, nx := 5, sl := [(1, .pl (.one (.ref 2 []))), (3, .pl (.one (.v (.sc (.int .i64 (w.Parents.length : Int)))))), (4, .pl (.one (.ref 3 []))), (5, .pl (.one (.ref 4 []))), (7, .pl (.one (.v (.sc (.int .i64 i)))))], ob := [(2, .box true [.list false 1 (List.map (rL false 1 (rK .i64)) w.Parents), .list false 4 (List.map (r_T_impl_Body false) w.Bodies)]), (3, .list true 1 (List.map (rK .i64) born_2)), (4, .list true 1 (List.map (rL true 1 rB) proper))] }) ?_ ?_
            · refine wpV_block ?_
              refine wpV_seq1 ?_
              refine wpV_region ?_
              obtain ⟨x_1, hv', h1'⟩ := Option.bind_eq_some_iff.1 h1'
              have H' := And.intro (geti_f hv') H'
              refine ops H' ?_
              refine opsN ?_
              refine wpV_seq1 ?_
              refine wpV_seq1 ?_
              refine regQ ?_
              refine ops H' ?_
              obtain ⟨x57, hy', h1'⟩ := Option.bind_eq_some_iff.1 h1'
              refine callGQ H' (W_spec_LineOk _ _ hy') ?_
              refine ops H' ?_
              obtain ⟨b_2, gh1', h1'⟩ := Option.bind_eq_some_iff.1 h1'
              refine quV_cut 7 (fun e' => e' = { N := 131, np := 2, nx := 6, sl := [(1, .pl (.one (.ref 2 []))), (3, .pl (.one (.v (.sc (.int .i64 (w.Parents.length : Int)))))), (4, .pl (.one (.ref 3 []))), (5, .pl (.one (.ref 4 []))), (7, .pl (.one (.v (.sc (.int .i64 i))))), (8, .pl (.one (.ref 5 []))), (66, .pl (.one (.v (.sc (.bool b_2)))))], ob := [(2, .box true [.list false 1 (List.map (rL false 1 (rK .i64)) w.Parents), .list false 4 (List.map (r_T_impl_Body false) w.Bodies)]), (3, .list true 1 (List.map (rK .i64) born_1)), (4, .list true 1 (List.map (rL true 1 rB) proper)), (5, .box true [.sc (.string x_1.Line), .sc (.int .i64 x_1.Ins), .sc (.int .i64 x_1.Ord), .list false 1 (List.map (rK .i64) x_1.Dels)])] }) ?_ ?_
              · simp only [List.take_succ_cons, List.take_zero]
                refine quV_sp (fun hc' => ?_) (fun hc' => ?_)
                · replace gh1' := (ifF hc').symm.trans gh1'
                  refine ops H' ?_
                  obtain ⟨x64, hy', gh1'⟩ := Option.bind_eq_some_iff.1 gh1'
                  refine callGQ H' (W_spec_l01In _ _ _ _ hy') ?_
                  refine ops H' ?_
                  obtain rfl := Option.some.inj gh1'
                  refine quV_nil ?_
                  exact ⟨rfl, shd [1, 3, 4, 5, 7, 8, 66] [(2, 2), (3, 3), (4, 4), (5, 5)] 6 rfl⟩
                · replace gh1' := (ifT hc').symm.trans gh1'
                  refine ops H' ?_
                  obtain rfl := Option.some.inj gh1'
                  refine quV_nil ?_
                  exact ⟨rfl, shd [1, 3, 4, 5, 7, 8, 66] [(2, 2), (3, 3), (4, 4), (5, 5)] 6 rfl⟩
              · rintro e' rfl
                simp only [List.drop_succ_cons, List.drop_zero]
                refine ops H' ?_
                obtain ⟨b_3, gh1', h1'⟩ := Option.bind_eq_some_iff.1 h1'
                refine quV_cut 9 (fun e' => e' = { N := 131, np := 2, nx := 6, sl := [(1, .pl (.one (.ref 2 []))), (3, .pl (.one (.v (.sc (.int .i64 (w.Parents.length : Int)))))), (4, .pl (.one (.ref 3 []))), (5, .pl (.one (.ref 4 []))), (7, .pl (.one (.v (.sc (.int .i64 i))))), (8, .pl (.one (.ref 5 []))), (76, .pl (.one (.v (.sc (.bool b_3)))))], ob := [(2, .box true [.list false 1 (List.map (rL false 1 (rK .i64)) w.Parents), .list false 4 (List.map (r_T_impl_Body false) w.Bodies)]), (3, .list true 1 (List.map (rK .i64) born_1)), (4, .list true 1 (List.map (rL true 1 rB) proper)), (5, .box true [.sc (.string x_1.Line), .sc (.int .i64 x_1.Ins), .sc (.int .i64 x_1.Ord), .list false 1 (List.map (rK .i64) x_1.Dels)])] }) ?_ ?_
                · simp only [List.take_succ_cons, List.take_zero]
                  refine quV_sp (fun hc' => ?_) (fun hc' => ?_)
                  · replace gh1' := (ifF hc').symm.trans gh1'
                    obtain ⟨x_2, hv', gh1'⟩ := Option.bind_eq_some_iff.1 gh1'
                    have H' := And.intro (geti_f hv') H'
                    refine ops H' ?_
                    obtain rfl := Option.some.inj gh1'
                    refine quV_nil ?_
                    exact ⟨rfl, shd [1, 3, 4, 5, 7, 8, 76] [(2, 2), (3, 3), (4, 4), (5, 5)] 6 rfl⟩
                  · replace gh1' := (ifT hc').symm.trans gh1'
                    refine ops H' ?_
                    obtain rfl := Option.some.inj gh1'
                    refine quV_nil ?_
                    exact ⟨rfl, shd [1, 3, 4, 5, 7, 8, 76] [(2, 2), (3, 3), (4, 4), (5, 5)] 6 rfl⟩
                · rintro e' rfl
                  simp only [List.drop_succ_cons, List.drop_zero]
                  refine ops H' ?_
                  obtain ⟨b_4, gh1', h1'⟩ := Option.bind_eq_some_iff.1 h1'
                  refine quV_cut 6 (fun e' => e' = { N := 131, np := 2, nx := 6, sl := [(1, .pl (.one (.ref 2 []))), (3, .pl (.one (.v (.sc (.int .i64 (w.Parents.length : Int)))))), (4, .pl (.one (.ref 3 []))), (5, .pl (.one (.ref 4 []))), (7, .pl (.one (.v (.sc (.int .i64 i))))), (8, .pl (.one (.ref 5 []))), (83, .pl (.one (.v (.sc (.bool b_4)))))], ob := [(2, .box true [.list false 1 (List.map (rL false 1 (rK .i64)) w.Parents), .list false 4 (List.map (r_T_impl_Body false) w.Bodies)]), (3, .list true 1 (List.map (rK .i64) born_1)), (4, .list true 1 (List.map (rL true 1 rB) proper)), (5, .box true [.sc (.string x_1.Line), .sc (.int .i64 x_1.Ins), .sc (.int .i64 x_1.Ord), .list false 1 (List.map (rK .i64) x_1.Dels)])] }) ?_ ?_
                  · simp only [List.take_succ_cons, List.take_zero]
                    refine quV_sp (fun hc' => ?_) (fun hc' => ?_)
                    · replace gh1' := (ifF hc').symm.trans gh1'
                      refine ops H' ?_
                      obtain ⟨x81, hy', gh1'⟩ := Option.bind_eq_some_iff.1 gh1'
                      refine callGQ H' (W_spec_l05Rise _ _ _ hy') ?_
                      refine ops H' ?_
                      obtain rfl := Option.some.inj gh1'
                      refine quV_nil ?_
                      exact ⟨rfl, shd [1, 3, 4, 5, 7, 8, 83] [(2, 2), (3, 3), (4, 4), (5, 5)] 6 rfl⟩
                    · replace gh1' := (ifT hc').symm.trans gh1'
                      refine ops H' ?_
                      obtain rfl := Option.some.inj gh1'
                      refine quV_nil ?_
                      exact ⟨rfl, shd [1, 3, 4, 5, 7, 8, 83] [(2, 2), (3, 3), (4, 4), (5, 5)] 6 rfl⟩
                  · rintro e' rfl
                    simp only [List.drop_succ_cons, List.drop_zero]
                    refine quN ?_
                    refine wpV_split (fun hc' => ?_) (fun hc' => ?_)
                    · replace h1' := (ifT hc').symm.trans h1'
                      refine wpV_seq1 ?_
                      refine wpV_region ?_
                      refine ops H' ?_
                      refine opsN ?_
                      refine retN ?_
                      obtain rfl := Option.some.inj h1'
                      refine ⟨_, rfl, fun hr' => ?_⟩
                      subst hr'
                      obtain rfl := Option.some.inj h0'
                      exact outG H' rfl rfl
                    · replace h1' := (ifF hc').symm.trans h1'
                      refine skipN ?_
                      refine wpV_seq1 ?_
                      obtain ⟨x_3, hv', h1'⟩ := Option.bind_eq_some_iff.1 h1'
                      have H' := And.intro (geti_f hv') H'
                      refine wpV_J (fun e' => e' = { N := 131, np := 2, nx := 6, sl := [(1, .pl (.one (.ref 2 []))), (3, .pl (.one (.v (.sc (.int .i64 (w.Parents.length : Int)))))), (4, .pl (.one (.ref 3 []))), (5, .pl (.one (.ref 4 []))), (7, .pl (.one (.v (.sc (.int .i64 i))))), (8, .pl (.one (.ref 5 [])))], ob := [(2, .box true [.list false 1 (List.map (rL false 1 (rK .i64)) w.Parents), .list false 4 (List.map (r_T_impl_Body false) w.Bodies)]), (3, .list true 1 (List.map (rK .i64) (born_1.set x_1.Ins.toNat (wk .i64 (x_3 + 1))))), (4, .list true 1 (List.map (rL true 1 rB) proper)), (5, .box true [.sc (.string x_1.Line), .sc (.int .i64 x_1.Ins), .sc (.int .i64 x_1.Ord), .list false 1 (List.map (rK .i64) x_1.Dels)])] }) ?_ ?_
                      · refine regAnyF [(2, 86, .pl (.one (.v (.sc (.int .i64 x_1.Ins))))), (5, 89, .pl (.one (.v (.sc (.int .i64 x_1.Ins))))), (7, 91, .pl (.one (.v (.sc (.int .i64 x_3))))), (8, 92, .pl (.one (.v (.sc (.int .i64 (wk .i64 (x_3 + 1)))))))] ?_
                        refine (?_ : anyF X ?ops16_1_0 _ _ ?P16_1_0 _)
                        have d16_1_0_0' : anyF X ?ops16_1_0 [0, 1, 2, 3, 4, 5, 6, 7, 8, 9, 10] [] ?P16_1_0 { N := 131, np := 2, nx := 6, sl := [(1, .pl (.one (.ref 2 []))), (3, .pl (.one (.v (.sc (.int .i64 (w.Parents.length : Int)))))), (4, .pl (.one (.ref 3 []))), (5, .pl (.one (.ref 4 []))), (7, .pl (.one (.v (.sc (.int .i64 i))))), (8, .pl (.one (.ref 5 [])))], ob := [(2, .box true [.list false 1 (List.map (rL false 1 (rK .i64)) w.Parents), .list false 4 (List.map (r_T_impl_Body false) w.Bodies)]), (3, .list true 1 (List.map (rK .i64) (born_1.set x_1.Ins.toNat (wk .i64 (x_3 + 1))))), (4, .list true 1 (List.map (rL true 1 rB) proper)), (5, .box true [.sc (.string x_1.Line), .sc (.int .i64 x_1.Ins), .sc (.int .i64 x_1.Ord), .list false 1 (List.map (rK .i64) x_1.Dels)])] } := by
                          refine fend (e2 := { N := 131, np := 2, nx := 6, sl := [(1, .pl (.one (.ref 2 []))), (3, .pl (.one (.v (.sc (.int .i64 (w.Parents.length : Int)))))), (4, .pl (.one (.ref 3 []))), (5, .pl (.one (.ref 4 []))), (7, .pl (.one (.v (.sc (.int .i64 i))))), (8, .pl (.one (.ref 5 [])))], ob := [(2, .box true [.list false 1 (List.map (rL false 1 (rK .i64)) w.Parents), .list false 4 (List.map (r_T_impl_Body false) w.Bodies)]), (3, .list true 1 (List.map (rK .i64) (born_1.set x_1.Ins.toNat (wk .i64 (x_3 + 1))))), (4, .list true 1 (List.map (rL true 1 rB) proper)), (5, .box true [.sc (.string x_1.Line), .sc (.int .i64 x_1.Ins), .sc (.int .i64 x_1.Ord), .list false 1 (List.map (rK .i64) x_1.Dels)])] }) [] [] [] [] trivial ⟨rfl, shd [1, 3, 4, 5, 7, 8] [(2, 2), (3, 3), (4, 4), (5, 5)] 6 rfl⟩
                        have d16_1_0_1' : anyF X ?ops16_1_0 [0, 1, 2, 3, 4, 5, 6, 7, 8, 9] [] ?P16_1_0 { N := 131, np := 2, nx := 6, sl := [(1, .pl (.one (.ref 2 []))), (3, .pl (.one (.v (.sc (.int .i64 (w.Parents.length : Int)))))), (4, .pl (.one (.ref 3 []))), (5, .pl (.one (.ref 4 []))), (7, .pl (.one (.v (.sc (.int .i64 i))))), (8, .pl (.one (.ref 5 []))), (92, .pl (.one (.v (.sc (.int .i64 (wk .i64 (x_3 + 1))))))), (93, .pl (.one (.addr 3 [] 1 x_1.Ins.toNat 0)))], ob := [(2, .box true [.list false 1 (List.map (rL false 1 (rK .i64)) w.Parents), .list false 4 (List.map (r_T_impl_Body false) w.Bodies)]), (3, .list true 1 (List.map (rK .i64) born_1)), (4, .list true 1 (List.map (rL true 1 rB) proper)), (5, .box true [.sc (.string x_1.Line), .sc (.int .i64 x_1.Ins), .sc (.int .i64 x_1.Ord), .list false 1 (List.map (rK .i64) x_1.Dels)])] } := by
                          refine fnode [] [.m 10 [] [0, 1, 2, 3, 4, 5, 6, 7, 8, 9, 10] []] [] [(10, false, [], [0, 1, 2, 3, 4, 5, 6, 7, 8, 9, 10])] ⟨?_, trivial⟩
                          · refine obM ?_
                            refine ops H' ?_
                            refine opsV_nil ⟨rfl, .inl ⟨rfl, ?_⟩⟩
                            exact anyFShd [1, 3, 4, 5, 7, 8] [(2, 2), (3, 3), (4, 4), (5, 5)] 6 d16_1_0_0'
                        have d16_1_0_2' : anyF X ?ops16_1_0 [0, 1, 3, 4, 5, 6] [(2, 86, .pl (.one (.v (.sc (.int .i64 x_1.Ins))))), (7, 91, .pl (.one (.v (.sc (.int .i64 x_3))))), (8, 92, .pl (.one (.v (.sc (.int .i64 (wk .i64 (x_3 + 1)))))))] ?P16_1_0 { N := 131, np := 2, nx := 6, sl := [(1, .pl (.one (.ref 2 []))), (3, .pl (.one (.v (.sc (.int .i64 (w.Parents.length : Int)))))), (4, .pl (.one (.ref 3 []))), (5, .pl (.one (.ref 4 []))), (7, .pl (.one (.v (.sc (.int .i64 i))))), (8, .pl (.one (.ref 5 []))), (84, .pl (.one (.ref 3 []))), (85, .pl (.one (.addr 5 [] 0 0 1))), (90, .pl (.one (.addr 3 [] 1 x_1.Ins.toNat 0)))], ob := [(2, .box true [.list false 1 (List.map (rL false 1 (rK .i64)) w.Parents), .list false 4 (List.map (r_T_impl_Body false) w.Bodies)]), (3, .list true 1 (List.map (rK .i64) born_1)), (4, .list true 1 (List.map (rL true 1 rB) proper)), (5, .box true [.sc (.string x_1.Line), .sc (.int .i64 x_1.Ins), .sc (.int .i64 x_1.Ord), .list false 1 (List.map (rK .i64) x_1.Dels)])] } := by
                          refine fnode [2, 7, 8] [.q 2 86 (.pl (.one (.v (.sc (.int .i64 x_1.Ins))))) [], .q 7 91 (.pl (.one (.v (.sc (.int .i64 x_3))))) [], .q 8 92 (.pl (.one (.v (.sc (.int .i64 (wk .i64 (x_3 + 1))))))) [7], .m 9 [2, 7, 8] [0, 1, 2, 3, 4, 5, 6, 7, 8, 9] []] [(2, 86), (7, 91), (8, 92)] [(2, true, [], []), (7, true, [], []), (8, true, [7], []), (9, false, [2, 7, 8], [0, 1, 2, 3, 4, 5, 6, 7, 8, 9])] ⟨?_, ?_, ?_, ?_, trivial⟩
                          · refine obQ 0 ?_
                            refine ops H' ?_
                            refine opsV_nil ⟨rfl, shd [86, 1, 3, 4, 5, 7, 8, 84, 85, 90] [(2, 2), (3, 3), (4, 4), (5, 5)] 6 rfl⟩
                          · refine obQ 1 ?_
                            refine ops H' ?_
                            refine opsV_nil ⟨rfl, shd [91, 1, 3, 4, 5, 7, 8, 84, 85, 90] [(2, 2), (3, 3), (4, 4), (5, 5)] 6 rfl⟩
                          · refine obQ 2 ?_
                            refine ops H' ?_
                            refine opsV_nil ⟨rfl, shd [92, 1, 3, 4, 5, 7, 8, 84, 85, 90] [(2, 2), (3, 3), (4, 4), (5, 5)] 6 rfl⟩
                          · refine obM ?_
                            refine ops H' ?_
                            refine opsV_nil ⟨rfl, .inl ⟨rfl, ?_⟩⟩
                            exact anyFShd [1, 3, 4, 5, 7, 8, 92, 93] [(2, 2), (3, 3), (4, 4), (5, 5)] 6 d16_1_0_1'
                        have d16_1_0_3' : anyF X ?ops16_1_0 [0, 1, 3, 4] [(2, 86, .pl (.one (.v (.sc (.int .i64 x_1.Ins))))), (5, 89, .pl (.one (.v (.sc (.int .i64 x_1.Ins))))), (7, 91, .pl (.one (.v (.sc (.int .i64 x_3))))), (8, 92, .pl (.one (.v (.sc (.int .i64 (wk .i64 (x_3 + 1)))))))] ?P16_1_0 { N := 131, np := 2, nx := 6, sl := [(1, .pl (.one (.ref 2 []))), (3, .pl (.one (.v (.sc (.int .i64 (w.Parents.length : Int)))))), (4, .pl (.one (.ref 3 []))), (5, .pl (.one (.ref 4 []))), (7, .pl (.one (.v (.sc (.int .i64 i))))), (8, .pl (.one (.ref 5 []))), (84, .pl (.one (.ref 3 []))), (85, .pl (.one (.addr 5 [] 0 0 1))), (87, .pl (.one (.ref 3 []))), (88, .pl (.one (.addr 5 [] 0 0 1)))], ob := [(2, .box true [.list false 1 (List.map (rL false 1 (rK .i64)) w.Parents), .list false 4 (List.map (r_T_impl_Body false) w.Bodies)]), (3, .list true 1 (List.map (rK .i64) born_1)), (4, .list true 1 (List.map (rL true 1 rB) proper)), (5, .box true [.sc (.string x_1.Line), .sc (.int .i64 x_1.Ins), .sc (.int .i64 x_1.Ord), .list false 1 (List.map (rK .i64) x_1.Dels)])] } := by
                          refine fnode [2, 5] [.q 2 86 (.pl (.one (.v (.sc (.int .i64 x_1.Ins))))) [], .q 5 89 (.pl (.one (.v (.sc (.int .i64 x_1.Ins))))) [], .m 6 [5] [0, 1, 3, 4, 5, 6] [(2, 86, .pl (.one (.v (.sc (.int .i64 x_1.Ins))))), (7, 91, .pl (.one (.v (.sc (.int .i64 x_3))))), (8, 92, .pl (.one (.v (.sc (.int .i64 (wk .i64 (x_3 + 1)))))))]] [(2, 86), (5, 89), (7, 91), (8, 92)] [(2, true, [], []), (5, true, [], []), (6, false, [5], [0, 1, 3, 4, 5, 6])] ⟨?_, ?_, ?_, trivial⟩
                          · refine obQ 0 ?_
                            refine ops H' ?_
                            refine opsV_nil ⟨rfl, shd [86, 1, 3, 4, 5, 7, 8, 84, 85, 87, 88] [(2, 2), (3, 3), (4, 4), (5, 5)] 6 rfl⟩
                          · refine obQ 1 ?_
                            refine ops H' ?_
                            refine opsV_nil ⟨rfl, shd [89, 1, 3, 4, 5, 7, 8, 84, 85, 87, 88] [(2, 2), (3, 3), (4, 4), (5, 5)] 6 rfl⟩
                          · refine obM ?_
                            refine ops H' ?_
                            refine opsV_nil ⟨rfl, .inl ⟨rfl, ?_⟩⟩
                            exact anyFShd [1, 3, 4, 5, 7, 8, 84, 85, 90] [(2, 2), (3, 3), (4, 4), (5, 5)] 6 d16_1_0_2'
                        refine fpure H' 0 [0] [(2, 86), (5, 89), (7, 91), (8, 92)] ?_
                        refine fpure H' 1 [0, 1] [(2, 86), (5, 89), (7, 91), (8, 92)] ?_
                        refine fpure H' 3 [0, 1, 3] [(2, 86), (5, 89), (7, 91), (8, 92)] ?_
                        refine fpure H' 4 [0, 1, 3, 4] [(2, 86), (5, 89), (7, 91), (8, 92)] ?_
                        exact anyFShd [1, 3, 4, 5, 7, 8, 84, 85, 87, 88] [(2, 2), (3, 3), (4, 4), (5, 5)] 6 d16_1_0_3'
                      · rintro e' rfl
                        refine contN ?_
                        refine wpV_seq1 ?_
                        refine wpV_region ?_
                        refine ops H' ?_
                        refine opsN ?_
                        obtain ⟨p_2, hl', h1'⟩ := Option.bind_eq_some_iff.1 h1'
                        refine wpV_block ?_
                        refine wpV_loopM (fun k e' => e' = { N := 131, np := 2, nx := 6, sl := [(1, .pl (.one (.ref 2 []))), (3, .pl (.one (.v (.sc (.int .i64 (w.Parents.length : Int)))))), (4, .pl (.one (.ref 3 []))), (5, .pl (.one (.ref 4 []))), (7, .pl (.one (.v (.sc (.int .i64 i))))), (8, .pl (.one (.ref 5 []))), (9, .pl (.one (.v (.sc (.int .i64 k)))))], ob := [(2, .box true [.list false 1 (List.map (rL false 1 (rK .i64)) w.Parents), .list false 4 (List.map (r_T_impl_Body false) w.Bodies)]), (3, .list true 1 (List.map (rK .i64) (born_1.set x_1.Ins.toNat (wk .i64 (x_3 + 1))))), (4, .list true 1 (List.map (rL true 1 rB) proper)), (5, .box true [.sc (.string x_1.Line), .sc (.int .i64 x_1.Ins), .sc (.int .i64 x_1.Ord), .list false 1 (List.map (rK .i64) x_1.Dels)])] }) hl' (shd [1, 3, 4, 5, 7, 8, 9] [(2, 2), (3, 3), (4, 4), (5, 5)] 6 rfl) ?_
                        rintro k y2' e' h2' rfl
                        replace h2' : spec_WeaveOk_l3 proper x_1 k = some y2' := h2'
                        unfold spec_WeaveOk_l3 at h2'
                        refine wpV_seq1 ?_
                        refine wpV_seq1 ?_
                        refine wpV_region ?_
                        refine ops H' ?_
                        refine opsN ?_
                        refine wpV_split (fun hc' => ?_) (fun hc' => ?_)
                        · replace h2' := (ifT hc').symm.trans h2'
                          refine skipN ?_
                          refine wpV_seq1 ?_
                          refine wpV_block ?_
                          refine wpV_seq1 ?_
                          refine regQ ?_
                          obtain ⟨x_4, hv', h2'⟩ := Option.bind_eq_some_iff.1 h2'
                          have H' := And.intro (geti_f hv') H'
                          obtain ⟨x_5, hv', h2'⟩ := Option.bind_eq_some_iff.1 h2'
                          have H' := And.intro (geti_f hv') H'
                          refine ops H' ?_
                          obtain ⟨x110, hy', h2'⟩ := Option.bind_eq_some_iff.1 h2'
                          refine callGQ H' (W_spec_l06Live _ _ _ hy') ?_
                          refine ops H' ?_
                          refine quN ?_
                          refine wpV_split (fun hc' => ?_) (fun hc' => ?_)
                          · replace h2' := (ifT hc').symm.trans h2'
                            refine wpV_seq1 ?_
                            refine wpV_region ?_
                            refine ops H' ?_
                            refine opsN ?_
                            refine retN ?_
                            obtain rfl := Option.some.inj h2'
                            refine ⟨_, rfl, fun hr' => ?_⟩
                            subst hr'
                            obtain rfl := Option.some.inj h1'
                            refine ⟨_, rfl, fun hr' => ?_⟩
                            subst hr'
                            obtain rfl := Option.some.inj h0'
                            exact outG H' rfl rfl
                          · replace h2' := (ifF hc').symm.trans h2'
                            refine skipN ?_
                            refine wpV_region ?_
                            refine ops H' ?_
                            refine opsN ?_
                            obtain rfl := Option.some.inj h2'
                            exact shd [1, 3, 4, 5, 7, 8, 9] [(2, 2), (3, 3), (4, 4), (5, 5)] 6 ⟨_, rfl, rfl⟩
                        · replace h2' := (ifF hc').symm.trans h2'
                          refine exitN ?_
                          obtain rfl := Option.some.inj h2'
                          refine ⟨_, rfl, fun hr' => ?_⟩
                          subst hr'
                          exact shd [1, 3, 4, 5, 7] [(2, 2), (3, 3), (4, 4)] 5 ⟨_, h1', rfl⟩
            · rintro e' ⟨born_2, h1', rfl⟩
              unfold spec_WeaveOk_j4 at h1'
              refine wpV_region ?_
              refine ops H' ?_
              refine opsN ?_
              obtain rfl := Option.some.inj h1'
              exact shd [1, 3, 4, 5, 7] [(2, 2), (3, 3), (4, 4)] 5 ⟨_, rfl, _, _, rfl, rfl⟩
          · replace h1' := (ifF hc').symm.trans h1'
            refine exitN ?_
            obtain rfl := Option.some.inj h1'
            refine ⟨_, rfl, fun hr' => ?_⟩
            subst hr'
            exact shd [1, 3, 4] [(2, 2), (3, 3)] 4 ⟨_, h0', rfl⟩
        · rintro e' ⟨born, h0', rfl⟩
          unfold spec_WeaveOk_j2 at h0'
          refine wpV_seqJ (fun e' => spec_WeaveOk_j3 = some r' ∧ e' = { N := 131, np := 2, nx := 2, sl := [], ob := [] }) ?_ ?_
          · refine wpV_seq1 ?_
            refine wpV_region ?_
            refine ops H' ?_
            refine opsN ?_
            obtain ⟨p, hl', h0'⟩ := Option.bind_eq_some_iff.1 h0'
            refine wpV_block ?_
            refine wpV_loopM (fun v e' => e' = { N := 131, np := 2, nx := 4, sl := [(1, .pl (.one (.ref 2 []))), (3, .pl (.one (.v (.sc (.int .i64 (w.Parents.length : Int)))))), (4, .pl (.one (.ref 3 []))), (10, .pl (.one (.v (.sc (.int .i64 v)))))], ob := [(2, .box true [.list false 1 (List.map (rL false 1 (rK .i64)) w.Parents), .list false 4 (List.map (r_T_impl_Body false) w.Bodies)]), (3, .list true 1 (List.map (rK .i64) born))] }) hl' (shd [1, 3, 4, 10] [(2, 2), (3, 3)] 4 rfl) ?_
            rintro v y1' e' h1' rfl
            replace h1' : spec_WeaveOk_l1 w born v = some y1' := h1'
            unfold spec_WeaveOk_l1 at h1'
            refine wpV_seq1 ?_
            refine wpV_seq1 ?_
            refine wpV_region ?_
            refine ops H' ?_
            refine opsN ?_
            refine wpV_split (fun hc' => ?_) (fun hc' => ?_)
            · replace h1' := (ifT hc').symm.trans h1'
              refine skipN ?_
              refine wpV_seq1 ?_
              refine wpV_block ?_
              refine wpV_seq1 ?_
              obtain ⟨x, hv', h1'⟩ := Option.bind_eq_some_iff.1 h1'
              have H' := And.intro (geti_f hv') H'
              obtain ⟨b_1, gh0_25_0, h1'⟩ := Option.bind_eq_some_iff.1 h1'
              refine wpV_J (fun e' => e' = { N := 131, np := 2, nx := 4, sl := [(1, .pl (.one (.ref 2 []))), (3, .pl (.one (.v (.sc (.int .i64 (w.Parents.length : Int)))))), (4, .pl (.one (.ref 3 []))), (10, .pl (.one (.v (.sc (.int .i64 v))))), (130, .pl (.one (.v (.sc (.bool b_1)))))], ob := [(2, .box true [.list false 1 (List.map (rL false 1 (rK .i64)) w.Parents), .list false 4 (List.map (r_T_impl_Body false) w.Bodies)]), (3, .list true 1 (List.map (rK .i64) born))] }) ?_ ?_
              · rcases Bool.eq_false_or_eq_true (decide (x > 80)) with hc5_25_0 | hc5_25_0
                · replace gh0_25_0 := (ifT hc5_25_0).symm.trans gh0_25_0
                  obtain rfl := Option.some.inj gh0_25_0
                  refine regAnyF [(3, 120, .pl (.one (.v (.sc (.int .i64 x))))), (4, 121, .pl (.one (.v (.sc (.bool (decide (x > 80))))))), (5, 122, .pl (.one (.v (.sc (.bool (decide (x > 80))))))), (6, 123, .tup []), (7, 124, .tup []), (8, 125, .tup []), (9, 126, .tup []), (10, 127, .tup []), (11, 128, .tup []), (12, 129, .tup []), (13, 130, .pl (.one (.v (.sc (.bool true)))))] ?_
                  refine (?_ : anyF X ?ops25_0_0 _ _ ?P25_0_0 _)
                  have d25_0_0_0' : anyF X ?ops25_0_0 [0, 1, 2] [(3, 120, .pl (.one (.v (.sc (.int .i64 x))))), (4, 121, .pl (.one (.v (.sc (.bool (decide (x > 80))))))), (5, 122, .pl (.one (.v (.sc (.bool (decide (x > 80))))))), (6, 123, .tup []), (7, 124, .tup []), (8, 125, .tup []), (9, 126, .tup []), (10, 127, .tup []), (11, 128, .tup []), (12, 129, .tup []), (13, 130, .pl (.one (.v (.sc (.bool true)))))] ?P25_0_0 { N := 131, np := 2, nx := 4, sl := [(1, .pl (.one (.ref 2 []))), (3, .pl (.one (.v (.sc (.int .i64 (w.Parents.length : Int)))))), (4, .pl (.one (.ref 3 []))), (10, .pl (.one (.v (.sc (.int .i64 v))))), (119, .pl (.one (.addr 3 [] 1 v.toNat 0)))], ob := [(2, .box true [.list false 1 (List.map (rL false 1 (rK .i64)) w.Parents), .list false 4 (List.map (r_T_impl_Body false) w.Bodies)]), (3, .list true 1 (List.map (rK .i64) born))] } := by
                    refine fend (e2 := { N := 131, np := 2, nx := 4, sl := [(120, .pl (.one (.v (.sc (.int .i64 x))))), (121, .pl (.one (.v (.sc (.bool (decide (x > 80))))))), (122, .pl (.one (.v (.sc (.bool (decide (x > 80))))))), (123, .tup []), (124, .tup []), (125, .tup []), (126, .tup []), (127, .tup []), (128, .tup []), (129, .tup []), (130, .pl (.one (.v (.sc (.bool true))))), (1, .pl (.one (.ref 2 []))), (3, .pl (.one (.v (.sc (.int .i64 (w.Parents.length : Int)))))), (4, .pl (.one (.ref 3 []))), (10, .pl (.one (.v (.sc (.int .i64 v))))), (119, .pl (.one (.addr 3 [] 1 v.toNat 0)))], ob := [(2, .box true [.list false 1 (List.map (rL false 1 (rK .i64)) w.Parents), .list false 4 (List.map (r_T_impl_Body false) w.Bodies)]), (3, .list true 1 (List.map (rK .i64) born))] }) [3, 4, 5, 6, 7, 8, 9, 10, 11, 12, 13] [.q 3 120 (.pl (.one (.v (.sc (.int .i64 x))))) [], .q 4 121 (.pl (.one (.v (.sc (.bool (decide (x > 80))))))) [3], .q 5 122 (.pl (.one (.v (.sc (.bool (decide (x > 80))))))) [4], .q 6 123 (.tup []) [5], .q 7 124 (.tup []) [5], .q 8 125 (.tup []) [5], .q 9 126 (.tup []) [5, 7, 8], .q 10 127 (.tup []) [5, 6, 9], .q 11 128 (.tup []) [5, 10], .q 12 129 (.tup []) [5, 11], .q 13 130 (.pl (.one (.v (.sc (.bool true))))) [5, 12]] [(3, 120), (4, 121), (5, 122), (6, 123), (7, 124), (8, 125), (9, 126), (10, 127), (11, 128), (12, 129), (13, 130)] [(3, true, [], []), (4, true, [3], []), (5, true, [4], []), (6, true, [5], []), (7, true, [5], []), (8, true, [5], []), (9, true, [5, 7, 8], []), (10, true, [5, 6, 9], []), (11, true, [5, 10], []), (12, true, [5, 11], []), (13, true, [5, 12], [])] ⟨?_, ?_, ?_, ?_, ?_, ?_, ?_, ?_, ?_, ?_, ?_, trivial⟩ ⟨rfl, shd [1, 3, 4, 10, 130] [(2, 2), (3, 3)] 4 rfl⟩
                    · refine obQ 0 ?_
                      refine ops H' ?_
                      refine opsV_nil ⟨rfl, shd [120, 1, 3, 4, 10, 119] [(2, 2), (3, 3)] 4 rfl⟩
                    · refine obQ 1 ?_
                      refine ops H' ?_
                      refine opsV_nil ⟨rfl, shd [121, 1, 3, 4, 10, 119] [(2, 2), (3, 3)] 4 rfl⟩
                    · refine obQ 2 ?_
                      refine ops H' ?_
                      refine opsV_nil ⟨rfl, shd [122, 1, 3, 4, 10, 119] [(2, 2), (3, 3)] 4 rfl⟩
                    · refine obQ 3 ?_
                      refine opsOff hc5_25_0 ?_
                      refine opsV_nil ⟨rfl, shd [123, 1, 3, 4, 10, 119] [(2, 2), (3, 3)] 4 rfl⟩
                    · refine obQ 4 ?_
                      refine opsOff hc5_25_0 ?_
                      refine opsV_nil ⟨rfl, shd [124, 1, 3, 4, 10, 119] [(2, 2), (3, 3)] 4 rfl⟩
                    · refine obQ 5 ?_
                      refine opsOff hc5_25_0 ?_
                      refine opsV_nil ⟨rfl, shd [125, 1, 3, 4, 10, 119] [(2, 2), (3, 3)] 4 rfl⟩
                    · refine obQ 6 ?_
                      refine opsOff hc5_25_0 ?_
                      refine opsV_nil ⟨rfl, shd [126, 1, 3, 4, 10, 119] [(2, 2), (3, 3)] 4 rfl⟩
                    · refine obQ 7 ?_
                      refine opsOff hc5_25_0 ?_
                      refine opsV_nil ⟨rfl, shd [127, 1, 3, 4, 10, 119] [(2, 2), (3, 3)] 4 rfl⟩
                    · refine obQ 8 ?_
                      refine opsOff hc5_25_0 ?_
                      refine opsV_nil ⟨rfl, shd [128, 1, 3, 4, 10, 119] [(2, 2), (3, 3)] 4 rfl⟩
                    · refine obQ 9 ?_
                      refine opsOff hc5_25_0 ?_
                      refine opsV_nil ⟨rfl, shd [129, 1, 3, 4, 10, 119] [(2, 2), (3, 3)] 4 rfl⟩
                    · refine obQ 10 ?_
                      refine opsPick H' hc5_25_0 ?_
                      refine opsV_nil ⟨rfl, shd [130, 1, 3, 4, 10, 119] [(2, 2), (3, 3)] 4 rfl⟩
                  refine fpure H' 0 [0] [(3, 120), (4, 121), (5, 122), (6, 123), (7, 124), (8, 125), (9, 126), (10, 127), (11, 128), (12, 129), (13, 130)] ?_
                  refine fpure H' 1 [0, 1] [(3, 120), (4, 121), (5, 122), (6, 123), (7, 124), (8, 125), (9, 126), (10, 127), (11, 128), (12, 129), (13, 130)] ?_
                  refine fpure H' 2 [0, 1, 2] [(3, 120), (4, 121), (5, 122), (6, 123), (7, 124), (8, 125), (9, 126), (10, 127), (11, 128), (12, 129), (13, 130)] ?_
                  exact anyFShd [1, 3, 4, 10, 119] [(2, 2), (3, 3)] 4 d25_0_0_0'
                · replace gh0_25_0 := (ifF hc5_25_0).symm.trans gh0_25_0
                  obtain ⟨x126, hy_x126, gh0_25_0⟩ := Option.bind_eq_some_iff.1 gh0_25_0
                  obtain ⟨x127, hy_x127, gh0_25_0⟩ := Option.bind_eq_some_iff.1 gh0_25_0
                  obtain rfl := Option.some.inj gh0_25_0
                  refine regAnyF [(3, 120, .pl (.one (.v (.sc (.int .i64 x))))), (4, 121, .pl (.one (.v (.sc (.bool (decide (x > 80))))))), (5, 122, .pl (.one (.v (.sc (.bool (decide (x > 80))))))), (6, 123, .pl (.agg [.v (.list false 1 (List.map (rL false 1 (rK .i64)) w.Parents)), .v (.list false 4 (List.map (r_T_impl_Body false) w.Bodies))])), (7, 124, .pl (.agg [.v (.list false 1 (List.map (rL false 1 (rK .i64)) w.Parents)), .v (.list false 4 (List.map (r_T_impl_Body false) w.Bodies))])), (8, 125, .pl (.one (.v (.sc (.int .i64 v))))), (11, 128, .pl (.one (.v (.sc (.int .i64 (x127.length : Int)))))), (12, 129, .pl (.one (.v (.sc (.bool (decide ((x127.length : Int) > 80))))))), (13, 130, .pl (.one (.v (.sc (.bool (decide ((x127.length : Int) > 80)))))))] ?_
                  refine (?_ : anyF X ?ops25_0_1 _ _ ?P25_0_1 _)
                  have d25_0_1_0' : anyF X ?ops25_0_1 [0, 1, 2, 3, 4, 5, 6, 7, 8, 9, 10] [(11, 128, .pl (.one (.v (.sc (.int .i64 (x127.length : Int)))))), (12, 129, .pl (.one (.v (.sc (.bool (decide ((x127.length : Int) > 80))))))), (13, 130, .pl (.one (.v (.sc (.bool (decide ((x127.length : Int) > 80)))))))] ?P25_0_1 { N := 131, np := 2, nx := 5, sl := [(1, .pl (.one (.ref 2 []))), (3, .pl (.one (.v (.sc (.int .i64 (w.Parents.length : Int)))))), (4, .pl (.one (.ref 3 []))), (10, .pl (.one (.v (.sc (.int .i64 v))))), (122, .pl (.one (.v (.sc (.bool (decide (x > 80))))))), (127, .pl (.one (.ref 4 [])))], ob := [(2, .box true [.list false 1 (List.map (rL false 1 (rK .i64)) w.Parents), .list false 4 (List.map (r_T_impl_Body false) w.Bodies)]), (3, .list true 1 (List.map (rK .i64) born)), (4, .list true 1 (List.map (rK .i64) x127))] } := by
                    refine fend (e2 := { N := 131, np := 2, nx := 5, sl := [(128, .pl (.one (.v (.sc (.int .i64 (x127.length : Int)))))), (129, .pl (.one (.v (.sc (.bool (decide ((x127.length : Int) > 80))))))), (130, .pl (.one (.v (.sc (.bool (decide ((x127.length : Int) > 80))))))), (1, .pl (.one (.ref 2 []))), (3, .pl (.one (.v (.sc (.int .i64 (w.Parents.length : Int)))))), (4, .pl (.one (.ref 3 []))), (10, .pl (.one (.v (.sc (.int .i64 v))))), (122, .pl (.one (.v (.sc (.bool (decide (x > 80))))))), (127, .pl (.one (.ref 4 [])))], ob := [(2, .box true [.list false 1 (List.map (rL false 1 (rK .i64)) w.Parents), .list false 4 (List.map (r_T_impl_Body false) w.Bodies)]), (3, .list true 1 (List.map (rK .i64) born)), (4, .list true 1 (List.map (rK .i64) x127))] }) [11, 12, 13] [.q 11 128 (.pl (.one (.v (.sc (.int .i64 (x127.length : Int)))))) [], .q 12 129 (.pl (.one (.v (.sc (.bool (decide ((x127.length : Int) > 80))))))) [11], .q 13 130 (.pl (.one (.v (.sc (.bool (decide ((x127.length : Int) > 80))))))) [12]] [(11, 128), (12, 129), (13, 130)] [(11, true, [], []), (12, true, [11], []), (13, true, [12], [])] ⟨?_, ?_, ?_, trivial⟩ ⟨rfl, shd [1, 3, 4, 10, 130] [(2, 2), (3, 3)] 4 rfl⟩
                    · refine obQ 0 ?_
                      refine opsOn hc5_25_0 ?_
                      refine ops H' ?_
                      refine opsV_nil ⟨rfl, shd [128, 1, 3, 4, 10, 122, 127] [(2, 2), (3, 3), (4, 4)] 5 rfl⟩
                    · refine obQ 1 ?_
                      refine opsOn hc5_25_0 ?_
                      refine ops H' ?_
                      refine opsV_nil ⟨rfl, shd [129, 1, 3, 4, 10, 122, 127] [(2, 2), (3, 3), (4, 4)] 5 rfl⟩
                    · refine obQ 2 ?_
                      refine opsPick H' hc5_25_0 ?_
                      refine opsV_nil ⟨rfl, shd [130, 1, 3, 4, 10, 122, 127] [(2, 2), (3, 3), (4, 4)] 5 rfl⟩
                  have d25_0_1_1' : anyF X ?ops25_0_1 [0, 1, 2, 3, 4, 5, 7, 8, 9] [(6, 123, .pl (.agg [.v (.list false 1 (List.map (rL false 1 (rK .i64)) w.Parents)), .v (.list false 4 (List.map (r_T_impl_Body false) w.Bodies))])), (11, 128, .pl (.one (.v (.sc (.int .i64 (x127.length : Int)))))), (12, 129, .pl (.one (.v (.sc (.bool (decide ((x127.length : Int) > 80))))))), (13, 130, .pl (.one (.v (.sc (.bool (decide ((x127.length : Int) > 80)))))))] ?P25_0_1 { N := 131, np := 2, nx := 5, sl := [(1, .pl (.one (.ref 2 []))), (3, .pl (.one (.v (.sc (.int .i64 (w.Parents.length : Int)))))), (4, .pl (.one (.ref 3 []))), (10, .pl (.one (.v (.sc (.int .i64 v))))), (122, .pl (.one (.v (.sc (.bool (decide (x > 80))))))), (126, .pl (.one (.ref 4 [])))], ob := [(2, .box true [.list false 1 (List.map (rL false 1 (rK .i64)) w.Parents), .list false 4 (List.map (r_T_impl_Body false) w.Bodies)]), (3, .list true 1 (List.map (rK .i64) born)), (4, .list true 1 (List.map rB x126))] } := by
                    refine fnode [6] [.q 6 123 (.pl (.agg [.v (.list false 1 (List.map (rL false 1 (rK .i64)) w.Parents)), .v (.list false 4 (List.map (r_T_impl_Body false) w.Bodies))])) [], .m 10 [6] [0, 1, 2, 3, 4, 5, 6, 7, 8, 9, 10] [(11, 128, .pl (.one (.v (.sc (.int .i64 (x127.length : Int)))))), (12, 129, .pl (.one (.v (.sc (.bool (decide ((x127.length : Int) > 80))))))), (13, 130, .pl (.one (.v (.sc (.bool (decide ((x127.length : Int) > 80)))))))]] [(6, 123), (11, 128), (12, 129), (13, 130)] [(6, true, [], []), (10, false, [6], [0, 1, 2, 3, 4, 5, 6, 7, 8, 9, 10])] ⟨?_, ?_, trivial⟩
                    · refine obQ 0 ?_
                      refine opsOn hc5_25_0 ?_
                      refine ops H' ?_
                      refine opsV_nil ⟨rfl, shd [123, 1, 3, 4, 10, 122, 126] [(2, 2), (3, 3), (4, 4)] 5 rfl⟩
                    · refine obM ?_
                      refine opsOn hc5_25_0 ?_
                      refine callG H' (fun _ => []) (W_spec_l06Places _ _ _ hy_x127) ?_
                      refine opsV_nil ⟨rfl, .inl ⟨rfl, ?_⟩⟩
                      exact anyFShd [1, 3, 4, 10, 122, 127] [(2, 2), (3, 3), (5, 4)] 5 d25_0_1_0'
                  have d25_0_1_2' : anyF X ?ops25_0_1 [0, 1, 2] [(3, 120, .pl (.one (.v (.sc (.int .i64 x))))), (4, 121, .pl (.one (.v (.sc (.bool (decide (x > 80))))))), (5, 122, .pl (.one (.v (.sc (.bool (decide (x > 80))))))), (6, 123, .pl (.agg [.v (.list false 1 (List.map (rL false 1 (rK .i64)) w.Parents)), .v (.list false 4 (List.map (r_T_impl_Body false) w.Bodies))])), (7, 124, .pl (.agg [.v (.list false 1 (List.map (rL false 1 (rK .i64)) w.Parents)), .v (.list false 4 (List.map (r_T_impl_Body false) w.Bodies))])), (8, 125, .pl (.one (.v (.sc (.int .i64 v))))), (11, 128, .pl (.one (.v (.sc (.int .i64 (x127.length : Int)))))), (12, 129, .pl (.one (.v (.sc (.bool (decide ((x127.length : Int) > 80))))))), (13, 130, .pl (.one (.v (.sc (.bool (decide ((x127.length : Int) > 80)))))))] ?P25_0_1 { N := 131, np := 2, nx := 4, sl := [(1, .pl (.one (.ref 2 []))), (3, .pl (.one (.v (.sc (.int .i64 (w.Parents.length : Int)))))), (4, .pl (.one (.ref 3 []))), (10, .pl (.one (.v (.sc (.int .i64 v))))), (119, .pl (.one (.addr 3 [] 1 v.toNat 0)))], ob := [(2, .box true [.list false 1 (List.map (rL false 1 (rK .i64)) w.Parents), .list false 4 (List.map (r_T_impl_Body false) w.Bodies)]), (3, .list true 1 (List.map (rK .i64) born))] } := by
                    refine fnode [3, 4, 5, 6, 7, 8] [.q 3 120 (.pl (.one (.v (.sc (.int .i64 x))))) [], .q 4 121 (.pl (.one (.v (.sc (.bool (decide (x > 80))))))) [3], .q 5 122 (.pl (.one (.v (.sc (.bool (decide (x > 80))))))) [4], .q 6 123 (.pl (.agg [.v (.list false 1 (List.map (rL false 1 (rK .i64)) w.Parents)), .v (.list false 4 (List.map (r_T_impl_Body false) w.Bodies))])) [5], .q 7 124 (.pl (.agg [.v (.list false 1 (List.map (rL false 1 (rK .i64)) w.Parents)), .v (.list false 4 (List.map (r_T_impl_Body false) w.Bodies))])) [5], .q 8 125 (.pl (.one (.v (.sc (.int .i64 v))))) [5], .m 9 [5, 7, 8, 4, 3] [0, 1, 2, 3, 4, 5, 7, 8, 9] [(6, 123, .pl (.agg [.v (.list false 1 (List.map (rL false 1 (rK .i64)) w.Parents)), .v (.list false 4 (List.map (r_T_impl_Body false) w.Bodies))])), (11, 128, .pl (.one (.v (.sc (.int .i64 (x127.length : Int)))))), (12, 129, .pl (.one (.v (.sc (.bool (decide ((x127.length : Int) > 80))))))), (13, 130, .pl (.one (.v (.sc (.bool (decide ((x127.length : Int) > 80)))))))]] [(3, 120), (4, 121), (5, 122), (6, 123), (7, 124), (8, 125), (11, 128), (12, 129), (13, 130)] [(3, true, [], []), (4, true, [3], []), (5, true, [4], []), (6, true, [5], []), (7, true, [5], []), (8, true, [5], []), (9, false, [5, 7, 8, 4, 3], [0, 1, 2, 3, 4, 5, 7, 8, 9])] ⟨?_, ?_, ?_, ?_, ?_, ?_, ?_, trivial⟩
                    · refine obQ 0 ?_
                      refine ops H' ?_
                      refine opsV_nil ⟨rfl, shd [120, 1, 3, 4, 10, 119] [(2, 2), (3, 3)] 4 rfl⟩
                    · refine obQ 1 ?_
                      refine ops H' ?_
                      refine opsV_nil ⟨rfl, shd [121, 1, 3, 4, 10, 119] [(2, 2), (3, 3)] 4 rfl⟩
                    · refine obQ 2 ?_
                      refine ops H' ?_
                      refine opsV_nil ⟨rfl, shd [122, 1, 3, 4, 10, 119] [(2, 2), (3, 3)] 4 rfl⟩
                    · refine obQ 3 ?_
                      refine opsOn hc5_25_0 ?_
                      refine ops H' ?_
                      refine opsV_nil ⟨rfl, shd [123, 1, 3, 4, 10, 119] [(2, 2), (3, 3)] 4 rfl⟩
                    · refine obQ 4 ?_
                      refine opsOn hc5_25_0 ?_
                      refine ops H' ?_
                      refine opsV_nil ⟨rfl, shd [124, 1, 3, 4, 10, 119] [(2, 2), (3, 3)] 4 rfl⟩
                    · refine obQ 5 ?_
                      refine opsOn hc5_25_0 ?_
                      refine ops H' ?_
                      refine opsV_nil ⟨rfl, shd [125, 1, 3, 4, 10, 119] [(2, 2), (3, 3)] 4 rfl⟩
                    · refine obM ?_
                      refine opsOn hc5_25_0 ?_
                      refine callG H' (fun _ => []) (W_spec_l06Closure _ _ _ hy_x126) ?_
                      refine opsV_nil ⟨rfl, .inl ⟨rfl, ?_⟩⟩
                      exact anyFShd [1, 3, 4, 10, 122, 126] [(2, 2), (3, 3), (4, 4)] 5 d25_0_1_1'
                  refine fpure H' 0 [0] [(3, 120), (4, 121), (5, 122), (6, 123), (7, 124), (8, 125), (11, 128), (12, 129), (13, 130)] ?_
                  refine fpure H' 1 [0, 1] [(3, 120), (4, 121), (5, 122), (6, 123), (7, 124), (8, 125), (11, 128), (12, 129), (13, 130)] ?_
                  refine fpure H' 2 [0, 1, 2] [(3, 120), (4, 121), (5, 122), (6, 123), (7, 124), (8, 125), (11, 128), (12, 129), (13, 130)] ?_
                  exact anyFShd [1, 3, 4, 10, 119] [(2, 2), (3, 3)] 4 d25_0_1_2'
              · rintro e' rfl
                refine contN ?_
                refine wpV_split (fun hc' => ?_) (fun hc' => ?_)
                · replace h1' := (ifT hc').symm.trans h1'
                  refine wpV_seq1 ?_
                  refine wpV_region ?_
                  refine ops H' ?_
                  refine opsN ?_
                  refine retN ?_
                  obtain rfl := Option.some.inj h1'
                  refine ⟨_, rfl, fun hr' => ?_⟩
                  subst hr'
                  obtain rfl := Option.some.inj h0'
                  exact outG H' rfl rfl
                · replace h1' := (ifF hc').symm.trans h1'
                  refine skipN ?_
                  refine wpV_region ?_
                  refine ops H' ?_
                  refine opsN ?_
                  obtain rfl := Option.some.inj h1'
                  exact shd [1, 3, 4, 10] [(2, 2), (3, 3)] 4 ⟨_, rfl, rfl⟩
            · replace h1' := (ifF hc').symm.trans h1'
              refine exitN ?_
              obtain rfl := Option.some.inj h1'
              refine ⟨_, rfl, fun hr' => ?_⟩
              subst hr'
              exact shd [] [] 2 ⟨h0', rfl⟩
          · rintro e' ⟨h0', rfl⟩
            unfold spec_WeaveOk_j3 at h0'
            refine wpV_seq1 ?_
            refine wpV_region ?_
            refine ops H' ?_
            refine opsN ?_
            refine retN ?_
            obtain rfl := Option.some.inj h0'
            exact outG H' rfl rfl
theorem W_spec_l06Has (w : T_impl_Weave) (v : Int) (r' : Bool) (h0' : spec_l06Has w v = some r') : Fn X 125 [.agg [.list false 1 (List.map (rL false 1 (rK .i64)) w.Parents), .list false 4 (List.map (r_T_impl_Body false) w.Bodies)], .one (.sc (.int .i64 v))] [.one (.sc (.bool r'))] [] := by
  have H' := And.intro t3 (And.intro t38 (And.intro t41 (And.intro R_Li64 (And.intro R_T_impl_Body (R_i64)))))
  unfold spec_l06Has at h0'
  refine Fn.start (fn := f125) (N := 11) (res := [.tmp 4]) rfl rfl rfl rfl rfl (by simp) ?_
  refine enterG H' ?_
  refine wpV_seq1 ?_
  refine wpV_region ?_
  refine ops H' ?_
  refine opsN ?_
  refine wpV_seq1 ?_
  refine wpV_region ?_
  refine ops H' ?_
  obtain ⟨x10, hy', h0'⟩ := Option.bind_eq_some_iff.1 h0'
  refine callG H' (fun _ => []) (W_spec_l01In _ _ _ _ hy') ?_
  refine ops H' ?_
  refine opsN ?_
  refine retN ?_
  obtain rfl := Option.some.inj h0'
  exact outG H' rfl rfl
theorem W_spec_l06Text (w : T_impl_Weave) (v : Int) (r' : (List ByteArray)) (h0' : spec_l06Text w v = some r') : Fn X 126 [.agg [.list false 1 (List.map (rL false 1 (rK .i64)) w.Parents), .list false 4 (List.map (r_T_impl_Body false) w.Bodies)], .one (.sc (.int .i64 v))] [.one (.list true 1 (List.map rS r'))] [] := by
  have H' := And.intro t41 (And.intro R_Li64 (And.intro R_T_impl_Body (And.intro R_b (And.intro R_i64 (R_s)))))
  unfold spec_l06Text at h0'
  refine Fn.start (fn := f126) (N := 12) (res := [.tmp 4]) rfl rfl rfl rfl rfl (by simp) ?_
  refine enterG H' ?_
  refine wpV_seq1 ?_
  refine wpV_region ?_
  refine ops H' ?_
  refine opsN ?_
  refine wpV_seq1 ?_
  obtain ⟨x9, hy_x9, h0'⟩ := Option.bind_eq_some_iff.1 h0'
  obtain ⟨x10, hy_x10, h0'⟩ := Option.bind_eq_some_iff.1 h0'
  obtain ⟨x11, hy_x11, h0'⟩ := Option.bind_eq_some_iff.1 h0'
  refine wpV_J (fun e' => e' = { N := 12, np := 3, nx := 4, sl := [(4, .pl (.one (.ref 3 [])))], ob := [(3, .list true 1 (List.map rS x11))] }) ?_ ?_
  · refine regAnyF [(0, 5, .pl (.agg [.v (.list false 1 (List.map (rL false 1 (rK .i64)) w.Parents)), .v (.list false 4 (List.map (r_T_impl_Body false) w.Bodies))])), (1, 6, .pl (.agg [.v (.list false 1 (List.map (rL false 1 (rK .i64)) w.Parents)), .v (.list false 4 (List.map (r_T_impl_Body false) w.Bodies))])), (2, 7, .pl (.agg [.v (.list false 1 (List.map (rL false 1 (rK .i64)) w.Parents)), .v (.list false 4 (List.map (r_T_impl_Body false) w.Bodies))]))] ?_
    refine (?_ : anyF X ?ops1_0_0 _ _ ?P1_0_0 _)
    have d1_0_0_0' : anyF X ?ops1_0_0 [0, 1, 2, 3, 4, 5, 6, 7] [] ?P1_0_0 { N := 12, np := 3, nx := 4, sl := [(4, .pl (.one (.ref 3 [])))], ob := [(3, .list true 1 (List.map rS x11))] } := by
      refine fend (e2 := { N := 12, np := 3, nx := 4, sl := [(4, .pl (.one (.ref 3 [])))], ob := [(3, .list true 1 (List.map rS x11))] }) [] [] [] [] trivial ⟨rfl, shd [4] [(3, 3)] 4 rfl⟩
    have d1_0_0_1' : anyF X ?ops1_0_0 [0, 1, 2, 3, 4, 5, 6] [] ?P1_0_0 { N := 12, np := 3, nx := 4, sl := [(11, .pl (.one (.ref 3 [])))], ob := [(3, .list true 1 (List.map rS x11))] } := by
      refine fnode [] [.m 7 [] [0, 1, 2, 3, 4, 5, 6, 7] []] [] [(7, false, [], [0, 1, 2, 3, 4, 5, 6, 7])] ⟨?_, trivial⟩
      · refine obM ?_
        refine ops H' ?_
        refine opsV_nil ⟨rfl, .inl ⟨rfl, ?_⟩⟩
        exact anyFShd [4] [(3, 3)] 4 d1_0_0_0'
    have d1_0_0_2' : anyF X ?ops1_0_0 [1, 2, 3, 4, 5] [(0, 5, .pl (.agg [.v (.list false 1 (List.map (rL false 1 (rK .i64)) w.Parents)), .v (.list false 4 (List.map (r_T_impl_Body false) w.Bodies))]))] ?P1_0_0 { N := 12, np := 3, nx := 5, sl := [(2, .pl (.one (.ref 3 []))), (10, .pl (.one (.ref 4 [])))], ob := [(3, .box true [.list false 1 (List.map (rL false 1 (rK .i64)) w.Parents), .list false 4 (List.map (r_T_impl_Body false) w.Bodies)]), (4, .list true 1 (List.map (rK .i64) x10))] } := by
      refine fnode [0] [.q 0 5 (.pl (.agg [.v (.list false 1 (List.map (rL false 1 (rK .i64)) w.Parents)), .v (.list false 4 (List.map (r_T_impl_Body false) w.Bodies))])) [], .m 6 [0] [0, 1, 2, 3, 4, 5, 6] []] [(0, 5)] [(0, true, [], []), (6, false, [0], [0, 1, 2, 3, 4, 5, 6])] ⟨?_, ?_, trivial⟩
      · refine obQ 0 ?_
        refine ops H' ?_
        refine opsV_nil ⟨rfl, shd [5, 2, 10] [(3, 3), (4, 4)] 5 rfl⟩
      · refine obM ?_
        refine callG H' (fun _ => []) (W_spec_l06Lines _ _ _ hy_x11) ?_
        refine opsV_nil ⟨rfl, .inl ⟨rfl, ?_⟩⟩
        exact anyFShd [11] [(5, 3)] 4 d1_0_0_1'
    have d1_0_0_3' : anyF X ?ops1_0_0 [2, 3, 4] [(0, 5, .pl (.agg [.v (.list false 1 (List.map (rL false 1 (rK .i64)) w.Parents)), .v (.list false 4 (List.map (r_T_impl_Body false) w.Bodies))])), (1, 6, .pl (.agg [.v (.list false 1 (List.map (rL false 1 (rK .i64)) w.Parents)), .v (.list false 4 (List.map (r_T_impl_Body false) w.Bodies))]))] ?P1_0_0 { N := 12, np := 3, nx := 5, sl := [(2, .pl (.one (.ref 3 []))), (9, .pl (.one (.ref 4 [])))], ob := [(3, .box true [.list false 1 (List.map (rL false 1 (rK .i64)) w.Parents), .list false 4 (List.map (r_T_impl_Body false) w.Bodies)]), (4, .list true 1 (List.map rB x9))] } := by
      refine fnode [0, 1] [.q 0 5 (.pl (.agg [.v (.list false 1 (List.map (rL false 1 (rK .i64)) w.Parents)), .v (.list false 4 (List.map (r_T_impl_Body false) w.Bodies))])) [], .q 1 6 (.pl (.agg [.v (.list false 1 (List.map (rL false 1 (rK .i64)) w.Parents)), .v (.list false 4 (List.map (r_T_impl_Body false) w.Bodies))])) [], .m 5 [1] [1, 2, 3, 4, 5] [(0, 5, .pl (.agg [.v (.list false 1 (List.map (rL false 1 (rK .i64)) w.Parents)), .v (.list false 4 (List.map (r_T_impl_Body false) w.Bodies))]))]] [(0, 5), (1, 6)] [(0, true, [], []), (1, true, [], []), (5, false, [1], [1, 2, 3, 4, 5])] ⟨?_, ?_, ?_, trivial⟩
      · refine obQ 0 ?_
        refine ops H' ?_
        refine opsV_nil ⟨rfl, shd [5, 2, 9] [(3, 3), (4, 4)] 5 rfl⟩
      · refine obQ 1 ?_
        refine ops H' ?_
        refine opsV_nil ⟨rfl, shd [6, 2, 9] [(3, 3), (4, 4)] 5 rfl⟩
      · refine obM ?_
        refine callG H' (fun _ => []) (W_spec_l06Places _ _ _ hy_x10) ?_
        refine opsV_nil ⟨rfl, .inl ⟨rfl, ?_⟩⟩
        exact anyFShd [2, 10] [(3, 3), (5, 4)] 5 d1_0_0_2'
    have d1_0_0_4' : anyF X ?ops1_0_0 [3] [(0, 5, .pl (.agg [.v (.list false 1 (List.map (rL false 1 (rK .i64)) w.Parents)), .v (.list false 4 (List.map (r_T_impl_Body false) w.Bodies))])), (1, 6, .pl (.agg [.v (.list false 1 (List.map (rL false 1 (rK .i64)) w.Parents)), .v (.list false 4 (List.map (r_T_impl_Body false) w.Bodies))])), (2, 7, .pl (.agg [.v (.list false 1 (List.map (rL false 1 (rK .i64)) w.Parents)), .v (.list false 4 (List.map (r_T_impl_Body false) w.Bodies))]))] ?P1_0_0 { N := 12, np := 3, nx := 4, sl := [(2, .pl (.one (.ref 3 []))), (8, .pl (.one (.v (.sc (.int .i64 v)))))], ob := [(3, .box true [.list false 1 (List.map (rL false 1 (rK .i64)) w.Parents), .list false 4 (List.map (r_T_impl_Body false) w.Bodies)])] } := by
      refine fnode [0, 1, 2] [.q 0 5 (.pl (.agg [.v (.list false 1 (List.map (rL false 1 (rK .i64)) w.Parents)), .v (.list false 4 (List.map (r_T_impl_Body false) w.Bodies))])) [], .q 1 6 (.pl (.agg [.v (.list false 1 (List.map (rL false 1 (rK .i64)) w.Parents)), .v (.list false 4 (List.map (r_T_impl_Body false) w.Bodies))])) [], .q 2 7 (.pl (.agg [.v (.list false 1 (List.map (rL false 1 (rK .i64)) w.Parents)), .v (.list false 4 (List.map (r_T_impl_Body false) w.Bodies))])) [], .m 4 [2] [2, 3, 4] [(0, 5, .pl (.agg [.v (.list false 1 (List.map (rL false 1 (rK .i64)) w.Parents)), .v (.list false 4 (List.map (r_T_impl_Body false) w.Bodies))])), (1, 6, .pl (.agg [.v (.list false 1 (List.map (rL false 1 (rK .i64)) w.Parents)), .v (.list false 4 (List.map (r_T_impl_Body false) w.Bodies))]))]] [(0, 5), (1, 6), (2, 7)] [(0, true, [], []), (1, true, [], []), (2, true, [], []), (4, false, [2], [2, 3, 4])] ⟨?_, ?_, ?_, ?_, trivial⟩
      · refine obQ 0 ?_
        refine ops H' ?_
        refine opsV_nil ⟨rfl, shd [5, 2, 8] [(3, 3)] 4 rfl⟩
      · refine obQ 1 ?_
        refine ops H' ?_
        refine opsV_nil ⟨rfl, shd [6, 2, 8] [(3, 3)] 4 rfl⟩
      · refine obQ 2 ?_
        refine ops H' ?_
        refine opsV_nil ⟨rfl, shd [7, 2, 8] [(3, 3)] 4 rfl⟩
      · refine obM ?_
        refine callG H' (fun _ => []) (W_spec_l06Closure _ _ _ hy_x9) ?_
        refine opsV_nil ⟨rfl, .inl ⟨rfl, ?_⟩⟩
        exact anyFShd [2, 9] [(3, 3), (4, 4)] 5 d1_0_0_3'
    refine fpure H' 3 [3] [(0, 5), (1, 6), (2, 7)] ?_
    exact anyFShd [2, 8] [(3, 3)] 4 d1_0_0_4'
  · rintro e' rfl
    refine contN ?_
    refine retN ?_
    obtain rfl := Option.some.inj h0'
    exact outG H' rfl rfl
theorem W_spec_Extract (w : T_impl_Weave) (v : Int) (r' : (List ByteArray) × Int) (h0' : spec_Extract w v = some r') : Fn X 49 [.agg [.list false 1 (List.map (rL false 1 (rK .i64)) w.Parents), .list false 4 (List.map (r_T_impl_Body false) w.Bodies)], .one (.sc (.int .i64 v))] [.one (.list true 1 (List.map rS r'.1)), .one (.sc (.int .i64 r'.2))] [] := by
  have H' := And.intro t9 (And.intro t41 (And.intro t55 (And.intro R_Li64 (And.intro R_T_impl_Body (And.intro R_i64 (R_s))))))
  unfold spec_Extract at h0'
  refine Fn.start (fn := f49) (N := 18) (res := [.tmp 4, .tmp 5]) rfl rfl rfl rfl rfl (by simp) ?_
  refine enterG H' ?_
  refine wpV_seq1 ?_
  refine wpV_region ?_
  refine ops H' ?_
  refine opsN ?_
  refine wpV_seq1 ?_
  refine wpV_seq1 ?_
  refine wpV_region ?_
  refine ops H' ?_
  obtain ⟨x7, hy', h0'⟩ := Option.bind_eq_some_iff.1 h0'
  refine callG H' (fun _ => []) (W_spec_WeaveOk _ _ hy') ?_
  refine ops H' ?_
  refine opsN ?_
  refine wpV_split (fun hc' => ?_) (fun hc' => ?_)
  · replace h0' := (ifT hc').symm.trans h0'
    refine wpV_seq1 ?_
    refine wpV_region ?_
    refine ops H' ?_
    refine opsN ?_
    refine retN ?_
    obtain rfl := Option.some.inj h0'
    exact outG H' rfl rfl
  · replace h0' := (ifF hc').symm.trans h0'
    refine skipN ?_
    refine wpV_seq1 ?_
    refine wpV_seq1 ?_
    refine wpV_region ?_
    refine ops H' ?_
    obtain ⟨x12, hy', h0'⟩ := Option.bind_eq_some_iff.1 h0'
    refine callG H' (fun _ => []) (W_spec_l06Has _ _ _ hy') ?_
    refine ops H' ?_
    refine opsN ?_
    refine wpV_split (fun hc' => ?_) (fun hc' => ?_)
    · replace h0' := (ifT hc').symm.trans h0'
      refine wpV_seq1 ?_
      refine wpV_region ?_
      refine ops H' ?_
      refine opsN ?_
      refine retN ?_
      obtain rfl := Option.some.inj h0'
      exact outG H' rfl rfl
    · replace h0' := (ifF hc').symm.trans h0'
      refine skipN ?_
      refine wpV_seq1 ?_
      refine wpV_region ?_
      refine ops H' ?_
      obtain ⟨x17, hy', h0'⟩ := Option.bind_eq_some_iff.1 h0'
      refine callG H' (fun _ => []) (W_spec_l06Text _ _ _ hy') ?_
      refine ops H' ?_
      refine opsN ?_
      refine retN ?_
      obtain rfl := Option.some.inj h0'
      exact outG H' rfl rfl
theorem W_impl_inRange (n : Int) (least : Int) (most : Int) (r' : Bool) (h0' : impl_inRange n least most = some r') : Fn X 155 [.one (.sc (.int .i64 n)), .one (.sc (.int .i64 least)), .one (.sc (.int .i64 most))] [.one (.sc (.bool r'))] [] := by
  have H' := t3
  unfold impl_inRange at h0'
  refine Fn.start (fn := f155) (N := 15) (res := [.tmp 6]) rfl rfl rfl rfl rfl (by simp) ?_
  refine enterG H' ?_
  refine wpV_seq1 ?_
  refine wpV_region ?_
  refine ops H' ?_
  refine opsN ?_
  refine wpV_seq1 ?_
  refine wpV_region ?_
  refine ops H' ?_
  obtain ⟨b, gh0', h0'⟩ := Option.bind_eq_some_iff.1 h0'
  refine opsV_cut 4 (fun e' => e' = { N := 15, np := 3, nx := 3, sl := [(14, .pl (.one (.v (.sc (.bool b)))))], ob := [] }) ?_ ?_
  · simp only [List.take_succ_cons, List.take_zero]
    refine opsV_sp (fun hc' => ?_) (fun hc' => ?_)
    · replace gh0' := (ifT hc').symm.trans gh0'
      refine ops H' ?_
      obtain rfl := Option.some.inj gh0'
      refine opsV_nil ?_
      exact ⟨rfl, shd [14] [] 3 rfl⟩
    · replace gh0' := (ifF hc').symm.trans gh0'
      refine ops H' ?_
      obtain rfl := Option.some.inj gh0'
      refine opsV_nil ?_
      exact ⟨rfl, shd [14] [] 3 rfl⟩
  · rintro e' rfl
    simp only [List.drop_succ_cons, List.drop_zero]
    refine ops H' ?_
    refine opsN ?_
    refine retN ?_
    obtain rfl := Option.some.inj h0'
    exact outG H' rfl rfl
theorem W_impl_ascends (list_ : List Int) (below : Int) (r' : Bool) (h0' : impl_ascends list_ below = some r') : Fn X 107 [.one (.list false 1 (List.map (rK .i64) list_)), .one (.sc (.int .i64 below))] [.one (.sc (.bool r'))] [] := by
  have H' := And.intro t3 (And.intro t44 (R_i64))
  unfold impl_ascends at h0'
  refine Fn.start (fn := f107) (N := 33) (res := [.tmp 4]) rfl rfl rfl rfl rfl (by simp) ?_
  refine enterG H' ?_
  refine wpV_seq1 ?_
  refine wpV_region ?_
  refine ops H' ?_
  refine opsN ?_
  refine wpV_seqJ (fun e' => impl_ascends_j1 = some r' ∧ e' = { N := 33, np := 2, nx := 2, sl := [], ob := [] }) ?_ ?_
  · refine wpV_seq1 ?_
    refine wpV_region ?_
    refine ops H' ?_
    refine opsN ?_
    obtain ⟨p, hl', h0'⟩ := Option.bind_eq_some_iff.1 h0'
    refine wpV_block ?_
    refine wpV_loopM (fun x9 e' => e' = { N := 33, np := 2, nx := 2, sl := [(0, .pl (.one (.v (.list false 1 (List.map (rK .i64) list_))))), (1, .pl (.one (.v (.sc (.int .i64 below))))), (7, .pl (.one (.v (.list false 1 (List.map (rK .i64) list_))))), (8, .pl (.one (.v (.sc (.int .i64 (list_.length : Int)))))), (9, .pl (.one (.v (.sc (.int .i64 x9)))))], ob := [] }) hl' (shd [0, 1, 7, 8, 9] [] 2 rfl) ?_
    rintro x9 y1' e' h1' rfl
    replace h1' : impl_ascends_l1 list_ below x9 = some y1' := h1'
    unfold impl_ascends_l1 at h1'
    refine wpV_seq1 ?_
    refine wpV_region ?_
    refine ops H' ?_
    refine opsN ?_
    refine wpV_seq1 ?_
    refine wpV_split (fun hc' => ?_) (fun hc' => ?_)
    · replace h1' := (ifT hc').symm.trans h1'
      refine skipN ?_
      refine wpV_seq1 ?_
      refine wpV_block ?_
      refine wpV_seq1 ?_
      refine wpV_region ?_
      obtain ⟨x, hv', h1'⟩ := Option.bind_eq_some_iff.1 h1'
      have H' := And.intro (geti_f hv') H'
      refine ops H' ?_
      refine opsN ?_
      refine wpV_seq1 ?_
      refine wpV_region ?_
      refine ops H' ?_
      obtain ⟨x17, hy', h1'⟩ := Option.bind_eq_some_iff.1 h1'
      refine callG H' (fun _ => []) (W_impl_inRange _ _ _ _ hy') ?_
      refine ops H' ?_
      obtain ⟨b, gh1', h1'⟩ := Option.bind_eq_some_iff.1 h1'
      refine opsV_cut 12 (fun e' => e' = { N := 33, np := 2, nx := 2, sl := [(0, .pl (.one (.v (.list false 1 (List.map (rK .i64) list_))))), (1, .pl (.one (.v (.sc (.int .i64 below))))), (7, .pl (.one (.v (.list false 1 (List.map (rK .i64) list_))))), (8, .pl (.one (.v (.sc (.int .i64 (list_.length : Int)))))), (9, .pl (.one (.v (.sc (.int .i64 x9))))), (31, .pl (.one (.v (.sc (.bool b)))))], ob := [] }) ?_ ?_
      · simp only [List.take_succ_cons, List.take_zero]
        refine opsV_sp (fun hc' => ?_) (fun hc' => ?_)
        · replace gh1' := (ifF hc').symm.trans gh1'
          refine ops H' ?_
          obtain ⟨b_1, ggh1', gh1'⟩ := Option.bind_eq_some_iff.1 gh1'
          refine opsV_cut 8 (fun e' => e' = { N := 33, np := 2, nx := 2, sl := [(0, .pl (.one (.v (.list false 1 (List.map (rK .i64) list_))))), (1, .pl (.one (.v (.sc (.int .i64 below))))), (7, .pl (.one (.v (.list false 1 (List.map (rK .i64) list_))))), (8, .pl (.one (.v (.sc (.int .i64 (list_.length : Int)))))), (9, .pl (.one (.v (.sc (.int .i64 x9))))), (19, .pl (.one (.v (.sc (.bool false))))), (20, .pl (.one (.v (.sc (.int .i64 x9))))), (21, .pl (.one (.v (.sc (.bool (decide (x9 > 0))))))), (30, .pl (.one (.v (.sc (.bool b_1)))))], ob := [] }) ?_ ?_
          · simp only [List.take_succ_cons, List.take_zero]
            refine opsV_sp (fun hc' => ?_) (fun hc' => ?_)
            · replace ggh1' := (ifT hc').symm.trans ggh1'
              obtain ⟨x_1, hv', ggh1'⟩ := Option.bind_eq_some_iff.1 ggh1'
              have H' := And.intro (geti_f hv') H'
              refine ops H' ?_
              obtain rfl := Option.some.inj ggh1'
              refine opsV_nil ?_
              exact ⟨rfl, shd [0, 1, 7, 8, 9, 19, 20, 21, 30] [] 2 rfl⟩
            · replace ggh1' := (ifF hc').symm.trans ggh1'
              refine ops H' ?_
              obtain rfl := Option.some.inj ggh1'
              refine opsV_nil ?_
              exact ⟨rfl, shd [0, 1, 7, 8, 9, 19, 20, 21, 30] [] 2 rfl⟩
          · rintro e' rfl
            simp only [List.drop_succ_cons, List.drop_zero]
            refine ops H' ?_
            obtain rfl := Option.some.inj gh1'
            refine opsV_nil ?_
            exact ⟨rfl, shd [0, 1, 7, 8, 9, 31] [] 2 rfl⟩
        · replace gh1' := (ifT hc').symm.trans gh1'
          refine ops H' ?_
          obtain rfl := Option.some.inj gh1'
          refine opsV_nil ?_
          exact ⟨rfl, shd [0, 1, 7, 8, 9, 31] [] 2 rfl⟩
      · rintro e' rfl
        simp only [List.drop_succ_cons, List.drop_zero]
        refine opsN ?_
        refine wpV_split (fun hc' => ?_) (fun hc' => ?_)
        · replace h1' := (ifT hc').symm.trans h1'
          refine wpV_seq1 ?_
          refine wpV_region ?_
          refine ops H' ?_
          refine opsN ?_
          refine retN ?_
          obtain rfl := Option.some.inj h1'
          refine ⟨_, rfl, fun hr' => ?_⟩
          subst hr'
          obtain rfl := Option.some.inj h0'
          exact outG H' rfl rfl
        · replace h1' := (ifF hc').symm.trans h1'
          refine skipN ?_
          refine wpV_region ?_
          refine ops H' ?_
          refine opsN ?_
          obtain rfl := Option.some.inj h1'
          exact shd [0, 1, 7, 8, 9] [] 2 ⟨_, rfl, rfl⟩
    · replace h1' := (ifF hc').symm.trans h1'
      refine exitN ?_
      obtain rfl := Option.some.inj h1'
      refine ⟨_, rfl, fun hr' => ?_⟩
      subst hr'
      exact shd [] [] 2 ⟨h0', rfl⟩
  · rintro e' ⟨h0', rfl⟩
    unfold impl_ascends_j1 at h0'
    refine wpV_seq1 ?_
    refine wpV_region ?_
    refine ops H' ?_
    refine opsN ?_
    refine retN ?_
    obtain rfl := Option.some.inj h0'
    exact outG H' rfl rfl
theorem W_impl_GraphOk (parents : List (List Int)) (r' : Bool) (h0' : impl_GraphOk parents = some r') : Fn X 95 [.one (.list false 1 (List.map (rL false 1 (rK .i64)) parents))] [.one (.sc (.bool r'))] [] := by
  have H' := And.intro t3 (And.intro t38 (And.intro t44 (And.intro R_Li64 (R_i64))))
  unfold impl_GraphOk at h0'
  refine Fn.start (fn := f95) (N := 25) (res := [.tmp 2]) rfl rfl rfl rfl rfl (by simp) ?_
  refine enterG H' ?_
  refine wpV_seq1 ?_
  refine wpV_region ?_
  refine ops H' ?_
  refine opsN ?_
  refine wpV_seqJ (fun e' => impl_GraphOk_j1 parents = some r' ∧ e' = { N := 25, np := 1, nx := 1, sl := [(0, .pl (.one (.v (.list false 1 (List.map (rL false 1 (rK .i64)) parents)))))], ob := [] }) ?_ ?_
  · refine wpV_seq1 ?_
    refine wpV_region ?_
    refine ops H' ?_
    refine opsN ?_
    obtain ⟨p, hl', h0'⟩ := Option.bind_eq_some_iff.1 h0'
    refine wpV_block ?_
    refine wpV_loopM (fun x7 e' => e' = { N := 25, np := 1, nx := 1, sl := [(0, .pl (.one (.v (.list false 1 (List.map (rL false 1 (rK .i64)) parents))))), (5, .pl (.one (.v (.list false 1 (List.map (rL false 1 (rK .i64)) parents))))), (6, .pl (.one (.v (.sc (.int .i64 (parents.length : Int)))))), (7, .pl (.one (.v (.sc (.int .i64 x7)))))], ob := [] }) hl' (shd [0, 5, 6, 7] [] 1 rfl) ?_
    rintro x7 y1' e' h1' rfl
    replace h1' : impl_GraphOk_l1 parents x7 = some y1' := h1'
    unfold impl_GraphOk_l1 at h1'
    refine wpV_seq1 ?_
    refine wpV_region ?_
    refine ops H' ?_
    refine opsN ?_
    refine wpV_seq1 ?_
    refine wpV_split (fun hc' => ?_) (fun hc' => ?_)
    · replace h1' := (ifT hc').symm.trans h1'
      refine skipN ?_
      refine wpV_seq1 ?_
      refine wpV_block ?_
      refine wpV_seq1 ?_
      refine wpV_region ?_
      obtain ⟨x, hv', h1'⟩ := Option.bind_eq_some_iff.1 h1'
      have H' := And.intro (geti_f hv') H'
      refine ops H' ?_
      refine opsN ?_
      refine wpV_seq1 ?_
      refine wpV_region ?_
      refine ops H' ?_
      obtain ⟨b, gh1', h1'⟩ := Option.bind_eq_some_iff.1 h1'
      refine opsV_cut 5 (fun e' => e' = { N := 25, np := 1, nx := 1, sl := [(0, .pl (.one (.v (.list false 1 (List.map (rL false 1 (rK .i64)) parents))))), (5, .pl (.one (.v (.list false 1 (List.map (rL false 1 (rK .i64)) parents))))), (6, .pl (.one (.v (.sc (.int .i64 (parents.length : Int)))))), (7, .pl (.one (.v (.sc (.int .i64 x7))))), (20, .pl (.one (.v (.sc (.bool b)))))], ob := [] }) ?_ ?_
      · simp only [List.take_succ_cons, List.take_zero]
        refine opsV_sp (fun hc' => ?_) (fun hc' => ?_)
        · replace gh1' := (ifF hc').symm.trans gh1'
          refine ops H' ?_
          obtain ⟨x18, hy', gh1'⟩ := Option.bind_eq_some_iff.1 gh1'
          refine callG H' (fun _ => []) (W_impl_ascends _ _ _ hy') ?_
          refine ops H' ?_
          obtain rfl := Option.some.inj gh1'
          refine opsV_nil ?_
          exact ⟨rfl, shd [0, 5, 6, 7, 20] [] 1 rfl⟩
        · replace gh1' := (ifT hc').symm.trans gh1'
          refine ops H' ?_
          obtain rfl := Option.some.inj gh1'
          refine opsV_nil ?_
          exact ⟨rfl, shd [0, 5, 6, 7, 20] [] 1 rfl⟩
      · rintro e' rfl
        simp only [List.drop_succ_cons, List.drop_zero]
        refine opsN ?_
        refine wpV_split (fun hc' => ?_) (fun hc' => ?_)
        · replace h1' := (ifT hc').symm.trans h1'
          refine wpV_seq1 ?_
          refine wpV_region ?_
          refine ops H' ?_
          refine opsN ?_
          refine retN ?_
          obtain rfl := Option.some.inj h1'
          refine ⟨_, rfl, fun hr' => ?_⟩
          subst hr'
          obtain rfl := Option.some.inj h0'
          exact outG H' rfl rfl
        · replace h1' := (ifF hc').symm.trans h1'
          refine skipN ?_
          refine wpV_region ?_
          refine ops H' ?_
          refine opsN ?_
          obtain rfl := Option.some.inj h1'
          exact shd [0, 5, 6, 7] [] 1 ⟨_, rfl, rfl⟩
    · replace h1' := (ifF hc').symm.trans h1'
      refine exitN ?_
      obtain rfl := Option.some.inj h1'
      refine ⟨_, rfl, fun hr' => ?_⟩
      subst hr'
      exact shd [0] [] 1 ⟨h0', rfl⟩
  · rintro e' ⟨h0', rfl⟩
    unfold impl_GraphOk_j1 at h0'
    refine wpV_seq1 ?_
    refine wpV_region ?_
    refine ops H' ?_
    refine opsN ?_
    refine retN ?_
    obtain rfl := Option.some.inj h0'
    exact outG H' rfl rfl
theorem W_impl_unionOf (closed : List Int) (list_ : List Int) (r' : Int) (h0' : impl_unionOf closed list_ = some r') : Fn X 122 [.one (.list false 1 (List.map (rK .u64) closed)), .one (.list false 1 (List.map (rK .i64) list_))] [.one (.sc (.int .u64 r'))] [] := by
  have H' := And.intro t3 (And.intro t44 (And.intro t133 (And.intro t137 (And.intro R_i64 (R_u64)))))
  unfold impl_unionOf at h0'
  refine Fn.start (fn := f122) (N := 22) (res := [.tmp 4]) rfl rfl rfl rfl rfl (by simp) ?_
  refine enterG H' ?_
  refine wpV_seq1 ?_
  refine wpV_region ?_
  refine ops H' ?_
  refine opsN ?_
  refine wpV_seq1 ?_
  refine wpV_region ?_
  refine ops H' ?_
  refine opsN ?_
  refine wpV_seqJ (fun e' => ∃ s, impl_unionOf_j1 s = some r' ∧ e' = { N := 22, np := 2, nx := 2, sl := [(5, .pl (.one (.v (.sc (.int .u64 s)))))], ob := [] }) ?_ ?_
  · refine wpV_seq1 ?_
    refine wpV_region ?_
    refine ops H' ?_
    refine opsN ?_
    obtain ⟨p, hl', h0'⟩ := Option.bind_eq_some_iff.1 h0'
    refine wpV_block ?_
    refine wpV_loopM (fun s' e' => ∃ s_1 x10, s' = (s_1, x10) ∧ e' = { N := 22, np := 2, nx := 2, sl := [(0, .pl (.one (.v (.list false 1 (List.map (rK .u64) closed))))), (5, .pl (.one (.v (.sc (.int .u64 s_1))))), (8, .pl (.one (.v (.list false 1 (List.map (rK .i64) list_))))), (9, .pl (.one (.v (.sc (.int .i64 (list_.length : Int)))))), (10, .pl (.one (.v (.sc (.int .i64 x10)))))], ob := [] }) hl' (shd [0, 5, 8, 9, 10] [] 2 ⟨_, _, rfl, rfl⟩) ?_
    rintro s' y1' e' h1' ⟨s_1, x10, rfl, rfl⟩
    replace h1' : impl_unionOf_l1 closed list_ s_1 x10 = some y1' := h1'
    unfold impl_unionOf_l1 at h1'
    refine wpV_seq1 ?_
    refine wpV_region ?_
    refine ops H' ?_
    refine opsN ?_
    refine wpV_seq1 ?_
    refine wpV_split (fun hc' => ?_) (fun hc' => ?_)
    · replace h1' := (ifT hc').symm.trans h1'
      refine skipN ?_
      refine wpV_seq1 ?_
      refine wpV_block ?_
      refine wpV_seq1 ?_
      refine wpV_region ?_
      obtain ⟨x, hv', h1'⟩ := Option.bind_eq_some_iff.1 h1'
      have H' := And.intro (geti_f hv') H'
      refine ops H' ?_
      refine opsN ?_
      refine wpV_region ?_
      obtain ⟨x_1, hv', h1'⟩ := Option.bind_eq_some_iff.1 h1'
      have H' := And.intro (geti_f hv') H'
      refine ops H' ?_
      refine opsN ?_
      refine wpV_region ?_
      refine ops H' ?_
      refine opsN ?_
      obtain rfl := Option.some.inj h1'
      exact shd [0, 5, 8, 9, 10] [] 2 ⟨_, rfl, _, _, rfl, rfl⟩
    · replace h1' := (ifF hc').symm.trans h1'
      refine exitN ?_
      obtain rfl := Option.some.inj h1'
      refine ⟨_, rfl, fun hr' => ?_⟩
      subst hr'
      exact shd [5] [] 2 ⟨_, h0', rfl⟩
  · rintro e' ⟨s, h0', rfl⟩
    unfold impl_unionOf_j1 at h0'
    refine wpV_seq1 ?_
    refine wpV_region ?_
    refine ops H' ?_
    refine opsN ?_
    refine retN ?_
    obtain rfl := Option.some.inj h0'
    exact outG H' rfl rfl
theorem W_impl_closures (parents : List (List Int)) (r' : (List Int)) (h0' : impl_closures parents = some r') : Fn X 96 [.one (.list false 1 (List.map (rL false 1 (rK .i64)) parents))] [.one (.list true 1 (List.map (rK .u64) r'))] [] := by
  have H' := And.intro t3 (And.intro t38 (And.intro t44 (And.intro t133 (And.intro t137 (And.intro t199 (And.intro R_Li64 (And.intro R_i64 (R_u64))))))))
  unfold impl_closures at h0'
  refine Fn.start (fn := f96) (N := 28) (res := [.tmp 2]) rfl rfl rfl rfl rfl (by simp) ?_
  refine enterG H' ?_
  refine wpV_seq1 ?_
  refine wpV_region ?_
  refine ops H' ?_
  refine opsN ?_
  refine wpV_seq1 ?_
  refine wpV_region ?_
  obtain ⟨x8, hv', h0'⟩ := Option.bind_eq_some_iff.1 h0'
  have H' := And.intro (mkl_f hv') H'
  refine ops H' ?_
  refine opsN ?_
  refine wpV_seqJ (fun e' => ∃ out_, impl_closures_j1 out_ = some r' ∧ e' = { N := 28, np := 1, nx := 2, sl := [(3, .pl (.one (.ref 1 [])))], ob := [(1, .list true 1 (List.map (rK .u64) out_))] }) ?_ ?_
  · refine wpV_seq1 ?_
    refine wpV_region ?_
    refine ops H' ?_
    refine opsN ?_
    obtain ⟨p, hl', h0'⟩ := Option.bind_eq_some_iff.1 h0'
    refine wpV_block ?_
    refine wpV_loopM (fun s' e' => ∃ x11 out__1, s' = (x11, out__1) ∧ e' = { N := 28, np := 1, nx := 2, sl := [(3, .pl (.one (.ref 1 []))), (9, .pl (.one (.v (.list false 1 (List.map (rL false 1 (rK .i64)) parents))))), (10, .pl (.one (.v (.sc (.int .i64 (parents.length : Int)))))), (11, .pl (.one (.v (.sc (.int .i64 x11)))))], ob := [(1, .list true 1 (List.map (rK .u64) out__1))] }) hl' (shd [3, 9, 10, 11] [(2, 1)] 2 ⟨_, _, rfl, rfl⟩) ?_
    rintro s' y1' e' h1' ⟨x11, out__1, rfl, rfl⟩
    replace h1' : impl_closures_l1 parents x11 out__1 = some y1' := h1'
    unfold impl_closures_l1 at h1'
    refine wpV_seq1 ?_
    refine wpV_region ?_
    refine ops H' ?_
    refine opsN ?_
    refine wpV_seq1 ?_
    refine wpV_split (fun hc' => ?_) (fun hc' => ?_)
    · replace h1' := (ifT hc').symm.trans h1'
      refine skipN ?_
      refine wpV_seq1 ?_
      refine wpV_block ?_
      refine wpV_seq1 ?_
      refine wpV_region ?_
      obtain ⟨x, hv', h1'⟩ := Option.bind_eq_some_iff.1 h1'
      have H' := And.intro (geti_f hv') H'
      refine ops H' ?_
      refine opsN ?_
      refine wpV_region ?_
      refine ops H' ?_
      obtain ⟨x20, hy', h1'⟩ := Option.bind_eq_some_iff.1 h1'
      refine callG H' (fun _ => []) (W_impl_unionOf _ _ _ hy') ?_
      obtain ⟨u, hv', h1'⟩ := Option.bind_eq_some_iff.1 h1'
      have H' := And.intro (chkF hv') H'
      obtain ⟨x_1, hv', h1'⟩ := Option.bind_eq_some_iff.1 h1'
      have H' := And.intro (geti_f hv') H'
      refine ops H' ?_
      refine opsN ?_
      refine wpV_region ?_
      refine ops H' ?_
      refine opsN ?_
      obtain rfl := Option.some.inj h1'
      exact shd [3, 9, 10, 11] [(1, 1)] 2 ⟨_, rfl, _, _, rfl, rfl⟩
    · replace h1' := (ifF hc').symm.trans h1'
      refine exitN ?_
      obtain rfl := Option.some.inj h1'
      refine ⟨_, rfl, fun hr' => ?_⟩
      subst hr'
      exact shd [3] [(1, 1)] 2 ⟨_, h0', rfl⟩
  · rintro e' ⟨out_, h0', rfl⟩
    unfold impl_closures_j1 at h0'
    refine wpV_seq1 ?_
    refine wpV_region ?_
    refine ops H' ?_
    refine opsN ?_
    refine retN ?_
    obtain rfl := Option.some.inj h0'
    exact outG H' rfl rfl
theorem W_internal_stringslite_IndexByte (s : ByteArray) (c : Int) (r' : Int) (h0' : internal_stringslite_IndexByte s c = some r') : Fn X 216 [.one (.sc (.string s)), .one (.sc (.int .u8 c))] [.one (.sc (.int .i64 r'))] [] := by
  have H' := trivial
  unfold internal_stringslite_IndexByte at h0'
  refine Fn.start (fn := f216) (N := 8) (res := [.tmp 4]) rfl rfl rfl rfl rfl (by simp) ?_
  refine enterG H' ?_
  refine wpV_seq1 ?_
  refine wpV_region ?_
  refine ops H' ?_
  refine opsN ?_
  refine wpV_seq1 ?_
  refine wpV_region ?_
  refine ops H' ?_
  refine opsV_idxB H' ?_
  refine ops H' ?_
  refine opsN ?_
  refine retN ?_
  obtain rfl := Option.some.inj h0'
  exact outG H' rfl rfl
theorem W_internal_stringslite_Index (s : ByteArray) (substr : ByteArray) (r' : Int) (h0' : internal_stringslite_Index s substr = some r') : Fn X 215 [.one (.sc (.string s)), .one (.sc (.string substr))] [.one (.sc (.int .i64 r'))] [] := by
  have H' := And.intro t3 (t9)
  unfold internal_stringslite_Index at h0'
  refine Fn.start (fn := f215) (N := 143) (res := [.tmp 4]) rfl rfl rfl rfl rfl (by simp) ?_
  refine enterG H' ?_
  refine wpV_seq1 ?_
  refine wpV_region ?_
  refine ops H' ?_
  refine opsN ?_
  refine wpV_seq1 ?_
  refine wpV_region ?_
  refine ops H' ?_
  refine opsN ?_
  refine wpV_seq1 ?_
  refine wpV_block ?_
  refine wpV_seq1 ?_
  refine wpV_region ?_
  refine ops H' ?_
  obtain ⟨b, gh0', h0'⟩ := Option.bind_eq_some_iff.1 h0'
  refine opsV_cut 4 (fun e' => e' = { N := 143, np := 2, nx := 2, sl := [(0, .pl (.one (.v (.sc (.string s))))), (1, .pl (.one (.v (.sc (.string substr))))), (5, .pl (.one (.v (.sc (.int .i64 (substr.size : Int)))))), (23, .pl (.one (.v (.sc (.bool b)))))], ob := [] }) ?_ ?_
  · simp only [List.take_succ_cons, List.take_zero]
    refine opsV_sp (fun hc' => ?_) (fun hc' => ?_)
    · replace gh0' := (ifF hc').symm.trans gh0'
      refine ops H' ?_
      obtain rfl := Option.some.inj gh0'
      refine opsV_nil ?_
      exact ⟨rfl, shd [0, 1, 5, 23] [] 2 rfl⟩
    · replace gh0' := (ifT hc').symm.trans gh0'
      refine ops H' ?_
      obtain rfl := Option.some.inj gh0'
      refine opsV_nil ?_
      exact ⟨rfl, shd [0, 1, 5, 23] [] 2 rfl⟩
  · rintro e' rfl
    simp only [List.drop_succ_cons, List.drop_zero]
    refine ops H' ?_
    refine opsN ?_
    refine wpV_split (fun hc' => ?_) (fun hc' => ?_)
    · replace h0' := (ifT hc').symm.trans h0'
      refine wpV_seq1 ?_
      refine wpV_region ?_
      refine ops H' ?_
      refine opsN ?_
      refine retN ?_
      obtain rfl := Option.some.inj h0'
      exact outG H' rfl rfl
    · replace h0' := (ifF hc').symm.trans h0'
      refine wpV_seq1 ?_
      refine wpV_region ?_
      refine ops H' ?_
      refine opsN ?_
      refine wpV_split (fun hc' => ?_) (fun hc' => ?_)
      · replace h0' := (ifT hc').symm.trans h0'
        refine wpV_seq1 ?_
        refine wpV_region ?_
        obtain ⟨x29, hv', h0'⟩ := Option.bind_eq_some_iff.1 h0'
        have H' := And.intro (sidx_f hv') H'
        refine ops H' ?_
        obtain ⟨x30, hy', h0'⟩ := Option.bind_eq_some_iff.1 h0'
        refine callG H' (fun _ => []) (W_internal_stringslite_IndexByte _ _ _ hy') ?_
        refine ops H' ?_
        refine opsN ?_
        refine retN ?_
        obtain rfl := Option.some.inj h0'
        exact outG H' rfl rfl
      · replace h0' := (ifF hc').symm.trans h0'
        refine wpV_seq1 ?_
        refine wpV_region ?_
        refine ops H' ?_
        refine opsN ?_
        refine wpV_split (fun hc' => ?_) (fun hc' => ?_)
        · replace h0' := (ifT hc').symm.trans h0'
          refine wpV_seq1 ?_
          refine wpV_region ?_
          refine ops H' ?_
          refine opsN ?_
          refine retN ?_
          obtain rfl := Option.some.inj h0'
          exact outG H' rfl rfl
        · replace h0' := (ifF hc').symm.trans h0'
          cases h0'
end Go.TV.KFnPicks
