/- Walks. -/
import Derived.Test.YthfhiepgdeghpaaKFnExactBundleTextE
import Derived.Test.YthfhiepgdeghpaaKFnExactBundleTextW1
import Derived.Test.YthfhiepgdeghpaaKFnExactBundleTextW2
set_option linter.unusedVariables false
set_option linter.unusedSimpArgs false
set_option maxHeartbeats 8000000
set_option maxRecDepth 100000
namespace Go.TV.KFnExactBundleText
attribute [local irreducible] anyV wpV opsV Does thenV blockV RetL quV seqV
open Go.Proofs.Try Go.TV.F
theorem W_impl_stepText (x : T_impl_Step) (r' : ByteArray) (h0' : impl_stepText x = some r') : Fn X 79 [.agg [.list false 1 (List.map (rK .i64) x.Parents), .sc (.string x.Note), .list false 4 (List.map (r_T_impl_Change false) x.Changes)]] [.one (.sc (.string r'))] [] := by
  have H' := And.intro t3 (And.intro t5 (And.intro t9 (And.intro t36 (And.intro t44 (And.intro t55 (And.intro t102 (And.intro t104 (And.intro t108 (And.intro t113 (And.intro R_T_impl_Change (And.intro R_i64 (R_s))))))))))))
  unfold impl_stepText at h0'
  refine Fn.start (fn := f79) (N := 60) (res := [.tmp 2]) rfl rfl rfl rfl rfl (by simp) ?_
  refine enterG H' ?_
  refine wpV_seq1 ?_
  refine wpV_region ?_
  refine ops H' ?_
  refine opsN ?_
  refine wpV_seq1 ?_
  refine wpV_region ?_
  refine opsV_bldN H' 5 ?_
  refine opsN ?_
  refine wpV_seq1 ?_
  obtain ⟨x10, hy_x10, h0'⟩ := Option.bind_eq_some_iff.1 h0'
  obtain ⟨x13, hy_x13, h0'⟩ := Option.bind_eq_some_iff.1 h0'
  obtain ⟨t, hv', h0'⟩ := Option.bind_eq_some_iff.1 h0'
  have H' := And.intro (sapp_f hv') H'
  obtain ⟨x18, hy_x18, h0'⟩ := Option.bind_eq_some_iff.1 h0'
  obtain ⟨t_1, hv', h0'⟩ := Option.bind_eq_some_iff.1 h0'
  have H' := And.intro (sapp_f hv') H'
  obtain ⟨x20, hy_x20, h0'⟩ := Option.bind_eq_some_iff.1 h0'
  refine wpV_J (fun e' => e' = { N := 60, np := 3, nx := 5, sl := [(1, .pl (.one (.ref 3 []))), (3, .pl (.one (.ref 4 [])))], ob := [(3, .box true [.list false 1 (List.map (rK .i64) x.Parents), .sc (.string x.Note), .list false 4 (List.map (r_T_impl_Change false) x.Changes)]), (4, .bld 113 5 x20)] }) ?_ ?_
  · refine regAnyF [(1, 9, .pl (.one (.v (.list false 1 (List.map (rK .i64) x.Parents))))), (2, 10, .pl (.one (.v (.sc (.string x10))))), (4, 12, .pl (.one (.v (.sc (.string x.Note))))), (5, 13, .pl (.one (.v (.sc (.string x13))))), (6, 14, .pl (.one (.v (.sc (.string t))))), (8, 16, .pl (.one (.v (.list false 4 (List.map (r_T_impl_Change false) x.Changes))))), (9, 17, .pl (.one (.v (.sc (.int .i64 (x.Changes.length : Int)))))), (10, 18, .pl (.one (.v (.sc (.string x18))))), (11, 19, .pl (.one (.v (.sc (.string t_1)))))] ?_
    refine (?_ : anyF X ?ops2_0 _ _ ?P2_0 _)
    have d2_0_0' : anyF X ?ops2_0 [0, 1, 2, 3, 4, 5, 6, 7, 8, 9, 10, 11, 12] [] ?P2_0 { N := 60, np := 3, nx := 5, sl := [(1, .pl (.one (.ref 3 []))), (3, .pl (.one (.ref 4 [])))], ob := [(3, .box true [.list false 1 (List.map (rK .i64) x.Parents), .sc (.string x.Note), .list false 4 (List.map (r_T_impl_Change false) x.Changes)]), (4, .bld 113 5 x20)] } := by
      refine fend (e2 := { N := 60, np := 3, nx := 5, sl := [(1, .pl (.one (.ref 3 []))), (3, .pl (.one (.ref 4 [])))], ob := [(3, .box true [.list false 1 (List.map (rK .i64) x.Parents), .sc (.string x.Note), .list false 4 (List.map (r_T_impl_Change false) x.Changes)]), (4, .bld 113 5 x20)] }) [] [] [] trivial ⟨rfl, shd [1, 3] [(3, 3), (4, 4)] 5 rfl⟩
    have d2_0_1' : anyF X ?ops2_0 [0, 3, 7] [(1, 9, .pl (.one (.v (.list false 1 (List.map (rK .i64) x.Parents))))), (2, 10, .pl (.one (.v (.sc (.string x10))))), (4, 12, .pl (.one (.v (.sc (.string x.Note))))), (5, 13, .pl (.one (.v (.sc (.string x13))))), (6, 14, .pl (.one (.v (.sc (.string t))))), (8, 16, .pl (.one (.v (.list false 4 (List.map (r_T_impl_Change false) x.Changes))))), (9, 17, .pl (.one (.v (.sc (.int .i64 (x.Changes.length : Int)))))), (10, 18, .pl (.one (.v (.sc (.string x18))))), (11, 19, .pl (.one (.v (.sc (.string t_1)))))] ?P2_0 { N := 60, np := 3, nx := 5, sl := [(1, .pl (.one (.ref 3 []))), (3, .pl (.one (.ref 4 []))), (8, .pl (.one (.addr 3 [] 0 0 0))), (11, .pl (.one (.addr 3 [] 0 0 1))), (15, .pl (.one (.addr 3 [] 0 0 2)))], ob := [(3, .box true [.list false 1 (List.map (rK .i64) x.Parents), .sc (.string x.Note), .list false 4 (List.map (r_T_impl_Change false) x.Changes)]), (4, .bld 113 5 (ByteArray.mk #[]))] } := by
      refine fnode [.q 1 9 (.pl (.one (.v (.list false 1 (List.map (rK .i64) x.Parents))))) [], .q 2 10 (.pl (.one (.v (.sc (.string x10))))) [1], .q 4 12 (.pl (.one (.v (.sc (.string x.Note))))) [], .q 5 13 (.pl (.one (.v (.sc (.string x13))))) [2, 4], .q 6 14 (.pl (.one (.v (.sc (.string t))))) [2, 5], .q 8 16 (.pl (.one (.v (.list false 4 (List.map (r_T_impl_Change false) x.Changes))))) [], .q 9 17 (.pl (.one (.v (.sc (.int .i64 (x.Changes.length : Int)))))) [8], .q 10 18 (.pl (.one (.v (.sc (.string x18))))) [5, 9], .q 11 19 (.pl (.one (.v (.sc (.string t_1))))) [6, 10], .m 12 [10, 11, 5, 9, 6, 2, 4, 8, 1] [0, 1, 2, 3, 4, 5, 6, 7, 8, 9, 10, 11, 12] []] [(1, 9), (2, 10), (4, 12), (5, 13), (6, 14), (8, 16), (9, 17), (10, 18), (11, 19)] [(1, true, [], []), (2, true, [1], []), (4, true, [], []), (5, true, [2, 4], []), (6, true, [2, 5], []), (8, true, [], []), (9, true, [8], []), (10, true, [5, 9], []), (11, true, [6, 10], []), (12, false, [10, 11, 5, 9, 6, 2, 4, 8, 1], [0, 1, 2, 3, 4, 5, 6, 7, 8, 9, 10, 11, 12])] ⟨?_, ?_, ?_, ?_, ?_, ?_, ?_, ?_, ?_, ?_, trivial⟩
      · refine obQ 0 { N := 60, np := 3, nx := 5, sl := [(1, .pl (.one (.ref 3 []))), (3, .pl (.one (.ref 4 []))), (8, .pl (.one (.addr 3 [] 0 0 0))), (11, .pl (.one (.addr 3 [] 0 0 1))), (15, .pl (.one (.addr 3 [] 0 0 2)))], ob := [(3, .box true [.list false 1 (List.map (rK .i64) x.Parents), .sc (.string x.Note), .list false 4 (List.map (r_T_impl_Change false) x.Changes)]), (4, .bld 113 5 (ByteArray.mk #[]))] } ?_
        refine ops H' ?_
        refine opsV_nil ⟨rfl, shd [9, 1, 3, 8, 11, 15] [(3, 3), (4, 4)] 5 rfl⟩
      · refine obQ 1 { N := 60, np := 3, nx := 5, sl := [(9, .pl (.one (.v (.list false 1 (List.map (rK .i64) x.Parents))))), (1, .pl (.one (.ref 3 []))), (3, .pl (.one (.ref 4 []))), (8, .pl (.one (.addr 3 [] 0 0 0))), (11, .pl (.one (.addr 3 [] 0 0 1))), (15, .pl (.one (.addr 3 [] 0 0 2)))], ob := [(3, .box true [.list false 1 (List.map (rK .i64) x.Parents), .sc (.string x.Note), .list false 4 (List.map (r_T_impl_Change false) x.Changes)]), (4, .bld 113 5 (ByteArray.mk #[]))] } ?_
        refine callG H' (fun _ => []) (W_impl_listText _ _ hy_x10) ?_
        refine opsV_nil ⟨rfl, shd [10, 1, 3, 8, 11, 15] [(3, 3), (4, 4)] 5 rfl⟩
      · refine obQ 2 { N := 60, np := 3, nx := 5, sl := [(1, .pl (.one (.ref 3 []))), (3, .pl (.one (.ref 4 []))), (8, .pl (.one (.addr 3 [] 0 0 0))), (11, .pl (.one (.addr 3 [] 0 0 1))), (15, .pl (.one (.addr 3 [] 0 0 2)))], ob := [(3, .box true [.list false 1 (List.map (rK .i64) x.Parents), .sc (.string x.Note), .list false 4 (List.map (r_T_impl_Change false) x.Changes)]), (4, .bld 113 5 (ByteArray.mk #[]))] } ?_
        refine ops H' ?_
        refine opsV_nil ⟨rfl, shd [12, 1, 3, 8, 11, 15] [(3, 3), (4, 4)] 5 rfl⟩
      · refine obQ 3 { N := 60, np := 3, nx := 5, sl := [(10, .pl (.one (.v (.sc (.string x10))))), (12, .pl (.one (.v (.sc (.string x.Note))))), (1, .pl (.one (.ref 3 []))), (3, .pl (.one (.ref 4 []))), (8, .pl (.one (.addr 3 [] 0 0 0))), (11, .pl (.one (.addr 3 [] 0 0 1))), (15, .pl (.one (.addr 3 [] 0 0 2)))], ob := [(3, .box true [.list false 1 (List.map (rK .i64) x.Parents), .sc (.string x.Note), .list false 4 (List.map (r_T_impl_Change false) x.Changes)]), (4, .bld 113 5 (ByteArray.mk #[]))] } ?_
        refine callG H' (fun _ => []) (W_impl_shortText _ _ hy_x13) ?_
        refine opsV_nil ⟨rfl, shd [13, 1, 3, 8, 11, 15] [(3, 3), (4, 4)] 5 rfl⟩
      · refine obQ 4 { N := 60, np := 3, nx := 5, sl := [(10, .pl (.one (.v (.sc (.string x10))))), (13, .pl (.one (.v (.sc (.string x13))))), (1, .pl (.one (.ref 3 []))), (3, .pl (.one (.ref 4 []))), (8, .pl (.one (.addr 3 [] 0 0 0))), (11, .pl (.one (.addr 3 [] 0 0 1))), (15, .pl (.one (.addr 3 [] 0 0 2)))], ob := [(3, .box true [.list false 1 (List.map (rK .i64) x.Parents), .sc (.string x.Note), .list false 4 (List.map (r_T_impl_Change false) x.Changes)]), (4, .bld 113 5 (ByteArray.mk #[]))] } ?_
        refine ops H' ?_
        refine opsV_nil ⟨rfl, shd [14, 1, 3, 8, 11, 15] [(3, 3), (4, 4)] 5 rfl⟩
      · refine obQ 5 { N := 60, np := 3, nx := 5, sl := [(1, .pl (.one (.ref 3 []))), (3, .pl (.one (.ref 4 []))), (8, .pl (.one (.addr 3 [] 0 0 0))), (11, .pl (.one (.addr 3 [] 0 0 1))), (15, .pl (.one (.addr 3 [] 0 0 2)))], ob := [(3, .box true [.list false 1 (List.map (rK .i64) x.Parents), .sc (.string x.Note), .list false 4 (List.map (r_T_impl_Change false) x.Changes)]), (4, .bld 113 5 (ByteArray.mk #[]))] } ?_
        refine ops H' ?_
        refine opsV_nil ⟨rfl, shd [16, 1, 3, 8, 11, 15] [(3, 3), (4, 4)] 5 rfl⟩
      · refine obQ 6 { N := 60, np := 3, nx := 5, sl := [(16, .pl (.one (.v (.list false 4 (List.map (r_T_impl_Change false) x.Changes))))), (1, .pl (.one (.ref 3 []))), (3, .pl (.one (.ref 4 []))), (8, .pl (.one (.addr 3 [] 0 0 0))), (11, .pl (.one (.addr 3 [] 0 0 1))), (15, .pl (.one (.addr 3 [] 0 0 2)))], ob := [(3, .box true [.list false 1 (List.map (rK .i64) x.Parents), .sc (.string x.Note), .list false 4 (List.map (r_T_impl_Change false) x.Changes)]), (4, .bld 113 5 (ByteArray.mk #[]))] } ?_
        refine ops H' ?_
        refine opsV_nil ⟨rfl, shd [17, 1, 3, 8, 11, 15] [(3, 3), (4, 4)] 5 rfl⟩
      · refine obQ 7 { N := 60, np := 3, nx := 5, sl := [(13, .pl (.one (.v (.sc (.string x13))))), (17, .pl (.one (.v (.sc (.int .i64 (x.Changes.length : Int)))))), (1, .pl (.one (.ref 3 []))), (3, .pl (.one (.ref 4 []))), (8, .pl (.one (.addr 3 [] 0 0 0))), (11, .pl (.one (.addr 3 [] 0 0 1))), (15, .pl (.one (.addr 3 [] 0 0 2)))], ob := [(3, .box true [.list false 1 (List.map (rK .i64) x.Parents), .sc (.string x.Note), .list false 4 (List.map (r_T_impl_Change false) x.Changes)]), (4, .bld 113 5 (ByteArray.mk #[]))] } ?_
        refine callG H' (fun _ => []) (W_impl_varText _ _ hy_x18) ?_
        refine opsV_nil ⟨rfl, shd [18, 1, 3, 8, 11, 15] [(3, 3), (4, 4)] 5 rfl⟩
      · refine obQ 8 { N := 60, np := 3, nx := 5, sl := [(14, .pl (.one (.v (.sc (.string t))))), (18, .pl (.one (.v (.sc (.string x18))))), (1, .pl (.one (.ref 3 []))), (3, .pl (.one (.ref 4 []))), (8, .pl (.one (.addr 3 [] 0 0 0))), (11, .pl (.one (.addr 3 [] 0 0 1))), (15, .pl (.one (.addr 3 [] 0 0 2)))], ob := [(3, .box true [.list false 1 (List.map (rK .i64) x.Parents), .sc (.string x.Note), .list false 4 (List.map (r_T_impl_Change false) x.Changes)]), (4, .bld 113 5 (ByteArray.mk #[]))] } ?_
        refine ops H' ?_
        refine opsV_nil ⟨rfl, shd [19, 1, 3, 8, 11, 15] [(3, 3), (4, 4)] 5 rfl⟩
      · refine obM { N := 60, np := 3, nx := 5, sl := [(9, .pl (.one (.v (.list false 1 (List.map (rK .i64) x.Parents))))), (10, .pl (.one (.v (.sc (.string x10))))), (12, .pl (.one (.v (.sc (.string x.Note))))), (13, .pl (.one (.v (.sc (.string x13))))), (14, .pl (.one (.v (.sc (.string t))))), (16, .pl (.one (.v (.list false 4 (List.map (r_T_impl_Change false) x.Changes))))), (17, .pl (.one (.v (.sc (.int .i64 (x.Changes.length : Int)))))), (18, .pl (.one (.v (.sc (.string x18))))), (19, .pl (.one (.v (.sc (.string t_1))))), (1, .pl (.one (.ref 3 []))), (3, .pl (.one (.ref 4 []))), (8, .pl (.one (.addr 3 [] 0 0 0))), (11, .pl (.one (.addr 3 [] 0 0 1))), (15, .pl (.one (.addr 3 [] 0 0 2)))], ob := [(3, .box true [.list false 1 (List.map (rK .i64) x.Parents), .sc (.string x.Note), .list false 4 (List.map (r_T_impl_Change false) x.Changes)]), (4, .bld 113 5 (ByteArray.mk #[]))] } ?_
        refine callG H' (fun _ => [0]) (W_strings_Builder_WriteString _ _ _ hy_x20) ?_
        refine opsV_nil ⟨rfl, .inl ⟨rfl, ?_⟩⟩
        exact anyFShd [1, 3] [(3, 3), (4, 4)] 5 d2_0_0'
    refine fpure H' 0 [0] [(1, 9), (2, 10), (4, 12), (5, 13), (6, 14), (8, 16), (9, 17), (10, 18), (11, 19)] ?_
    refine fpure H' 3 [0, 3] [(1, 9), (2, 10), (4, 12), (5, 13), (6, 14), (8, 16), (9, 17), (10, 18), (11, 19)] ?_
    refine fpure H' 7 [0, 3, 7] [(1, 9), (2, 10), (4, 12), (5, 13), (6, 14), (8, 16), (9, 17), (10, 18), (11, 19)] ?_
    exact anyFShd [1, 3, 8, 11, 15] [(3, 3), (4, 4)] 5 d2_0_1'
  · rintro e' rfl
    refine contN ?_
    refine wpV_seqJ (fun e' => ∃ b, impl_stepText_j1 b = some r' ∧ e' = { N := 60, np := 3, nx := 4, sl := [(3, .pl (.one (.ref 3 [])))], ob := [(3, .bld 113 5 b)] }) ?_ ?_
    · refine wpV_seq1 ?_
      refine wpV_region ?_
      refine ops H' ?_
      refine opsN ?_
      obtain ⟨p, hl', h0'⟩ := Option.bind_eq_some_iff.1 h0'
      refine wpV_block ?_
      refine wpV_loopM (fun s' e' => ∃ x24 b_1, s' = (x24, b_1) ∧ e' = { N := 60, np := 3, nx := 4, sl := [(3, .pl (.one (.ref 3 []))), (22, .pl (.one (.v (.list false 4 (List.map (r_T_impl_Change false) x.Changes))))), (23, .pl (.one (.v (.sc (.int .i64 (x.Changes.length : Int)))))), (24, .pl (.one (.v (.sc (.int .i64 x24)))))], ob := [(3, .bld 113 5 b_1)] }) hl' (shd [3, 22, 23, 24] [(4, 3)] 4 ⟨_, _, rfl, rfl⟩) ?_
      rintro s' y1' e' h1' ⟨x24, b_1, rfl, rfl⟩
      replace h1' : impl_stepText_l1 x x24 b_1 = some y1' := h1'
      unfold impl_stepText_l1 at h1'
      refine wpV_seq1 ?_
      refine wpV_region ?_
      refine ops H' ?_
      refine opsN ?_
      refine wpV_seq1 ?_
      refine wpV_split (fun hc' => ?_) (fun hc' => ?_)
      · replace h1' := (ifT hc').symm.trans h1'
        refine skipN ?_
        refine wpV_seqJ (fun e' => ∃ b_2, impl_stepText_j2 x24 b_2 = some y1' ∧ e' = { N := 60, np := 3, nx := 4, sl := [(3, .pl (.one (.ref 3 []))), (22, .pl (.one (.v (.list false 4 (List.map (r_T_impl_Change false) x.Changes))))), (23, .pl (.one (.v (.sc (.int .i64 (x.Changes.length : Int)))))), (24, .pl (.one (.v (.sc (.int .i64 x24)))))], ob := [(3, .bld 113 5 b_2)] }) ?_ ?_
        · refine wpV_block ?_
          refine wpV_seq1 ?_
          refine wpV_region ?_
          obtain ⟨x_1, hv', h1'⟩ := Option.bind_eq_some_iff.1 h1'
          have H' := And.intro (geti_f hv') H'
          refine ops H' ?_
          refine opsN ?_
          refine wpV_seq1 ?_
          have H' := And.intro (show bytesOf [[V.sc (.int .u8 (wk .u8 x_1.Kind))]] = some [(wk .u8 x_1.Kind)] from bytesOf_rK [(wk .u8 x_1.Kind)]) H'
          obtain ⟨x35, hy_x35, h1'⟩ := Option.bind_eq_some_iff.1 h1'
          obtain ⟨t_2, hv', h1'⟩ := Option.bind_eq_some_iff.1 h1'
          have H' := And.intro (sapp_f hv') H'
          obtain ⟨x39, hy_x39, h1'⟩ := Option.bind_eq_some_iff.1 h1'
          obtain ⟨t_3, hv', h1'⟩ := Option.bind_eq_some_iff.1 h1'
          have H' := And.intro (sapp_f hv') H'
          obtain ⟨x44, hy_x44, h1'⟩ := Option.bind_eq_some_iff.1 h1'
          obtain ⟨t_4, hv', h1'⟩ := Option.bind_eq_some_iff.1 h1'
          have H' := And.intro (sapp_f hv') H'
          obtain ⟨x46, hy_x46, h1'⟩ := Option.bind_eq_some_iff.1 h1'
          refine wpV_J (fun e' => e' = { N := 60, np := 3, nx := 5, sl := [(3, .pl (.one (.ref 3 []))), (5, .pl (.one (.ref 4 []))), (22, .pl (.one (.v (.list false 4 (List.map (r_T_impl_Change false) x.Changes))))), (23, .pl (.one (.v (.sc (.int .i64 (x.Changes.length : Int)))))), (24, .pl (.one (.v (.sc (.int .i64 x24)))))], ob := [(3, .bld 113 5 x46), (4, .box true [.sc (.int .i64 x_1.Kind), .sc (.string x_1.Path), .sc (.string x_1.To), .list false 1 (List.map rS x_1.Lines)])] }) ?_ ?_
          · refine regAnyF [(1, 29, .pl (.one (.v (.sc (.int .i64 x_1.Kind))))), (2, 30, .pl (.one (.v (.sc (.int .u8 (wk .u8 x_1.Kind)))))), (4, 32, .pl (.one (.v (.sc (.string (mkS [(wk .u8 x_1.Kind)])))))), (6, 34, .pl (.one (.v (.sc (.string x_1.Path))))), (7, 35, .pl (.one (.v (.sc (.string x35))))), (8, 36, .pl (.one (.v (.sc (.string t_2))))), (10, 38, .pl (.one (.v (.sc (.string x_1.To))))), (11, 39, .pl (.one (.v (.sc (.string x39))))), (12, 40, .pl (.one (.v (.sc (.string t_3))))), (14, 42, .pl (.one (.v (.list false 1 (List.map rS x_1.Lines))))), (15, 43, .pl (.one (.v (.sc (.int .i64 (x_1.Lines.length : Int)))))), (16, 44, .pl (.one (.v (.sc (.string x44))))), (17, 45, .pl (.one (.v (.sc (.string t_4)))))] ?_
            refine (?_ : anyF X ?ops6_1 _ _ ?P6_1 _)
            have d6_1_0' : anyF X ?ops6_1 [0, 1, 2, 3, 4, 5, 6, 7, 8, 9, 10, 11, 12, 13, 14, 15, 16, 17, 18] [] ?P6_1 { N := 60, np := 3, nx := 5, sl := [(3, .pl (.one (.ref 3 []))), (5, .pl (.one (.ref 4 []))), (22, .pl (.one (.v (.list false 4 (List.map (r_T_impl_Change false) x.Changes))))), (23, .pl (.one (.v (.sc (.int .i64 (x.Changes.length : Int)))))), (24, .pl (.one (.v (.sc (.int .i64 x24)))))], ob := [(3, .bld 113 5 x46), (4, .box true [.sc (.int .i64 x_1.Kind), .sc (.string x_1.Path), .sc (.string x_1.To), .list false 1 (List.map rS x_1.Lines)])] } := by
              refine fend (e2 := { N := 60, np := 3, nx := 5, sl := [(3, .pl (.one (.ref 3 []))), (5, .pl (.one (.ref 4 []))), (22, .pl (.one (.v (.list false 4 (List.map (r_T_impl_Change false) x.Changes))))), (23, .pl (.one (.v (.sc (.int .i64 (x.Changes.length : Int)))))), (24, .pl (.one (.v (.sc (.int .i64 x24)))))], ob := [(3, .bld 113 5 x46), (4, .box true [.sc (.int .i64 x_1.Kind), .sc (.string x_1.Path), .sc (.string x_1.To), .list false 1 (List.map rS x_1.Lines)])] }) [] [] [] trivial ⟨rfl, shd [3, 5, 22, 23, 24] [(3, 3), (4, 4)] 5 rfl⟩
            have d6_1_1' : anyF X ?ops6_1 [0, 1, 2, 3, 5, 9, 13] [(4, 32, .pl (.one (.v (.sc (.string (mkS [(wk .u8 x_1.Kind)])))))), (6, 34, .pl (.one (.v (.sc (.string x_1.Path))))), (7, 35, .pl (.one (.v (.sc (.string x35))))), (8, 36, .pl (.one (.v (.sc (.string t_2))))), (10, 38, .pl (.one (.v (.sc (.string x_1.To))))), (11, 39, .pl (.one (.v (.sc (.string x39))))), (12, 40, .pl (.one (.v (.sc (.string t_3))))), (14, 42, .pl (.one (.v (.list false 1 (List.map rS x_1.Lines))))), (15, 43, .pl (.one (.v (.sc (.int .i64 (x_1.Lines.length : Int)))))), (16, 44, .pl (.one (.v (.sc (.string x44))))), (17, 45, .pl (.one (.v (.sc (.string t_4)))))] ?P6_1 { N := 60, np := 3, nx := 6, sl := [(3, .pl (.one (.ref 3 []))), (5, .pl (.one (.ref 4 []))), (22, .pl (.one (.v (.list false 4 (List.map (r_T_impl_Change false) x.Changes))))), (23, .pl (.one (.v (.sc (.int .i64 (x.Changes.length : Int)))))), (24, .pl (.one (.v (.sc (.int .i64 x24))))), (31, .pl (.one (.ref 5 []))), (33, .pl (.one (.addr 4 [] 0 0 1))), (37, .pl (.one (.addr 4 [] 0 0 2))), (41, .pl (.one (.addr 4 [] 0 0 3)))], ob := [(3, .bld 113 5 b_1), (4, .box true [.sc (.int .i64 x_1.Kind), .sc (.string x_1.Path), .sc (.string x_1.To), .list false 1 (List.map rS x_1.Lines)]), (5, .list true 1 (List.map (rK .u8) [(wk .u8 x_1.Kind)]))] } := by
              refine fnode [.q 4 32 (.pl (.one (.v (.sc (.string (mkS [(wk .u8 x_1.Kind)])))))) [], .q 6 34 (.pl (.one (.v (.sc (.string x_1.Path))))) [], .q 7 35 (.pl (.one (.v (.sc (.string x35))))) [6], .q 8 36 (.pl (.one (.v (.sc (.string t_2))))) [4, 7], .q 10 38 (.pl (.one (.v (.sc (.string x_1.To))))) [], .q 11 39 (.pl (.one (.v (.sc (.string x39))))) [7, 10], .q 12 40 (.pl (.one (.v (.sc (.string t_3))))) [8, 11], .q 14 42 (.pl (.one (.v (.list false 1 (List.map rS x_1.Lines))))) [], .q 15 43 (.pl (.one (.v (.sc (.int .i64 (x_1.Lines.length : Int)))))) [14], .q 16 44 (.pl (.one (.v (.sc (.string x44))))) [11, 15], .q 17 45 (.pl (.one (.v (.sc (.string t_4))))) [12, 16], .m 18 [16, 17, 11, 15, 12, 7, 10, 14, 8, 6, 4] [0, 1, 2, 3, 4, 5, 6, 7, 8, 9, 10, 11, 12, 13, 14, 15, 16, 17, 18] []] [(4, 32), (6, 34), (7, 35), (8, 36), (10, 38), (11, 39), (12, 40), (14, 42), (15, 43), (16, 44), (17, 45)] [(4, true, [], []), (6, true, [], []), (7, true, [6], []), (8, true, [4, 7], []), (10, true, [], []), (11, true, [7, 10], []), (12, true, [8, 11], []), (14, true, [], []), (15, true, [14], []), (16, true, [11, 15], []), (17, true, [12, 16], []), (18, false, [16, 17, 11, 15, 12, 7, 10, 14, 8, 6, 4], [0, 1, 2, 3, 4, 5, 6, 7, 8, 9, 10, 11, 12, 13, 14, 15, 16, 17, 18])] ⟨?_, ?_, ?_, ?_, ?_, ?_, ?_, ?_, ?_, ?_, ?_, ?_, trivial⟩
              · refine obQ 0 { N := 60, np := 3, nx := 6, sl := [(3, .pl (.one (.ref 3 []))), (5, .pl (.one (.ref 4 []))), (22, .pl (.one (.v (.list false 4 (List.map (r_T_impl_Change false) x.Changes))))), (23, .pl (.one (.v (.sc (.int .i64 (x.Changes.length : Int)))))), (24, .pl (.one (.v (.sc (.int .i64 x24))))), (31, .pl (.one (.ref 5 []))), (33, .pl (.one (.addr 4 [] 0 0 1))), (37, .pl (.one (.addr 4 [] 0 0 2))), (41, .pl (.one (.addr 4 [] 0 0 3)))], ob := [(3, .bld 113 5 b_1), (4, .box true [.sc (.int .i64 x_1.Kind), .sc (.string x_1.Path), .sc (.string x_1.To), .list false 1 (List.map rS x_1.Lines)]), (5, .list true 1 (List.map (rK .u8) [(wk .u8 x_1.Kind)]))] } ?_
                refine ops H' ?_
                refine opsV_nil ⟨rfl, shd [32, 3, 5, 22, 23, 24, 31, 33, 37, 41] [(3, 3), (4, 4), (5, 5)] 6 rfl⟩
              · refine obQ 1 { N := 60, np := 3, nx := 6, sl := [(3, .pl (.one (.ref 3 []))), (5, .pl (.one (.ref 4 []))), (22, .pl (.one (.v (.list false 4 (List.map (r_T_impl_Change false) x.Changes))))), (23, .pl (.one (.v (.sc (.int .i64 (x.Changes.length : Int)))))), (24, .pl (.one (.v (.sc (.int .i64 x24))))), (31, .pl (.one (.ref 5 []))), (33, .pl (.one (.addr 4 [] 0 0 1))), (37, .pl (.one (.addr 4 [] 0 0 2))), (41, .pl (.one (.addr 4 [] 0 0 3)))], ob := [(3, .bld 113 5 b_1), (4, .box true [.sc (.int .i64 x_1.Kind), .sc (.string x_1.Path), .sc (.string x_1.To), .list false 1 (List.map rS x_1.Lines)]), (5, .list true 1 (List.map (rK .u8) [(wk .u8 x_1.Kind)]))] } ?_
                refine ops H' ?_
                refine opsV_nil ⟨rfl, shd [34, 3, 5, 22, 23, 24, 31, 33, 37, 41] [(3, 3), (4, 4), (5, 5)] 6 rfl⟩
              · refine obQ 2 { N := 60, np := 3, nx := 6, sl := [(34, .pl (.one (.v (.sc (.string x_1.Path))))), (3, .pl (.one (.ref 3 []))), (5, .pl (.one (.ref 4 []))), (22, .pl (.one (.v (.list false 4 (List.map (r_T_impl_Change false) x.Changes))))), (23, .pl (.one (.v (.sc (.int .i64 (x.Changes.length : Int)))))), (24, .pl (.one (.v (.sc (.int .i64 x24))))), (31, .pl (.one (.ref 5 []))), (33, .pl (.one (.addr 4 [] 0 0 1))), (37, .pl (.one (.addr 4 [] 0 0 2))), (41, .pl (.one (.addr 4 [] 0 0 3)))], ob := [(3, .bld 113 5 b_1), (4, .box true [.sc (.int .i64 x_1.Kind), .sc (.string x_1.Path), .sc (.string x_1.To), .list false 1 (List.map rS x_1.Lines)]), (5, .list true 1 (List.map (rK .u8) [(wk .u8 x_1.Kind)]))] } ?_
                refine callG H' (fun _ => []) (W_impl_shortText _ _ hy_x35) ?_
                refine opsV_nil ⟨rfl, shd [35, 3, 5, 22, 23, 24, 31, 33, 37, 41] [(3, 3), (4, 4), (5, 5)] 6 rfl⟩
              · refine obQ 3 { N := 60, np := 3, nx := 6, sl := [(32, .pl (.one (.v (.sc (.string (mkS [(wk .u8 x_1.Kind)])))))), (35, .pl (.one (.v (.sc (.string x35))))), (3, .pl (.one (.ref 3 []))), (5, .pl (.one (.ref 4 []))), (22, .pl (.one (.v (.list false 4 (List.map (r_T_impl_Change false) x.Changes))))), (23, .pl (.one (.v (.sc (.int .i64 (x.Changes.length : Int)))))), (24, .pl (.one (.v (.sc (.int .i64 x24))))), (31, .pl (.one (.ref 5 []))), (33, .pl (.one (.addr 4 [] 0 0 1))), (37, .pl (.one (.addr 4 [] 0 0 2))), (41, .pl (.one (.addr 4 [] 0 0 3)))], ob := [(3, .bld 113 5 b_1), (4, .box true [.sc (.int .i64 x_1.Kind), .sc (.string x_1.Path), .sc (.string x_1.To), .list false 1 (List.map rS x_1.Lines)]), (5, .list true 1 (List.map (rK .u8) [(wk .u8 x_1.Kind)]))] } ?_
                refine ops H' ?_
                refine opsV_nil ⟨rfl, shd [36, 3, 5, 22, 23, 24, 31, 33, 37, 41] [(3, 3), (4, 4), (5, 5)] 6 rfl⟩
              · refine obQ 4 { N := 60, np := 3, nx := 6, sl := [(3, .pl (.one (.ref 3 []))), (5, .pl (.one (.ref 4 []))), (22, .pl (.one (.v (.list false 4 (List.map (r_T_impl_Change false) x.Changes))))), (23, .pl (.one (.v (.sc (.int .i64 (x.Changes.length : Int)))))), (24, .pl (.one (.v (.sc (.int .i64 x24))))), (31, .pl (.one (.ref 5 []))), (33, .pl (.one (.addr 4 [] 0 0 1))), (37, .pl (.one (.addr 4 [] 0 0 2))), (41, .pl (.one (.addr 4 [] 0 0 3)))], ob := [(3, .bld 113 5 b_1), (4, .box true [.sc (.int .i64 x_1.Kind), .sc (.string x_1.Path), .sc (.string x_1.To), .list false 1 (List.map rS x_1.Lines)]), (5, .list true 1 (List.map (rK .u8) [(wk .u8 x_1.Kind)]))] } ?_
                refine ops H' ?_
                refine opsV_nil ⟨rfl, shd [38, 3, 5, 22, 23, 24, 31, 33, 37, 41] [(3, 3), (4, 4), (5, 5)] 6 rfl⟩
              · refine obQ 5 { N := 60, np := 3, nx := 6, sl := [(35, .pl (.one (.v (.sc (.string x35))))), (38, .pl (.one (.v (.sc (.string x_1.To))))), (3, .pl (.one (.ref 3 []))), (5, .pl (.one (.ref 4 []))), (22, .pl (.one (.v (.list false 4 (List.map (r_T_impl_Change false) x.Changes))))), (23, .pl (.one (.v (.sc (.int .i64 (x.Changes.length : Int)))))), (24, .pl (.one (.v (.sc (.int .i64 x24))))), (31, .pl (.one (.ref 5 []))), (33, .pl (.one (.addr 4 [] 0 0 1))), (37, .pl (.one (.addr 4 [] 0 0 2))), (41, .pl (.one (.addr 4 [] 0 0 3)))], ob := [(3, .bld 113 5 b_1), (4, .box true [.sc (.int .i64 x_1.Kind), .sc (.string x_1.Path), .sc (.string x_1.To), .list false 1 (List.map rS x_1.Lines)]), (5, .list true 1 (List.map (rK .u8) [(wk .u8 x_1.Kind)]))] } ?_
                refine callG H' (fun _ => []) (W_impl_shortText _ _ hy_x39) ?_
                refine opsV_nil ⟨rfl, shd [39, 3, 5, 22, 23, 24, 31, 33, 37, 41] [(3, 3), (4, 4), (5, 5)] 6 rfl⟩
              · refine obQ 6 { N := 60, np := 3, nx := 6, sl := [(36, .pl (.one (.v (.sc (.string t_2))))), (39, .pl (.one (.v (.sc (.string x39))))), (3, .pl (.one (.ref 3 []))), (5, .pl (.one (.ref 4 []))), (22, .pl (.one (.v (.list false 4 (List.map (r_T_impl_Change false) x.Changes))))), (23, .pl (.one (.v (.sc (.int .i64 (x.Changes.length : Int)))))), (24, .pl (.one (.v (.sc (.int .i64 x24))))), (31, .pl (.one (.ref 5 []))), (33, .pl (.one (.addr 4 [] 0 0 1))), (37, .pl (.one (.addr 4 [] 0 0 2))), (41, .pl (.one (.addr 4 [] 0 0 3)))], ob := [(3, .bld 113 5 b_1), (4, .box true [.sc (.int .i64 x_1.Kind), .sc (.string x_1.Path), .sc (.string x_1.To), .list false 1 (List.map rS x_1.Lines)]), (5, .list true 1 (List.map (rK .u8) [(wk .u8 x_1.Kind)]))] } ?_
                refine ops H' ?_
                refine opsV_nil ⟨rfl, shd [40, 3, 5, 22, 23, 24, 31, 33, 37, 41] [(3, 3), (4, 4), (5, 5)] 6 rfl⟩
              · refine obQ 7 { N := 60, np := 3, nx := 6, sl := [(3, .pl (.one (.ref 3 []))), (5, .pl (.one (.ref 4 []))), (22, .pl (.one (.v (.list false 4 (List.map (r_T_impl_Change false) x.Changes))))), (23, .pl (.one (.v (.sc (.int .i64 (x.Changes.length : Int)))))), (24, .pl (.one (.v (.sc (.int .i64 x24))))), (31, .pl (.one (.ref 5 []))), (33, .pl (.one (.addr 4 [] 0 0 1))), (37, .pl (.one (.addr 4 [] 0 0 2))), (41, .pl (.one (.addr 4 [] 0 0 3)))], ob := [(3, .bld 113 5 b_1), (4, .box true [.sc (.int .i64 x_1.Kind), .sc (.string x_1.Path), .sc (.string x_1.To), .list false 1 (List.map rS x_1.Lines)]), (5, .list true 1 (List.map (rK .u8) [(wk .u8 x_1.Kind)]))] } ?_
                refine ops H' ?_
                refine opsV_nil ⟨rfl, shd [42, 3, 5, 22, 23, 24, 31, 33, 37, 41] [(3, 3), (4, 4), (5, 5)] 6 rfl⟩
              · refine obQ 8 { N := 60, np := 3, nx := 6, sl := [(42, .pl (.one (.v (.list false 1 (List.map rS x_1.Lines))))), (3, .pl (.one (.ref 3 []))), (5, .pl (.one (.ref 4 []))), (22, .pl (.one (.v (.list false 4 (List.map (r_T_impl_Change false) x.Changes))))), (23, .pl (.one (.v (.sc (.int .i64 (x.Changes.length : Int)))))), (24, .pl (.one (.v (.sc (.int .i64 x24))))), (31, .pl (.one (.ref 5 []))), (33, .pl (.one (.addr 4 [] 0 0 1))), (37, .pl (.one (.addr 4 [] 0 0 2))), (41, .pl (.one (.addr 4 [] 0 0 3)))], ob := [(3, .bld 113 5 b_1), (4, .box true [.sc (.int .i64 x_1.Kind), .sc (.string x_1.Path), .sc (.string x_1.To), .list false 1 (List.map rS x_1.Lines)]), (5, .list true 1 (List.map (rK .u8) [(wk .u8 x_1.Kind)]))] } ?_
                refine ops H' ?_
                refine opsV_nil ⟨rfl, shd [43, 3, 5, 22, 23, 24, 31, 33, 37, 41] [(3, 3), (4, 4), (5, 5)] 6 rfl⟩
              · refine obQ 9 { N := 60, np := 3, nx := 6, sl := [(39, .pl (.one (.v (.sc (.string x39))))), (43, .pl (.one (.v (.sc (.int .i64 (x_1.Lines.length : Int)))))), (3, .pl (.one (.ref 3 []))), (5, .pl (.one (.ref 4 []))), (22, .pl (.one (.v (.list false 4 (List.map (r_T_impl_Change false) x.Changes))))), (23, .pl (.one (.v (.sc (.int .i64 (x.Changes.length : Int)))))), (24, .pl (.one (.v (.sc (.int .i64 x24))))), (31, .pl (.one (.ref 5 []))), (33, .pl (.one (.addr 4 [] 0 0 1))), (37, .pl (.one (.addr 4 [] 0 0 2))), (41, .pl (.one (.addr 4 [] 0 0 3)))], ob := [(3, .bld 113 5 b_1), (4, .box true [.sc (.int .i64 x_1.Kind), .sc (.string x_1.Path), .sc (.string x_1.To), .list false 1 (List.map rS x_1.Lines)]), (5, .list true 1 (List.map (rK .u8) [(wk .u8 x_1.Kind)]))] } ?_
                refine callG H' (fun _ => []) (W_impl_varText _ _ hy_x44) ?_
                refine opsV_nil ⟨rfl, shd [44, 3, 5, 22, 23, 24, 31, 33, 37, 41] [(3, 3), (4, 4), (5, 5)] 6 rfl⟩
              · refine obQ 10 { N := 60, np := 3, nx := 6, sl := [(40, .pl (.one (.v (.sc (.string t_3))))), (44, .pl (.one (.v (.sc (.string x44))))), (3, .pl (.one (.ref 3 []))), (5, .pl (.one (.ref 4 []))), (22, .pl (.one (.v (.list false 4 (List.map (r_T_impl_Change false) x.Changes))))), (23, .pl (.one (.v (.sc (.int .i64 (x.Changes.length : Int)))))), (24, .pl (.one (.v (.sc (.int .i64 x24))))), (31, .pl (.one (.ref 5 []))), (33, .pl (.one (.addr 4 [] 0 0 1))), (37, .pl (.one (.addr 4 [] 0 0 2))), (41, .pl (.one (.addr 4 [] 0 0 3)))], ob := [(3, .bld 113 5 b_1), (4, .box true [.sc (.int .i64 x_1.Kind), .sc (.string x_1.Path), .sc (.string x_1.To), .list false 1 (List.map rS x_1.Lines)]), (5, .list true 1 (List.map (rK .u8) [(wk .u8 x_1.Kind)]))] } ?_
                refine ops H' ?_
                refine opsV_nil ⟨rfl, shd [45, 3, 5, 22, 23, 24, 31, 33, 37, 41] [(3, 3), (4, 4), (5, 5)] 6 rfl⟩
              · refine obM { N := 60, np := 3, nx := 6, sl := [(32, .pl (.one (.v (.sc (.string (mkS [(wk .u8 x_1.Kind)])))))), (34, .pl (.one (.v (.sc (.string x_1.Path))))), (35, .pl (.one (.v (.sc (.string x35))))), (36, .pl (.one (.v (.sc (.string t_2))))), (38, .pl (.one (.v (.sc (.string x_1.To))))), (39, .pl (.one (.v (.sc (.string x39))))), (40, .pl (.one (.v (.sc (.string t_3))))), (42, .pl (.one (.v (.list false 1 (List.map rS x_1.Lines))))), (43, .pl (.one (.v (.sc (.int .i64 (x_1.Lines.length : Int)))))), (44, .pl (.one (.v (.sc (.string x44))))), (45, .pl (.one (.v (.sc (.string t_4))))), (3, .pl (.one (.ref 3 []))), (5, .pl (.one (.ref 4 []))), (22, .pl (.one (.v (.list false 4 (List.map (r_T_impl_Change false) x.Changes))))), (23, .pl (.one (.v (.sc (.int .i64 (x.Changes.length : Int)))))), (24, .pl (.one (.v (.sc (.int .i64 x24))))), (31, .pl (.one (.ref 5 []))), (33, .pl (.one (.addr 4 [] 0 0 1))), (37, .pl (.one (.addr 4 [] 0 0 2))), (41, .pl (.one (.addr 4 [] 0 0 3)))], ob := [(3, .bld 113 5 b_1), (4, .box true [.sc (.int .i64 x_1.Kind), .sc (.string x_1.Path), .sc (.string x_1.To), .list false 1 (List.map rS x_1.Lines)]), (5, .list true 1 (List.map (rK .u8) [(wk .u8 x_1.Kind)]))] } ?_
                refine callG H' (fun _ => [0]) (W_strings_Builder_WriteString _ _ _ hy_x46) ?_
                refine opsV_nil ⟨rfl, .inl ⟨rfl, ?_⟩⟩
                exact anyFShd [3, 5, 22, 23, 24] [(3, 3), (4, 4)] 5 d6_1_0'
            have d6_1_2' : anyF X ?ops6_1 [0, 4, 5, 6, 7, 8, 9, 10, 11, 12, 13, 14, 15, 16, 17, 18] [(1, 29, .pl (.one (.v (.sc (.int .i64 x_1.Kind))))), (2, 30, .pl (.one (.v (.sc (.int .u8 (wk .u8 x_1.Kind))))))] ?P6_1 { N := 60, np := 3, nx := 5, sl := [(3, .pl (.one (.ref 3 []))), (5, .pl (.one (.ref 4 []))), (22, .pl (.one (.v (.list false 4 (List.map (r_T_impl_Change false) x.Changes))))), (23, .pl (.one (.v (.sc (.int .i64 (x.Changes.length : Int)))))), (24, .pl (.one (.v (.sc (.int .i64 x24))))), (28, .pl (.one (.addr 4 [] 0 0 0)))], ob := [(3, .bld 113 5 x46), (4, .box true [.sc (.int .i64 x_1.Kind), .sc (.string x_1.Path), .sc (.string x_1.To), .list false 1 (List.map rS x_1.Lines)])] } := by
              refine fnode [.q 1 29 (.pl (.one (.v (.sc (.int .i64 x_1.Kind))))) [], .q 2 30 (.pl (.one (.v (.sc (.int .u8 (wk .u8 x_1.Kind)))))) [1], .m 3 [2, 1] [0, 1, 2, 3, 4, 5, 6, 7, 8, 9, 10, 11, 12, 13, 14, 15, 16, 17, 18] []] [(1, 29), (2, 30)] [(1, true, [], []), (2, true, [1], []), (3, false, [2, 1], [0, 1, 2, 3, 4, 5, 6, 7, 8, 9, 10, 11, 12, 13, 14, 15, 16, 17, 18])] ⟨?_, ?_, ?_, trivial⟩
              · refine obQ 0 { N := 60, np := 3, nx := 5, sl := [(3, .pl (.one (.ref 3 []))), (5, .pl (.one (.ref 4 []))), (22, .pl (.one (.v (.list false 4 (List.map (r_T_impl_Change false) x.Changes))))), (23, .pl (.one (.v (.sc (.int .i64 (x.Changes.length : Int)))))), (24, .pl (.one (.v (.sc (.int .i64 x24))))), (28, .pl (.one (.addr 4 [] 0 0 0)))], ob := [(3, .bld 113 5 x46), (4, .box true [.sc (.int .i64 x_1.Kind), .sc (.string x_1.Path), .sc (.string x_1.To), .list false 1 (List.map rS x_1.Lines)])] } ?_
                refine ops H' ?_
                refine opsV_nil ⟨rfl, shd [29, 3, 5, 22, 23, 24, 28] [(3, 3), (4, 4)] 5 rfl⟩
              · refine obQ 1 { N := 60, np := 3, nx := 5, sl := [(29, .pl (.one (.v (.sc (.int .i64 x_1.Kind))))), (3, .pl (.one (.ref 3 []))), (5, .pl (.one (.ref 4 []))), (22, .pl (.one (.v (.list false 4 (List.map (r_T_impl_Change false) x.Changes))))), (23, .pl (.one (.v (.sc (.int .i64 (x.Changes.length : Int)))))), (24, .pl (.one (.v (.sc (.int .i64 x24))))), (28, .pl (.one (.addr 4 [] 0 0 0)))], ob := [(3, .bld 113 5 x46), (4, .box true [.sc (.int .i64 x_1.Kind), .sc (.string x_1.Path), .sc (.string x_1.To), .list false 1 (List.map rS x_1.Lines)])] } ?_
                refine ops H' ?_
                refine opsV_nil ⟨rfl, shd [30, 3, 5, 22, 23, 24, 28] [(3, 3), (4, 4)] 5 rfl⟩
              · refine obM { N := 60, np := 3, nx := 5, sl := [(29, .pl (.one (.v (.sc (.int .i64 x_1.Kind))))), (30, .pl (.one (.v (.sc (.int .u8 (wk .u8 x_1.Kind)))))), (3, .pl (.one (.ref 3 []))), (5, .pl (.one (.ref 4 []))), (22, .pl (.one (.v (.list false 4 (List.map (r_T_impl_Change false) x.Changes))))), (23, .pl (.one (.v (.sc (.int .i64 (x.Changes.length : Int)))))), (24, .pl (.one (.v (.sc (.int .i64 x24))))), (28, .pl (.one (.addr 4 [] 0 0 0)))], ob := [(3, .bld 113 5 x46), (4, .box true [.sc (.int .i64 x_1.Kind), .sc (.string x_1.Path), .sc (.string x_1.To), .list false 1 (List.map rS x_1.Lines)])] } ?_
                refine ops H' ?_
                refine opsV_nil ⟨rfl, .inl ⟨rfl, ?_⟩⟩
                exact anyFShd [3, 5, 22, 23, 24] [(3, 3), (4, 4)] 5 d6_1_0'
            have d6_1_3' : anyF X ?ops6_1 [0, 5, 9, 13] [(1, 29, .pl (.one (.v (.sc (.int .i64 x_1.Kind))))), (2, 30, .pl (.one (.v (.sc (.int .u8 (wk .u8 x_1.Kind)))))), (4, 32, .pl (.one (.v (.sc (.string (mkS [(wk .u8 x_1.Kind)])))))), (6, 34, .pl (.one (.v (.sc (.string x_1.Path))))), (7, 35, .pl (.one (.v (.sc (.string x35))))), (8, 36, .pl (.one (.v (.sc (.string t_2))))), (10, 38, .pl (.one (.v (.sc (.string x_1.To))))), (11, 39, .pl (.one (.v (.sc (.string x39))))), (12, 40, .pl (.one (.v (.sc (.string t_3))))), (14, 42, .pl (.one (.v (.list false 1 (List.map rS x_1.Lines))))), (15, 43, .pl (.one (.v (.sc (.int .i64 (x_1.Lines.length : Int)))))), (16, 44, .pl (.one (.v (.sc (.string x44))))), (17, 45, .pl (.one (.v (.sc (.string t_4)))))] ?P6_1 { N := 60, np := 3, nx := 5, sl := [(3, .pl (.one (.ref 3 []))), (5, .pl (.one (.ref 4 []))), (22, .pl (.one (.v (.list false 4 (List.map (r_T_impl_Change false) x.Changes))))), (23, .pl (.one (.v (.sc (.int .i64 (x.Changes.length : Int)))))), (24, .pl (.one (.v (.sc (.int .i64 x24))))), (28, .pl (.one (.addr 4 [] 0 0 0))), (33, .pl (.one (.addr 4 [] 0 0 1))), (37, .pl (.one (.addr 4 [] 0 0 2))), (41, .pl (.one (.addr 4 [] 0 0 3)))], ob := [(3, .bld 113 5 b_1), (4, .box true [.sc (.int .i64 x_1.Kind), .sc (.string x_1.Path), .sc (.string x_1.To), .list false 1 (List.map rS x_1.Lines)])] } := by
              refine fnode [.q 1 29 (.pl (.one (.v (.sc (.int .i64 x_1.Kind))))) [], .q 2 30 (.pl (.one (.v (.sc (.int .u8 (wk .u8 x_1.Kind)))))) [1], .q 6 34 (.pl (.one (.v (.sc (.string x_1.Path))))) [], .q 7 35 (.pl (.one (.v (.sc (.string x35))))) [6], .q 8 36 (.pl (.one (.v (.sc (.string t_2))))) [4, 7], .q 10 38 (.pl (.one (.v (.sc (.string x_1.To))))) [], .q 11 39 (.pl (.one (.v (.sc (.string x39))))) [7, 10], .q 12 40 (.pl (.one (.v (.sc (.string t_3))))) [8, 11], .q 14 42 (.pl (.one (.v (.list false 1 (List.map rS x_1.Lines))))) [], .q 15 43 (.pl (.one (.v (.sc (.int .i64 (x_1.Lines.length : Int)))))) [14], .q 16 44 (.pl (.one (.v (.sc (.string x44))))) [11, 15], .q 17 45 (.pl (.one (.v (.sc (.string t_4))))) [12, 16], .m 3 [2, 1] [0, 1, 2, 3, 5, 9, 13] [(4, 32, .pl (.one (.v (.sc (.string (mkS [(wk .u8 x_1.Kind)])))))), (6, 34, .pl (.one (.v (.sc (.string x_1.Path))))), (7, 35, .pl (.one (.v (.sc (.string x35))))), (8, 36, .pl (.one (.v (.sc (.string t_2))))), (10, 38, .pl (.one (.v (.sc (.string x_1.To))))), (11, 39, .pl (.one (.v (.sc (.string x39))))), (12, 40, .pl (.one (.v (.sc (.string t_3))))), (14, 42, .pl (.one (.v (.list false 1 (List.map rS x_1.Lines))))), (15, 43, .pl (.one (.v (.sc (.int .i64 (x_1.Lines.length : Int)))))), (16, 44, .pl (.one (.v (.sc (.string x44))))), (17, 45, .pl (.one (.v (.sc (.string t_4)))))], .m 18 [16, 17, 11, 15, 12, 7, 10, 14, 8, 6, 4] [0, 4, 5, 6, 7, 8, 9, 10, 11, 12, 13, 14, 15, 16, 17, 18] [(1, 29, .pl (.one (.v (.sc (.int .i64 x_1.Kind))))), (2, 30, .pl (.one (.v (.sc (.int .u8 (wk .u8 x_1.Kind))))))]] [(1, 29), (2, 30), (4, 32), (6, 34), (7, 35), (8, 36), (10, 38), (11, 39), (12, 40), (14, 42), (15, 43), (16, 44), (17, 45)] [(1, true, [], []), (2, true, [1], []), (6, true, [], []), (7, true, [6], []), (8, true, [4, 7], []), (10, true, [], []), (11, true, [7, 10], []), (12, true, [8, 11], []), (14, true, [], []), (15, true, [14], []), (16, true, [11, 15], []), (17, true, [12, 16], []), (3, false, [2, 1], [0, 1, 2, 3, 5, 9, 13]), (18, false, [16, 17, 11, 15, 12, 7, 10, 14, 8, 6, 4], [0, 4, 5, 6, 7, 8, 9, 10, 11, 12, 13, 14, 15, 16, 17, 18])] ⟨?_, ?_, ?_, ?_, ?_, ?_, ?_, ?_, ?_, ?_, ?_, ?_, ?_, ?_, trivial⟩
              · refine obQ 0 { N := 60, np := 3, nx := 5, sl := [(3, .pl (.one (.ref 3 []))), (5, .pl (.one (.ref 4 []))), (22, .pl (.one (.v (.list false 4 (List.map (r_T_impl_Change false) x.Changes))))), (23, .pl (.one (.v (.sc (.int .i64 (x.Changes.length : Int)))))), (24, .pl (.one (.v (.sc (.int .i64 x24))))), (28, .pl (.one (.addr 4 [] 0 0 0))), (33, .pl (.one (.addr 4 [] 0 0 1))), (37, .pl (.one (.addr 4 [] 0 0 2))), (41, .pl (.one (.addr 4 [] 0 0 3)))], ob := [(3, .bld 113 5 b_1), (4, .box true [.sc (.int .i64 x_1.Kind), .sc (.string x_1.Path), .sc (.string x_1.To), .list false 1 (List.map rS x_1.Lines)])] } ?_
                refine ops H' ?_
                refine opsV_nil ⟨rfl, shd [29, 3, 5, 22, 23, 24, 28, 33, 37, 41] [(3, 3), (4, 4)] 5 rfl⟩
              · refine obQ 1 { N := 60, np := 3, nx := 5, sl := [(29, .pl (.one (.v (.sc (.int .i64 x_1.Kind))))), (3, .pl (.one (.ref 3 []))), (5, .pl (.one (.ref 4 []))), (22, .pl (.one (.v (.list false 4 (List.map (r_T_impl_Change false) x.Changes))))), (23, .pl (.one (.v (.sc (.int .i64 (x.Changes.length : Int)))))), (24, .pl (.one (.v (.sc (.int .i64 x24))))), (28, .pl (.one (.addr 4 [] 0 0 0))), (33, .pl (.one (.addr 4 [] 0 0 1))), (37, .pl (.one (.addr 4 [] 0 0 2))), (41, .pl (.one (.addr 4 [] 0 0 3)))], ob := [(3, .bld 113 5 b_1), (4, .box true [.sc (.int .i64 x_1.Kind), .sc (.string x_1.Path), .sc (.string x_1.To), .list false 1 (List.map rS x_1.Lines)])] } ?_
                refine ops H' ?_
                refine opsV_nil ⟨rfl, shd [30, 3, 5, 22, 23, 24, 28, 33, 37, 41] [(3, 3), (4, 4)] 5 rfl⟩
              · refine obQ 3 { N := 60, np := 3, nx := 5, sl := [(3, .pl (.one (.ref 3 []))), (5, .pl (.one (.ref 4 []))), (22, .pl (.one (.v (.list false 4 (List.map (r_T_impl_Change false) x.Changes))))), (23, .pl (.one (.v (.sc (.int .i64 (x.Changes.length : Int)))))), (24, .pl (.one (.v (.sc (.int .i64 x24))))), (28, .pl (.one (.addr 4 [] 0 0 0))), (33, .pl (.one (.addr 4 [] 0 0 1))), (37, .pl (.one (.addr 4 [] 0 0 2))), (41, .pl (.one (.addr 4 [] 0 0 3)))], ob := [(3, .bld 113 5 b_1), (4, .box true [.sc (.int .i64 x_1.Kind), .sc (.string x_1.Path), .sc (.string x_1.To), .list false 1 (List.map rS x_1.Lines)])] } ?_
                refine ops H' ?_
                refine opsV_nil ⟨rfl, shd [34, 3, 5, 22, 23, 24, 28, 33, 37, 41] [(3, 3), (4, 4)] 5 rfl⟩
              · refine obQ 4 { N := 60, np := 3, nx := 5, sl := [(34, .pl (.one (.v (.sc (.string x_1.Path))))), (3, .pl (.one (.ref 3 []))), (5, .pl (.one (.ref 4 []))), (22, .pl (.one (.v (.list false 4 (List.map (r_T_impl_Change false) x.Changes))))), (23, .pl (.one (.v (.sc (.int .i64 (x.Changes.length : Int)))))), (24, .pl (.one (.v (.sc (.int .i64 x24))))), (28, .pl (.one (.addr 4 [] 0 0 0))), (33, .pl (.one (.addr 4 [] 0 0 1))), (37, .pl (.one (.addr 4 [] 0 0 2))), (41, .pl (.one (.addr 4 [] 0 0 3)))], ob := [(3, .bld 113 5 b_1), (4, .box true [.sc (.int .i64 x_1.Kind), .sc (.string x_1.Path), .sc (.string x_1.To), .list false 1 (List.map rS x_1.Lines)])] } ?_
                refine callG H' (fun _ => []) (W_impl_shortText _ _ hy_x35) ?_
                refine opsV_nil ⟨rfl, shd [35, 3, 5, 22, 23, 24, 28, 33, 37, 41] [(3, 3), (4, 4)] 5 rfl⟩
              · refine obQ 5 { N := 60, np := 3, nx := 5, sl := [(32, .pl (.one (.v (.sc (.string (mkS [(wk .u8 x_1.Kind)])))))), (35, .pl (.one (.v (.sc (.string x35))))), (3, .pl (.one (.ref 3 []))), (5, .pl (.one (.ref 4 []))), (22, .pl (.one (.v (.list false 4 (List.map (r_T_impl_Change false) x.Changes))))), (23, .pl (.one (.v (.sc (.int .i64 (x.Changes.length : Int)))))), (24, .pl (.one (.v (.sc (.int .i64 x24))))), (28, .pl (.one (.addr 4 [] 0 0 0))), (33, .pl (.one (.addr 4 [] 0 0 1))), (37, .pl (.one (.addr 4 [] 0 0 2))), (41, .pl (.one (.addr 4 [] 0 0 3)))], ob := [(3, .bld 113 5 b_1), (4, .box true [.sc (.int .i64 x_1.Kind), .sc (.string x_1.Path), .sc (.string x_1.To), .list false 1 (List.map rS x_1.Lines)])] } ?_
                refine ops H' ?_
                refine opsV_nil ⟨rfl, shd [36, 3, 5, 22, 23, 24, 28, 33, 37, 41] [(3, 3), (4, 4)] 5 rfl⟩
              · refine obQ 6 { N := 60, np := 3, nx := 5, sl := [(3, .pl (.one (.ref 3 []))), (5, .pl (.one (.ref 4 []))), (22, .pl (.one (.v (.list false 4 (List.map (r_T_impl_Change false) x.Changes))))), (23, .pl (.one (.v (.sc (.int .i64 (x.Changes.length : Int)))))), (24, .pl (.one (.v (.sc (.int .i64 x24))))), (28, .pl (.one (.addr 4 [] 0 0 0))), (33, .pl (.one (.addr 4 [] 0 0 1))), (37, .pl (.one (.addr 4 [] 0 0 2))), (41, .pl (.one (.addr 4 [] 0 0 3)))], ob := [(3, .bld 113 5 b_1), (4, .box true [.sc (.int .i64 x_1.Kind), .sc (.string x_1.Path), .sc (.string x_1.To), .list false 1 (List.map rS x_1.Lines)])] } ?_
                refine ops H' ?_
                refine opsV_nil ⟨rfl, shd [38, 3, 5, 22, 23, 24, 28, 33, 37, 41] [(3, 3), (4, 4)] 5 rfl⟩
              · refine obQ 7 { N := 60, np := 3, nx := 5, sl := [(35, .pl (.one (.v (.sc (.string x35))))), (38, .pl (.one (.v (.sc (.string x_1.To))))), (3, .pl (.one (.ref 3 []))), (5, .pl (.one (.ref 4 []))), (22, .pl (.one (.v (.list false 4 (List.map (r_T_impl_Change false) x.Changes))))), (23, .pl (.one (.v (.sc (.int .i64 (x.Changes.length : Int)))))), (24, .pl (.one (.v (.sc (.int .i64 x24))))), (28, .pl (.one (.addr 4 [] 0 0 0))), (33, .pl (.one (.addr 4 [] 0 0 1))), (37, .pl (.one (.addr 4 [] 0 0 2))), (41, .pl (.one (.addr 4 [] 0 0 3)))], ob := [(3, .bld 113 5 b_1), (4, .box true [.sc (.int .i64 x_1.Kind), .sc (.string x_1.Path), .sc (.string x_1.To), .list false 1 (List.map rS x_1.Lines)])] } ?_
                refine callG H' (fun _ => []) (W_impl_shortText _ _ hy_x39) ?_
                refine opsV_nil ⟨rfl, shd [39, 3, 5, 22, 23, 24, 28, 33, 37, 41] [(3, 3), (4, 4)] 5 rfl⟩
              · refine obQ 8 { N := 60, np := 3, nx := 5, sl := [(36, .pl (.one (.v (.sc (.string t_2))))), (39, .pl (.one (.v (.sc (.string x39))))), (3, .pl (.one (.ref 3 []))), (5, .pl (.one (.ref 4 []))), (22, .pl (.one (.v (.list false 4 (List.map (r_T_impl_Change false) x.Changes))))), (23, .pl (.one (.v (.sc (.int .i64 (x.Changes.length : Int)))))), (24, .pl (.one (.v (.sc (.int .i64 x24))))), (28, .pl (.one (.addr 4 [] 0 0 0))), (33, .pl (.one (.addr 4 [] 0 0 1))), (37, .pl (.one (.addr 4 [] 0 0 2))), (41, .pl (.one (.addr 4 [] 0 0 3)))], ob := [(3, .bld 113 5 b_1), (4, .box true [.sc (.int .i64 x_1.Kind), .sc (.string x_1.Path), .sc (.string x_1.To), .list false 1 (List.map rS x_1.Lines)])] } ?_
                refine ops H' ?_
                refine opsV_nil ⟨rfl, shd [40, 3, 5, 22, 23, 24, 28, 33, 37, 41] [(3, 3), (4, 4)] 5 rfl⟩
              · refine obQ 9 { N := 60, np := 3, nx := 5, sl := [(3, .pl (.one (.ref 3 []))), (5, .pl (.one (.ref 4 []))), (22, .pl (.one (.v (.list false 4 (List.map (r_T_impl_Change false) x.Changes))))), (23, .pl (.one (.v (.sc (.int .i64 (x.Changes.length : Int)))))), (24, .pl (.one (.v (.sc (.int .i64 x24))))), (28, .pl (.one (.addr 4 [] 0 0 0))), (33, .pl (.one (.addr 4 [] 0 0 1))), (37, .pl (.one (.addr 4 [] 0 0 2))), (41, .pl (.one (.addr 4 [] 0 0 3)))], ob := [(3, .bld 113 5 b_1), (4, .box true [.sc (.int .i64 x_1.Kind), .sc (.string x_1.Path), .sc (.string x_1.To), .list false 1 (List.map rS x_1.Lines)])] } ?_
                refine ops H' ?_
                refine opsV_nil ⟨rfl, shd [42, 3, 5, 22, 23, 24, 28, 33, 37, 41] [(3, 3), (4, 4)] 5 rfl⟩
              · refine obQ 10 { N := 60, np := 3, nx := 5, sl := [(42, .pl (.one (.v (.list false 1 (List.map rS x_1.Lines))))), (3, .pl (.one (.ref 3 []))), (5, .pl (.one (.ref 4 []))), (22, .pl (.one (.v (.list false 4 (List.map (r_T_impl_Change false) x.Changes))))), (23, .pl (.one (.v (.sc (.int .i64 (x.Changes.length : Int)))))), (24, .pl (.one (.v (.sc (.int .i64 x24))))), (28, .pl (.one (.addr 4 [] 0 0 0))), (33, .pl (.one (.addr 4 [] 0 0 1))), (37, .pl (.one (.addr 4 [] 0 0 2))), (41, .pl (.one (.addr 4 [] 0 0 3)))], ob := [(3, .bld 113 5 b_1), (4, .box true [.sc (.int .i64 x_1.Kind), .sc (.string x_1.Path), .sc (.string x_1.To), .list false 1 (List.map rS x_1.Lines)])] } ?_
                refine ops H' ?_
                refine opsV_nil ⟨rfl, shd [43, 3, 5, 22, 23, 24, 28, 33, 37, 41] [(3, 3), (4, 4)] 5 rfl⟩
              · refine obQ 11 { N := 60, np := 3, nx := 5, sl := [(39, .pl (.one (.v (.sc (.string x39))))), (43, .pl (.one (.v (.sc (.int .i64 (x_1.Lines.length : Int)))))), (3, .pl (.one (.ref 3 []))), (5, .pl (.one (.ref 4 []))), (22, .pl (.one (.v (.list false 4 (List.map (r_T_impl_Change false) x.Changes))))), (23, .pl (.one (.v (.sc (.int .i64 (x.Changes.length : Int)))))), (24, .pl (.one (.v (.sc (.int .i64 x24))))), (28, .pl (.one (.addr 4 [] 0 0 0))), (33, .pl (.one (.addr 4 [] 0 0 1))), (37, .pl (.one (.addr 4 [] 0 0 2))), (41, .pl (.one (.addr 4 [] 0 0 3)))], ob := [(3, .bld 113 5 b_1), (4, .box true [.sc (.int .i64 x_1.Kind), .sc (.string x_1.Path), .sc (.string x_1.To), .list false 1 (List.map rS x_1.Lines)])] } ?_
                refine callG H' (fun _ => []) (W_impl_varText _ _ hy_x44) ?_
                refine opsV_nil ⟨rfl, shd [44, 3, 5, 22, 23, 24, 28, 33, 37, 41] [(3, 3), (4, 4)] 5 rfl⟩
              · refine obQ 12 { N := 60, np := 3, nx := 5, sl := [(40, .pl (.one (.v (.sc (.string t_3))))), (44, .pl (.one (.v (.sc (.string x44))))), (3, .pl (.one (.ref 3 []))), (5, .pl (.one (.ref 4 []))), (22, .pl (.one (.v (.list false 4 (List.map (r_T_impl_Change false) x.Changes))))), (23, .pl (.one (.v (.sc (.int .i64 (x.Changes.length : Int)))))), (24, .pl (.one (.v (.sc (.int .i64 x24))))), (28, .pl (.one (.addr 4 [] 0 0 0))), (33, .pl (.one (.addr 4 [] 0 0 1))), (37, .pl (.one (.addr 4 [] 0 0 2))), (41, .pl (.one (.addr 4 [] 0 0 3)))], ob := [(3, .bld 113 5 b_1), (4, .box true [.sc (.int .i64 x_1.Kind), .sc (.string x_1.Path), .sc (.string x_1.To), .list false 1 (List.map rS x_1.Lines)])] } ?_
                refine ops H' ?_
                refine opsV_nil ⟨rfl, shd [45, 3, 5, 22, 23, 24, 28, 33, 37, 41] [(3, 3), (4, 4)] 5 rfl⟩
              · refine obM { N := 60, np := 3, nx := 5, sl := [(29, .pl (.one (.v (.sc (.int .i64 x_1.Kind))))), (30, .pl (.one (.v (.sc (.int .u8 (wk .u8 x_1.Kind)))))), (3, .pl (.one (.ref 3 []))), (5, .pl (.one (.ref 4 []))), (22, .pl (.one (.v (.list false 4 (List.map (r_T_impl_Change false) x.Changes))))), (23, .pl (.one (.v (.sc (.int .i64 (x.Changes.length : Int)))))), (24, .pl (.one (.v (.sc (.int .i64 x24))))), (28, .pl (.one (.addr 4 [] 0 0 0))), (33, .pl (.one (.addr 4 [] 0 0 1))), (37, .pl (.one (.addr 4 [] 0 0 2))), (41, .pl (.one (.addr 4 [] 0 0 3)))], ob := [(3, .bld 113 5 b_1), (4, .box true [.sc (.int .i64 x_1.Kind), .sc (.string x_1.Path), .sc (.string x_1.To), .list false 1 (List.map rS x_1.Lines)])] } ?_
                refine ops H' ?_
                refine opsV_nil ⟨rfl, .inl ⟨rfl, ?_⟩⟩
                exact anyFShd [3, 5, 22, 23, 24, 31, 33, 37, 41] [(3, 3), (4, 4), (5, 5)] 6 d6_1_1'
              · refine obM { N := 60, np := 3, nx := 5, sl := [(32, .pl (.one (.v (.sc (.string (mkS [(wk .u8 x_1.Kind)])))))), (34, .pl (.one (.v (.sc (.string x_1.Path))))), (35, .pl (.one (.v (.sc (.string x35))))), (36, .pl (.one (.v (.sc (.string t_2))))), (38, .pl (.one (.v (.sc (.string x_1.To))))), (39, .pl (.one (.v (.sc (.string x39))))), (40, .pl (.one (.v (.sc (.string t_3))))), (42, .pl (.one (.v (.list false 1 (List.map rS x_1.Lines))))), (43, .pl (.one (.v (.sc (.int .i64 (x_1.Lines.length : Int)))))), (44, .pl (.one (.v (.sc (.string x44))))), (45, .pl (.one (.v (.sc (.string t_4))))), (3, .pl (.one (.ref 3 []))), (5, .pl (.one (.ref 4 []))), (22, .pl (.one (.v (.list false 4 (List.map (r_T_impl_Change false) x.Changes))))), (23, .pl (.one (.v (.sc (.int .i64 (x.Changes.length : Int)))))), (24, .pl (.one (.v (.sc (.int .i64 x24))))), (28, .pl (.one (.addr 4 [] 0 0 0))), (33, .pl (.one (.addr 4 [] 0 0 1))), (37, .pl (.one (.addr 4 [] 0 0 2))), (41, .pl (.one (.addr 4 [] 0 0 3)))], ob := [(3, .bld 113 5 b_1), (4, .box true [.sc (.int .i64 x_1.Kind), .sc (.string x_1.Path), .sc (.string x_1.To), .list false 1 (List.map rS x_1.Lines)])] } ?_
                refine callG H' (fun _ => [0]) (W_strings_Builder_WriteString _ _ _ hy_x46) ?_
                refine opsV_nil ⟨rfl, .inl ⟨rfl, ?_⟩⟩
                exact anyFShd [3, 5, 22, 23, 24, 28] [(3, 3), (4, 4)] 5 d6_1_2'
            refine fpure H' 0 [0] [(1, 29), (2, 30), (4, 32), (6, 34), (7, 35), (8, 36), (10, 38), (11, 39), (12, 40), (14, 42), (15, 43), (16, 44), (17, 45)] ?_
            refine fpure H' 5 [0, 5] [(1, 29), (2, 30), (4, 32), (6, 34), (7, 35), (8, 36), (10, 38), (11, 39), (12, 40), (14, 42), (15, 43), (16, 44), (17, 45)] ?_
            refine fpure H' 9 [0, 5, 9] [(1, 29), (2, 30), (4, 32), (6, 34), (7, 35), (8, 36), (10, 38), (11, 39), (12, 40), (14, 42), (15, 43), (16, 44), (17, 45)] ?_
            refine fpure H' 13 [0, 5, 9, 13] [(1, 29), (2, 30), (4, 32), (6, 34), (7, 35), (8, 36), (10, 38), (11, 39), (12, 40), (14, 42), (15, 43), (16, 44), (17, 45)] ?_
            exact anyFShd [3, 5, 22, 23, 24, 28, 33, 37, 41] [(3, 3), (4, 4)] 5 d6_1_3'
          · rintro e' rfl
            refine contN ?_
            refine wpV_seq1 ?_
            refine wpV_region ?_
            refine ops H' ?_
            refine opsN ?_
            obtain ⟨p_1, hl', h1'⟩ := Option.bind_eq_some_iff.1 h1'
            refine wpV_block ?_
            refine wpV_loopM (fun s' e' => ∃ x50 b_3, s' = (x50, b_3) ∧ e' = { N := 60, np := 3, nx := 4, sl := [(3, .pl (.one (.ref 3 []))), (22, .pl (.one (.v (.list false 4 (List.map (r_T_impl_Change false) x.Changes))))), (23, .pl (.one (.v (.sc (.int .i64 (x.Changes.length : Int)))))), (24, .pl (.one (.v (.sc (.int .i64 x24))))), (48, .pl (.one (.v (.list false 1 (List.map rS x_1.Lines))))), (49, .pl (.one (.v (.sc (.int .i64 (x_1.Lines.length : Int)))))), (50, .pl (.one (.v (.sc (.int .i64 x50)))))], ob := [(3, .bld 113 5 b_3)] }) hl' (shd [3, 22, 23, 24, 48, 49, 50] [(3, 3)] 4 ⟨_, _, rfl, rfl⟩) ?_
            rintro s' y2' e' h2' ⟨x50, b_3, rfl, rfl⟩
            replace h2' : impl_stepText_l2 x_1 x50 b_3 = some y2' := h2'
            unfold impl_stepText_l2 at h2'
            refine wpV_seq1 ?_
            refine wpV_region ?_
            refine ops H' ?_
            refine opsN ?_
            refine wpV_seq1 ?_
            refine wpV_split (fun hc' => ?_) (fun hc' => ?_)
            · replace h2' := (ifT hc').symm.trans h2'
              refine skipN ?_
              refine wpV_seq1 ?_
              refine wpV_block ?_
              refine wpV_seq1 ?_
              refine wpV_region ?_
              obtain ⟨x_2, hv', h2'⟩ := Option.bind_eq_some_iff.1 h2'
              have H' := And.intro (geti_f hv') H'
              refine ops H' ?_
              refine opsN ?_
              refine wpV_region ?_
              refine ops H' ?_
              obtain ⟨x55, hy', h2'⟩ := Option.bind_eq_some_iff.1 h2'
              refine callG H' (fun _ => []) (W_impl_shortText _ _ hy') ?_
              obtain ⟨x56, hy', h2'⟩ := Option.bind_eq_some_iff.1 h2'
              refine callG H' (fun _ => [0]) (W_strings_Builder_WriteString _ _ _ hy') ?_
              refine opsN ?_
              refine wpV_region ?_
              refine ops H' ?_
              refine opsN ?_
              obtain rfl := Option.some.inj h2'
              exact shd [3, 22, 23, 24, 48, 49, 50] [(3, 3)] 4 ⟨_, rfl, _, _, rfl, rfl⟩
            · replace h2' := (ifF hc').symm.trans h2'
              refine exitN ?_
              obtain rfl := Option.some.inj h2'
              refine ⟨_, rfl, fun hr' => ?_⟩
              subst hr'
              exact shd [3, 22, 23, 24] [(3, 3)] 4 ⟨_, h1', rfl⟩
        · rintro e' ⟨b_2, h1', rfl⟩
          unfold impl_stepText_j2 at h1'
          refine wpV_region ?_
          refine ops H' ?_
          refine opsN ?_
          obtain rfl := Option.some.inj h1'
          exact shd [3, 22, 23, 24] [(3, 3)] 4 ⟨_, rfl, _, _, rfl, rfl⟩
      · replace h1' := (ifF hc').symm.trans h1'
        refine exitN ?_
        obtain rfl := Option.some.inj h1'
        refine ⟨_, rfl, fun hr' => ?_⟩
        subst hr'
        exact shd [3] [(3, 3)] 4 ⟨_, h0', rfl⟩
    · rintro e' ⟨b, h0', rfl⟩
      unfold impl_stepText_j1 at h0'
      refine wpV_seq1 ?_
      refine wpV_region ?_
      obtain ⟨x59, hy', h0'⟩ := Option.bind_eq_some_iff.1 h0'
      refine callG H' (fun _ => [0]) (W_strings_Builder_String _ _ hy') ?_
      refine ops H' ?_
      refine opsN ?_
      refine retN ?_
      obtain rfl := Option.some.inj h0'
      exact outG H' rfl rfl
theorem W_impl_SumMore (sum : Int) (text : ByteArray) (r' : Int) (h0' : impl_SumMore sum text = some r') : Fn X 201 [.one (.sc (.int .u32 sum)), .one (.sc (.string text))] [.one (.sc (.int .u32 r'))] [] := by
  have H' := And.intro t3 (And.intro t5 (And.intro t9 (t174)))
  unfold impl_SumMore at h0'
  refine Fn.start (fn := f201) (N := 31) (res := [.tmp 4]) rfl rfl rfl rfl rfl (by simp) ?_
  refine enterG H' ?_
  refine wpV_seq1 ?_
  refine wpV_region ?_
  refine ops H' ?_
  refine opsN ?_
  refine wpV_seqJ (fun e' => ∃ sum_1, impl_SumMore_j1 sum_1 = some r' ∧ e' = { N := 31, np := 2, nx := 2, sl := [(0, .pl (.one (.v (.sc (.int .u32 sum_1)))))], ob := [] }) ?_ ?_
  · refine wpV_seq1 ?_
    refine wpV_region ?_
    refine ops H' ?_
    refine opsN ?_
    obtain ⟨p, hl', h0'⟩ := Option.bind_eq_some_iff.1 h0'
    refine wpV_block ?_
    refine wpV_loopM (fun s' e' => ∃ sum_2 i, s' = (sum_2, i) ∧ e' = { N := 31, np := 2, nx := 2, sl := [(0, .pl (.one (.v (.sc (.int .u32 sum_2))))), (1, .pl (.one (.v (.sc (.string text))))), (5, .pl (.one (.v (.sc (.int .i64 i)))))], ob := [] }) hl' (shd [0, 1, 5] [] 2 ⟨_, _, rfl, rfl⟩) ?_
    rintro s' y1' e' h1' ⟨sum_2, i, rfl, rfl⟩
    replace h1' : impl_SumMore_l1 text sum_2 i = some y1' := h1'
    unfold impl_SumMore_l1 at h1'
    refine wpV_seq1 ?_
    refine wpV_seq1 ?_
    refine wpV_region ?_
    refine ops H' ?_
    refine opsN ?_
    refine wpV_split (fun hc' => ?_) (fun hc' => ?_)
    · replace h1' := (ifT hc').symm.trans h1'
      refine skipN ?_
      refine wpV_seqJ (fun e' => ∃ sum_3, impl_SumMore_j2 i sum_3 = some y1' ∧ e' = { N := 31, np := 2, nx := 2, sl := [(0, .pl (.one (.v (.sc (.int .u32 sum_3))))), (1, .pl (.one (.v (.sc (.string text))))), (5, .pl (.one (.v (.sc (.int .i64 i)))))], ob := [] }) ?_ ?_
      · refine wpV_block ?_
        refine wpV_seq1 ?_
        refine wpV_region ?_
        obtain ⟨x16, hv', h1'⟩ := Option.bind_eq_some_iff.1 h1'
        have H' := And.intro (sidx_f hv') H'
        refine ops H' ?_
        refine opsN ?_
        refine wpV_seq1 ?_
        refine wpV_region ?_
        refine ops H' ?_
        refine opsN ?_
        obtain ⟨p_1, hl', h1'⟩ := Option.bind_eq_some_iff.1 h1'
        refine wpV_block ?_
        refine wpV_loopM (fun s' e' => ∃ sum_4 x19, s' = (sum_4, x19) ∧ e' = { N := 31, np := 2, nx := 2, sl := [(0, .pl (.one (.v (.sc (.int .u32 sum_4))))), (1, .pl (.one (.v (.sc (.string text))))), (5, .pl (.one (.v (.sc (.int .i64 i))))), (19, .pl (.one (.v (.sc (.int .i64 x19)))))], ob := [] }) hl' (shd [0, 1, 5, 19] [] 2 ⟨_, _, rfl, rfl⟩) ?_
        rintro s' y2' e' h2' ⟨sum_4, x19, rfl, rfl⟩
        replace h2' : impl_SumMore_l2 sum_4 x19 = some y2' := h2'
        unfold impl_SumMore_l2 at h2'
        refine wpV_seq1 ?_
        refine wpV_region ?_
        refine ops H' ?_
        refine opsN ?_
        refine wpV_seq1 ?_
        refine wpV_split (fun hc' => ?_) (fun hc' => ?_)
        · replace h2' := (ifT hc').symm.trans h2'
          refine skipN ?_
          refine wpV_seq1 ?_
          refine wpV_block ?_
          refine wpV_seq1 ?_
          refine wpV_region ?_
          refine ops H' ?_
          refine opsN ?_
          refine wpV_seq1 ?_
          refine wpV_region ?_
          refine ops H' ?_
          refine opsN ?_
          refine wpV_seq1 ?_
          refine wpV_region ?_
          refine ops H' ?_
          refine opsN ?_
          refine wpV_split (fun hc' => ?_) (fun hc' => ?_)
          · replace h2' := (ifT hc').symm.trans h2'
            refine wpV_region ?_
            refine ops H' ?_
            refine opsN ?_
            refine wpV_region ?_
            refine ops H' ?_
            refine opsN ?_
            obtain rfl := Option.some.inj h2'
            exact shd [0, 1, 5, 19] [] 2 ⟨_, rfl, _, _, rfl, rfl⟩
          · replace h2' := (ifF hc').symm.trans h2'
            refine skipN ?_
            refine wpV_region ?_
            refine ops H' ?_
            refine opsN ?_
            obtain rfl := Option.some.inj h2'
            exact shd [0, 1, 5, 19] [] 2 ⟨_, rfl, _, _, rfl, rfl⟩
        · replace h2' := (ifF hc').symm.trans h2'
          refine exitN ?_
          obtain rfl := Option.some.inj h2'
          refine ⟨_, rfl, fun hr' => ?_⟩
          subst hr'
          exact shd [0, 1, 5] [] 2 ⟨_, h1', rfl⟩
      · rintro e' ⟨sum_3, h1', rfl⟩
        unfold impl_SumMore_j2 at h1'
        refine wpV_region ?_
        refine ops H' ?_
        refine opsN ?_
        obtain rfl := Option.some.inj h1'
        exact shd [0, 1, 5] [] 2 ⟨_, rfl, _, _, rfl, rfl⟩
    · replace h1' := (ifF hc').symm.trans h1'
      refine exitN ?_
      obtain rfl := Option.some.inj h1'
      refine ⟨_, rfl, fun hr' => ?_⟩
      subst hr'
      exact shd [0] [] 2 ⟨_, h0', rfl⟩
  · rintro e' ⟨sum_1, h0', rfl⟩
    unfold impl_SumMore_j1 at h0'
    refine wpV_seq1 ?_
    refine wpV_region ?_
    refine ops H' ?_
    refine opsN ?_
    refine retN ?_
    obtain rfl := Option.some.inj h0'
    exact outG H' rfl rfl
theorem W_impl_SumOf (text : ByteArray) (r' : Int) (h0' : impl_SumOf text = some r') : Fn X 183 [.one (.sc (.string text))] [.one (.sc (.int .u32 r'))] [] := by
  have H' := trivial
  unfold impl_SumOf at h0'
  refine Fn.start (fn := f183) (N := 5) (res := [.tmp 2]) rfl rfl rfl rfl rfl (by simp) ?_
  refine enterG H' ?_
  refine wpV_seq1 ?_
  refine wpV_region ?_
  refine ops H' ?_
  refine opsN ?_
  refine wpV_seq1 ?_
  refine wpV_region ?_
  refine ops H' ?_
  obtain ⟨x4, hy', h0'⟩ := Option.bind_eq_some_iff.1 h0'
  refine callG H' (fun _ => []) (W_impl_SumMore _ _ _ hy') ?_
  refine ops H' ?_
  refine opsN ?_
  refine retN ?_
  obtain rfl := Option.some.inj h0'
  exact outG H' rfl rfl
theorem W_impl_sumText (text : ByteArray) (r' : ByteArray) (h0' : impl_sumText text = some r') : Fn X 143 [.one (.sc (.string text))] [.one (.sc (.string r'))] [] := by
  have H' := And.intro t5 (And.intro t9 (And.intro t36 (t174)))
  unfold impl_sumText at h0'
  refine Fn.start (fn := f143) (N := 19) (res := [.tmp 2]) rfl rfl rfl rfl rfl (by simp) ?_
  refine enterG H' ?_
  refine wpV_seq1 ?_
  refine wpV_region ?_
  refine ops H' ?_
  refine opsN ?_
  refine wpV_seq1 ?_
  refine wpV_region ?_
  refine ops H' ?_
  obtain ⟨x5, hy', h0'⟩ := Option.bind_eq_some_iff.1 h0'
  refine callG H' (fun _ => []) (W_impl_SumOf _ _ hy') ?_
  refine ops H' ?_
  refine opsN ?_
  refine wpV_seq1 ?_
  refine wpV_region ?_
  have H' := And.intro (show bytesOf [[V.sc (.int .u8 (wk .u8 (shrI .u32 x5 24)))], [V.sc (.int .u8 (wk .u8 (shrI .u32 x5 16)))], [V.sc (.int .u8 (wk .u8 (shrI .u32 x5 8)))], [V.sc (.int .u8 (wk .u8 x5))]] = some [(wk .u8 (shrI .u32 x5 24)), (wk .u8 (shrI .u32 x5 16)), (wk .u8 (shrI .u32 x5 8)), (wk .u8 x5)] from bytesOf_rK [(wk .u8 (shrI .u32 x5 24)), (wk .u8 (shrI .u32 x5 16)), (wk .u8 (shrI .u32 x5 8)), (wk .u8 x5)]) H'
  refine ops H' ?_
  refine opsN ?_
  refine retN ?_
  obtain rfl := Option.some.inj h0'
  exact outG H' rfl rfl
theorem W_impl_Sealed (text : ByteArray) (r' : ByteArray × Bool) (h0' : impl_Sealed text = some r') : Fn X 80 [.one (.sc (.string text))] [.one (.sc (.string r'.1)), .one (.sc (.bool r'.2))] [] := by
  have H' := And.intro t3 (t9)
  unfold impl_Sealed at h0'
  refine Fn.start (fn := f80) (N := 11) (res := [.tmp 2, .tmp 3]) rfl rfl rfl rfl rfl (by simp) ?_
  refine enterG H' ?_
  refine wpV_seq1 ?_
  refine wpV_region ?_
  refine ops H' ?_
  refine opsN ?_
  refine wpV_seq1 ?_
  refine wpV_seq1 ?_
  refine wpV_region ?_
  refine ops H' ?_
  refine opsN ?_
  refine wpV_split (fun hc' => ?_) (fun hc' => ?_)
  · replace h0' := (ifT hc').symm.trans h0'
    refine wpV_seq1 ?_
    refine wpV_region ?_
    refine ops H' ?_
    refine opsN ?_
    refine retN ?_
    obtain rfl := Option.some.inj h0'
    exact outG H' rfl rfl
  · replace h0' := (ifF hc').symm.trans h0'
    refine skipN ?_
    refine wpV_seq1 ?_
    refine wpV_region ?_
    refine ops H' ?_
    obtain ⟨x9, hy', h0'⟩ := Option.bind_eq_some_iff.1 h0'
    refine callG H' (fun _ => []) (W_impl_sumText _ _ hy') ?_
    obtain ⟨t, hv', h0'⟩ := Option.bind_eq_some_iff.1 h0'
    have H' := And.intro (sapp_f hv') H'
    refine ops H' ?_
    refine opsN ?_
    refine retN ?_
    obtain rfl := Option.some.inj h0'
    exact outG H' rfl rfl
theorem W_impl_BundleText (list_ : List T_impl_Step) (r' : ByteArray × Bool) (h0' : impl_BundleText list_ = some r') : Fn X 20 [.one (.list false 3 (List.map (r_T_impl_Step false) list_))] [.one (.sc (.string r'.1)), .one (.sc (.bool r'.2))] [] := by
  have H' := And.intro t3 (And.intro t9 (And.intro t32 (And.intro t104 (And.intro t113 (And.intro R_T_impl_Change (And.intro R_T_impl_Step (And.intro R_i64 (R_s))))))))
  unfold impl_BundleText at h0'
  refine Fn.start (fn := f20) (N := 32) (res := [.tmp 2, .tmp 3]) rfl rfl rfl rfl rfl (by simp) ?_
  refine enterG H' ?_
  refine wpV_seq1 ?_
  refine wpV_region ?_
  refine ops H' ?_
  refine opsN ?_
  refine wpV_seq1 ?_
  refine wpV_seq1 ?_
  refine wpV_region ?_
  refine ops H' ?_
  refine opsN ?_
  refine wpV_split (fun hc' => ?_) (fun hc' => ?_)
  · replace h0' := (ifT hc').symm.trans h0'
    refine wpV_seq1 ?_
    refine wpV_region ?_
    refine ops H' ?_
    refine opsN ?_
    refine retN ?_
    obtain rfl := Option.some.inj h0'
    exact outG H' rfl rfl
  · replace h0' := (ifF hc').symm.trans h0'
    refine skipN ?_
    refine wpV_seq1 ?_
    refine wpV_region ?_
    refine opsV_bldN H' 5 ?_
    refine opsN ?_
    refine wpV_seq1 ?_
    refine wpV_region ?_
    refine ops H' ?_
    obtain ⟨x12, hy', h0'⟩ := Option.bind_eq_some_iff.1 h0'
    refine callG H' (fun _ => []) (W_impl_varText _ _ hy') ?_
    obtain ⟨t, hv', h0'⟩ := Option.bind_eq_some_iff.1 h0'
    have H' := And.intro (sapp_f hv') H'
    refine ops H' ?_
    obtain ⟨x14, hy', h0'⟩ := Option.bind_eq_some_iff.1 h0'
    refine callG H' (fun _ => [0]) (W_strings_Builder_WriteString _ _ _ hy') ?_
    refine opsN ?_
    refine wpV_seqJ (fun e' => ∃ b, impl_BundleText_j1 b = some r' ∧ e' = { N := 32, np := 1, nx := 2, sl := [(4, .pl (.one (.ref 1 [])))], ob := [(1, .bld 113 5 b)] }) ?_ ?_
    · refine wpV_seq1 ?_
      refine wpV_region ?_
      refine ops H' ?_
      refine opsN ?_
      obtain ⟨p, hl', h0'⟩ := Option.bind_eq_some_iff.1 h0'
      refine wpV_block ?_
      refine wpV_loopM (fun s' e' => ∃ x17 b_1, s' = (x17, b_1) ∧ e' = { N := 32, np := 1, nx := 2, sl := [(4, .pl (.one (.ref 1 []))), (15, .pl (.one (.v (.list false 3 (List.map (r_T_impl_Step false) list_))))), (16, .pl (.one (.v (.sc (.int .i64 (list_.length : Int)))))), (17, .pl (.one (.v (.sc (.int .i64 x17)))))], ob := [(1, .bld 113 5 b_1)] }) hl' (shd [4, 15, 16, 17] [(1, 1)] 2 ⟨_, _, rfl, rfl⟩) ?_
      rintro s' y1' e' h1' ⟨x17, b_1, rfl, rfl⟩
      replace h1' : impl_BundleText_l1 list_ x17 b_1 = some y1' := h1'
      unfold impl_BundleText_l1 at h1'
      refine wpV_seq1 ?_
      refine wpV_region ?_
      refine ops H' ?_
      refine opsN ?_
      refine wpV_seq1 ?_
      refine wpV_split (fun hc' => ?_) (fun hc' => ?_)
      · replace h1' := (ifT hc').symm.trans h1'
        refine skipN ?_
        refine wpV_seq1 ?_
        refine wpV_block ?_
        refine wpV_seq1 ?_
        refine wpV_region ?_
        obtain ⟨x, hv', h1'⟩ := Option.bind_eq_some_iff.1 h1'
        have H' := And.intro (geti_f hv') H'
        refine ops H' ?_
        refine opsN ?_
        refine wpV_seq1 ?_
        refine wpV_seq1 ?_
        refine wpV_region ?_
        refine ops H' ?_
        obtain ⟨x22, hy', h1'⟩ := Option.bind_eq_some_iff.1 h1'
        refine callG H' (fun _ => []) (W_impl_stepOk _ _ hy') ?_
        refine ops H' ?_
        refine opsN ?_
        refine wpV_split (fun hc' => ?_) (fun hc' => ?_)
        · replace h1' := (ifT hc').symm.trans h1'
          refine wpV_seq1 ?_
          refine wpV_region ?_
          refine ops H' ?_
          refine opsN ?_
          refine retN ?_
          obtain rfl := Option.some.inj h1'
          refine ⟨_, rfl, fun hr' => ?_⟩
          subst hr'
          obtain rfl := Option.some.inj h0'
          exact outG H' rfl rfl
        · replace h1' := (ifF hc').symm.trans h1'
          refine skipN ?_
          refine wpV_region ?_
          refine ops H' ?_
          obtain ⟨x25, hy', h1'⟩ := Option.bind_eq_some_iff.1 h1'
          refine callG H' (fun _ => []) (W_impl_stepText _ _ hy') ?_
          obtain ⟨x26, hy', h1'⟩ := Option.bind_eq_some_iff.1 h1'
          refine callG H' (fun _ => [0]) (W_strings_Builder_WriteString _ _ _ hy') ?_
          refine opsN ?_
          refine wpV_region ?_
          refine ops H' ?_
          refine opsN ?_
          obtain rfl := Option.some.inj h1'
          exact shd [4, 15, 16, 17] [(1, 1)] 2 ⟨_, rfl, _, _, rfl, rfl⟩
      · replace h1' := (ifF hc').symm.trans h1'
        refine exitN ?_
        obtain rfl := Option.some.inj h1'
        refine ⟨_, rfl, fun hr' => ?_⟩
        subst hr'
        exact shd [4] [(1, 1)] 2 ⟨_, h0', rfl⟩
    · rintro e' ⟨b, h0', rfl⟩
      unfold impl_BundleText_j1 at h0'
      refine wpV_seq1 ?_
      refine wpV_region ?_
      obtain ⟨x28, hy', h0'⟩ := Option.bind_eq_some_iff.1 h0'
      refine callG H' (fun _ => [0]) (W_strings_Builder_String _ _ hy') ?_
      obtain ⟨x29, hy', h0'⟩ := Option.bind_eq_some_iff.1 h0'
      refine callG H' (fun _ => []) (W_impl_Sealed _ _ hy') ?_
      refine ops H' ?_
      refine opsN ?_
      refine retN ?_
      obtain rfl := Option.some.inj h0'
      exact outG H' rfl rfl
theorem W_laws_eqIntS (a : List Int) (b : List Int) (r' : Bool) (h0' : laws_eqIntS a b = some r') : Fn X 37 [.one (.list false 1 (List.map (rK .i64) a)), .one (.list false 1 (List.map (rK .i64) b))] [.one (.sc (.bool r'))] [] := by
  have H' := And.intro t3 (And.intro t44 (R_i64))
  unfold laws_eqIntS at h0'
  refine Fn.start (fn := f37) (N := 26) (res := [.tmp 4]) rfl rfl rfl rfl rfl (by simp) ?_
  refine enterG H' ?_
  refine wpV_seq1 ?_
  refine wpV_region ?_
  refine ops H' ?_
  refine opsN ?_
  refine wpV_seq1 ?_
  refine wpV_seq1 ?_
  refine wpV_region ?_
  refine ops H' ?_
  refine opsN ?_
  refine wpV_split (fun hc' => ?_) (fun hc' => ?_)
  · replace h0' := (ifT hc').symm.trans h0'
    refine wpV_seq1 ?_
    refine wpV_region ?_
    refine ops H' ?_
    refine opsN ?_
    refine retN ?_
    obtain rfl := Option.some.inj h0'
    exact outG H' rfl rfl
  · replace h0' := (ifF hc').symm.trans h0'
    refine skipN ?_
    refine wpV_seqJ (fun e' => laws_eqIntS_j1 = some r' ∧ e' = { N := 26, np := 2, nx := 2, sl := [], ob := [] }) ?_ ?_
    · refine wpV_seq1 ?_
      refine wpV_region ?_
      refine ops H' ?_
      refine opsN ?_
      obtain ⟨p, hl', h0'⟩ := Option.bind_eq_some_iff.1 h0'
      refine wpV_block ?_
      refine wpV_loopM (fun i e' => e' = { N := 26, np := 2, nx := 2, sl := [(0, .pl (.one (.v (.list false 1 (List.map (rK .i64) a))))), (1, .pl (.one (.v (.list false 1 (List.map (rK .i64) b))))), (5, .pl (.one (.v (.sc (.int .i64 i)))))], ob := [] }) hl' (shd [0, 1, 5] [] 2 rfl) ?_
      rintro i y1' e' h1' rfl
      replace h1' : laws_eqIntS_l1 a b i = some y1' := h1'
      unfold laws_eqIntS_l1 at h1'
      refine wpV_seq1 ?_
      refine wpV_seq1 ?_
      refine wpV_region ?_
      refine ops H' ?_
      refine opsN ?_
      refine wpV_split (fun hc' => ?_) (fun hc' => ?_)
      · replace h1' := (ifT hc').symm.trans h1'
        refine skipN ?_
        refine wpV_seq1 ?_
        refine wpV_block ?_
        refine wpV_seq1 ?_
        refine regQ ?_
        obtain ⟨x, hv', h1'⟩ := Option.bind_eq_some_iff.1 h1'
        have H' := And.intro (geti_f hv') H'
        obtain ⟨x_1, hv', h1'⟩ := Option.bind_eq_some_iff.1 h1'
        have H' := And.intro (geti_f hv') H'
        refine ops H' ?_
        refine quN ?_
        refine wpV_split (fun hc' => ?_) (fun hc' => ?_)
        · replace h1' := (ifT hc').symm.trans h1'
          refine wpV_seq1 ?_
          refine wpV_region ?_
          refine ops H' ?_
          refine opsN ?_
          refine retN ?_
          obtain rfl := Option.some.inj h1'
          refine ⟨_, rfl, fun hr' => ?_⟩
          subst hr'
          obtain rfl := Option.some.inj h0'
          exact outG H' rfl rfl
        · replace h1' := (ifF hc').symm.trans h1'
          refine skipN ?_
          refine wpV_region ?_
          refine ops H' ?_
          refine opsN ?_
          obtain rfl := Option.some.inj h1'
          exact shd [0, 1, 5] [] 2 ⟨_, rfl, rfl⟩
      · replace h1' := (ifF hc').symm.trans h1'
        refine exitN ?_
        obtain rfl := Option.some.inj h1'
        refine ⟨_, rfl, fun hr' => ?_⟩
        subst hr'
        exact shd [] [] 2 ⟨h0', rfl⟩
    · rintro e' ⟨h0', rfl⟩
      unfold laws_eqIntS_j1 at h0'
      refine wpV_seq1 ?_
      refine wpV_region ?_
      refine ops H' ?_
      refine opsN ?_
      refine retN ?_
      obtain rfl := Option.some.inj h0'
      exact outG H' rfl rfl
theorem W_laws_eqStringS (a : List ByteArray) (b : List ByteArray) (r' : Bool) (h0' : laws_eqStringS a b = some r') : Fn X 35 [.one (.list false 1 (List.map rS a)), .one (.list false 1 (List.map rS b))] [.one (.sc (.bool r'))] [] := by
  have H' := And.intro t3 (And.intro t9 (And.intro t55 (R_s)))
  unfold laws_eqStringS at h0'
  refine Fn.start (fn := f35) (N := 26) (res := [.tmp 4]) rfl rfl rfl rfl rfl (by simp) ?_
  refine enterG H' ?_
  refine wpV_seq1 ?_
  refine wpV_region ?_
  refine ops H' ?_
  refine opsN ?_
  refine wpV_seq1 ?_
  refine wpV_seq1 ?_
  refine wpV_region ?_
  refine ops H' ?_
  refine opsN ?_
  refine wpV_split (fun hc' => ?_) (fun hc' => ?_)
  · replace h0' := (ifT hc').symm.trans h0'
    refine wpV_seq1 ?_
    refine wpV_region ?_
    refine ops H' ?_
    refine opsN ?_
    refine retN ?_
    obtain rfl := Option.some.inj h0'
    exact outG H' rfl rfl
  · replace h0' := (ifF hc').symm.trans h0'
    refine skipN ?_
    refine wpV_seqJ (fun e' => laws_eqStringS_j1 = some r' ∧ e' = { N := 26, np := 2, nx := 2, sl := [], ob := [] }) ?_ ?_
    · refine wpV_seq1 ?_
      refine wpV_region ?_
      refine ops H' ?_
      refine opsN ?_
      obtain ⟨p, hl', h0'⟩ := Option.bind_eq_some_iff.1 h0'
      refine wpV_block ?_
      refine wpV_loopM (fun i e' => e' = { N := 26, np := 2, nx := 2, sl := [(0, .pl (.one (.v (.list false 1 (List.map rS a))))), (1, .pl (.one (.v (.list false 1 (List.map rS b))))), (5, .pl (.one (.v (.sc (.int .i64 i)))))], ob := [] }) hl' (shd [0, 1, 5] [] 2 rfl) ?_
      rintro i y1' e' h1' rfl
      replace h1' : laws_eqStringS_l1 a b i = some y1' := h1'
      unfold laws_eqStringS_l1 at h1'
      refine wpV_seq1 ?_
      refine wpV_seq1 ?_
      refine wpV_region ?_
      refine ops H' ?_
      refine opsN ?_
      refine wpV_split (fun hc' => ?_) (fun hc' => ?_)
      · replace h1' := (ifT hc').symm.trans h1'
        refine skipN ?_
        refine wpV_seq1 ?_
        refine wpV_block ?_
        refine wpV_seq1 ?_
        refine regQ ?_
        obtain ⟨x, hv', h1'⟩ := Option.bind_eq_some_iff.1 h1'
        have H' := And.intro (geti_f hv') H'
        obtain ⟨x_1, hv', h1'⟩ := Option.bind_eq_some_iff.1 h1'
        have H' := And.intro (geti_f hv') H'
        refine ops H' ?_
        refine quN ?_
        refine wpV_split (fun hc' => ?_) (fun hc' => ?_)
        · replace h1' := (ifT hc').symm.trans h1'
          refine wpV_seq1 ?_
          refine wpV_region ?_
          refine ops H' ?_
          refine opsN ?_
          refine retN ?_
          obtain rfl := Option.some.inj h1'
          refine ⟨_, rfl, fun hr' => ?_⟩
          subst hr'
          obtain rfl := Option.some.inj h0'
          exact outG H' rfl rfl
        · replace h1' := (ifF hc').symm.trans h1'
          refine skipN ?_
          refine wpV_region ?_
          refine ops H' ?_
          refine opsN ?_
          obtain rfl := Option.some.inj h1'
          exact shd [0, 1, 5] [] 2 ⟨_, rfl, rfl⟩
      · replace h1' := (ifF hc').symm.trans h1'
        refine exitN ?_
        obtain rfl := Option.some.inj h1'
        refine ⟨_, rfl, fun hr' => ?_⟩
        subst hr'
        exact shd [] [] 2 ⟨h0', rfl⟩
    · rintro e' ⟨h0', rfl⟩
      unfold laws_eqStringS_j1 at h0'
      refine wpV_seq1 ?_
      refine wpV_region ?_
      refine ops H' ?_
      refine opsN ?_
      refine retN ?_
      obtain rfl := Option.some.inj h0'
      exact outG H' rfl rfl
theorem W_laws_eqChange (a : T_impl_Change) (b : T_impl_Change) (r' : Bool) (h0' : laws_eqChange a b = some r') : Fn X 191 [.agg [.sc (.int .i64 a.Kind), .sc (.string a.Path), .sc (.string a.To), .list false 1 (List.map rS a.Lines)], .agg [.sc (.int .i64 b.Kind), .sc (.string b.Path), .sc (.string b.To), .list false 1 (List.map rS b.Lines)]] [.one (.sc (.bool r'))] [] := by
  have H' := And.intro t3 (And.intro t9 (And.intro t55 (And.intro t108 (R_s))))
  unfold laws_eqChange at h0'
  refine Fn.start (fn := f191) (N := 26) (res := [.tmp 4]) rfl rfl rfl rfl rfl (by simp) ?_
  refine enterG H' ?_
  refine wpV_seq1 ?_
  refine wpV_region ?_
  refine ops H' ?_
  refine opsN ?_
  refine wpV_seq1 ?_
  refine wpV_seq1 ?_
  refine wpV_region ?_
  refine ops H' ?_
  refine opsN ?_
  refine wpV_split (fun hc' => ?_) (fun hc' => ?_)
  · replace h0' := (ifT hc').symm.trans h0'
    refine wpV_seq1 ?_
    refine wpV_region ?_
    refine ops H' ?_
    refine opsN ?_
    refine retN ?_
    obtain rfl := Option.some.inj h0'
    exact outG H' rfl rfl
  · replace h0' := (ifF hc').symm.trans h0'
    refine skipN ?_
    refine wpV_seq1 ?_
    refine wpV_seq1 ?_
    refine wpV_region ?_
    refine ops H' ?_
    refine opsN ?_
    refine wpV_split (fun hc' => ?_) (fun hc' => ?_)
    · replace h0' := (ifT hc').symm.trans h0'
      refine wpV_seq1 ?_
      refine wpV_region ?_
      refine ops H' ?_
      refine opsN ?_
      refine retN ?_
      obtain rfl := Option.some.inj h0'
      exact outG H' rfl rfl
    · replace h0' := (ifF hc').symm.trans h0'
      refine skipN ?_
      refine wpV_seq1 ?_
      refine wpV_seq1 ?_
      refine wpV_region ?_
      refine ops H' ?_
      refine opsN ?_
      refine wpV_split (fun hc' => ?_) (fun hc' => ?_)
      · replace h0' := (ifT hc').symm.trans h0'
        refine wpV_seq1 ?_
        refine wpV_region ?_
        refine ops H' ?_
        refine opsN ?_
        refine retN ?_
        obtain rfl := Option.some.inj h0'
        exact outG H' rfl rfl
      · replace h0' := (ifF hc').symm.trans h0'
        refine skipN ?_
        refine wpV_seq1 ?_
        refine wpV_seq1 ?_
        refine wpV_region ?_
        refine ops H' ?_
        obtain ⟨x24, hy', h0'⟩ := Option.bind_eq_some_iff.1 h0'
        refine callG H' (fun _ => []) (W_laws_eqStringS _ _ _ hy') ?_
        refine ops H' ?_
        refine opsN ?_
        refine wpV_split (fun hc' => ?_) (fun hc' => ?_)
        · replace h0' := (ifT hc').symm.trans h0'
          refine wpV_seq1 ?_
          refine wpV_region ?_
          refine ops H' ?_
          refine opsN ?_
          refine retN ?_
          obtain rfl := Option.some.inj h0'
          exact outG H' rfl rfl
        · replace h0' := (ifF hc').symm.trans h0'
          refine skipN ?_
          refine wpV_seq1 ?_
          refine wpV_region ?_
          refine ops H' ?_
          refine opsN ?_
          refine retN ?_
          obtain rfl := Option.some.inj h0'
          exact outG H' rfl rfl
theorem W_laws_eqChangeS (a : List T_impl_Change) (b : List T_impl_Change) (r' : Bool) (h0' : laws_eqChangeS a b = some r') : Fn X 159 [.one (.list false 4 (List.map (r_T_impl_Change false) a)), .one (.list false 4 (List.map (r_T_impl_Change false) b))] [.one (.sc (.bool r'))] [] := by
  have H' := And.intro t3 (And.intro t102 (And.intro t108 (And.intro R_T_impl_Change (R_s))))
  unfold laws_eqChangeS at h0'
  refine Fn.start (fn := f159) (N := 27) (res := [.tmp 4]) rfl rfl rfl rfl rfl (by simp) ?_
  refine enterG H' ?_
  refine wpV_seq1 ?_
  refine wpV_region ?_
  refine ops H' ?_
  refine opsN ?_
  refine wpV_seq1 ?_
  refine wpV_seq1 ?_
  refine wpV_region ?_
  refine ops H' ?_
  refine opsN ?_
  refine wpV_split (fun hc' => ?_) (fun hc' => ?_)
  · replace h0' := (ifT hc').symm.trans h0'
    refine wpV_seq1 ?_
    refine wpV_region ?_
    refine ops H' ?_
    refine opsN ?_
    refine retN ?_
    obtain rfl := Option.some.inj h0'
    exact outG H' rfl rfl
  · replace h0' := (ifF hc').symm.trans h0'
    refine skipN ?_
    refine wpV_seqJ (fun e' => laws_eqChangeS_j1 = some r' ∧ e' = { N := 27, np := 2, nx := 2, sl := [], ob := [] }) ?_ ?_
    · refine wpV_seq1 ?_
      refine wpV_region ?_
      refine ops H' ?_
      refine opsN ?_
      obtain ⟨p, hl', h0'⟩ := Option.bind_eq_some_iff.1 h0'
      refine wpV_block ?_
      refine wpV_loopM (fun i e' => e' = { N := 27, np := 2, nx := 2, sl := [(0, .pl (.one (.v (.list false 4 (List.map (r_T_impl_Change false) a))))), (1, .pl (.one (.v (.list false 4 (List.map (r_T_impl_Change false) b))))), (5, .pl (.one (.v (.sc (.int .i64 i)))))], ob := [] }) hl' (shd [0, 1, 5] [] 2 rfl) ?_
      rintro i y1' e' h1' rfl
      replace h1' : laws_eqChangeS_l1 a b i = some y1' := h1'
      unfold laws_eqChangeS_l1 at h1'
      refine wpV_seq1 ?_
      refine wpV_seq1 ?_
      refine wpV_region ?_
      refine ops H' ?_
      refine opsN ?_
      refine wpV_split (fun hc' => ?_) (fun hc' => ?_)
      · replace h1' := (ifT hc').symm.trans h1'
        refine skipN ?_
        refine wpV_seq1 ?_
        refine wpV_block ?_
        refine wpV_seq1 ?_
        refine regQ ?_
        obtain ⟨x, hv', h1'⟩ := Option.bind_eq_some_iff.1 h1'
        have H' := And.intro (geti_f hv') H'
        obtain ⟨x_1, hv', h1'⟩ := Option.bind_eq_some_iff.1 h1'
        have H' := And.intro (geti_f hv') H'
        refine ops H' ?_
        obtain ⟨x25, hy', h1'⟩ := Option.bind_eq_some_iff.1 h1'
        refine callGQ H' (W_laws_eqChange _ _ _ hy') ?_
        refine ops H' ?_
        refine quN ?_
        refine wpV_split (fun hc' => ?_) (fun hc' => ?_)
        · replace h1' := (ifT hc').symm.trans h1'
          refine wpV_seq1 ?_
          refine wpV_region ?_
          refine ops H' ?_
          refine opsN ?_
          refine retN ?_
          obtain rfl := Option.some.inj h1'
          refine ⟨_, rfl, fun hr' => ?_⟩
          subst hr'
          obtain rfl := Option.some.inj h0'
          exact outG H' rfl rfl
        · replace h1' := (ifF hc').symm.trans h1'
          refine skipN ?_
          refine wpV_region ?_
          refine ops H' ?_
          refine opsN ?_
          obtain rfl := Option.some.inj h1'
          exact shd [0, 1, 5] [] 2 ⟨_, rfl, rfl⟩
      · replace h1' := (ifF hc').symm.trans h1'
        refine exitN ?_
        obtain rfl := Option.some.inj h1'
        refine ⟨_, rfl, fun hr' => ?_⟩
        subst hr'
        exact shd [] [] 2 ⟨h0', rfl⟩
    · rintro e' ⟨h0', rfl⟩
      unfold laws_eqChangeS_j1 at h0'
      refine wpV_seq1 ?_
      refine wpV_region ?_
      refine ops H' ?_
      refine opsN ?_
      refine retN ?_
      obtain rfl := Option.some.inj h0'
      exact outG H' rfl rfl
theorem W_laws_eqStep (a : T_impl_Step) (b : T_impl_Step) (r' : Bool) (h0' : laws_eqStep a b = some r') : Fn X 82 [.agg [.list false 1 (List.map (rK .i64) a.Parents), .sc (.string a.Note), .list false 4 (List.map (r_T_impl_Change false) a.Changes)], .agg [.list false 1 (List.map (rK .i64) b.Parents), .sc (.string b.Note), .list false 4 (List.map (r_T_impl_Change false) b.Changes)]] [.one (.sc (.bool r'))] [] := by
  have H' := And.intro t9 (And.intro t44 (And.intro t102 (And.intro t104 (And.intro R_T_impl_Change (And.intro R_i64 (R_s))))))
  unfold laws_eqStep at h0'
  refine Fn.start (fn := f82) (N := 22) (res := [.tmp 4]) rfl rfl rfl rfl rfl (by simp) ?_
  refine enterG H' ?_
  refine wpV_seq1 ?_
  refine wpV_region ?_
  refine ops H' ?_
  refine opsN ?_
  refine wpV_seq1 ?_
  refine wpV_seq1 ?_
  refine wpV_region ?_
  refine ops H' ?_
  obtain ⟨x9, hy', h0'⟩ := Option.bind_eq_some_iff.1 h0'
  refine callG H' (fun _ => []) (W_laws_eqIntS _ _ _ hy') ?_
  refine ops H' ?_
  refine opsN ?_
  refine wpV_split (fun hc' => ?_) (fun hc' => ?_)
  · replace h0' := (ifT hc').symm.trans h0'
    refine wpV_seq1 ?_
    refine wpV_region ?_
    refine ops H' ?_
    refine opsN ?_
    refine retN ?_
    obtain rfl := Option.some.inj h0'
    exact outG H' rfl rfl
  · replace h0' := (ifF hc').symm.trans h0'
    refine skipN ?_
    refine wpV_seq1 ?_
    refine wpV_seq1 ?_
    refine wpV_region ?_
    refine ops H' ?_
    refine opsN ?_
    refine wpV_split (fun hc' => ?_) (fun hc' => ?_)
    · replace h0' := (ifT hc').symm.trans h0'
      refine wpV_seq1 ?_
      refine wpV_region ?_
      refine ops H' ?_
      refine opsN ?_
      refine retN ?_
      obtain rfl := Option.some.inj h0'
      exact outG H' rfl rfl
    · replace h0' := (ifF hc').symm.trans h0'
      refine skipN ?_
      refine wpV_seq1 ?_
      refine wpV_seq1 ?_
      refine wpV_region ?_
      refine ops H' ?_
      obtain ⟨x20, hy', h0'⟩ := Option.bind_eq_some_iff.1 h0'
      refine callG H' (fun _ => []) (W_laws_eqChangeS _ _ _ hy') ?_
      refine ops H' ?_
      refine opsN ?_
      refine wpV_split (fun hc' => ?_) (fun hc' => ?_)
      · replace h0' := (ifT hc').symm.trans h0'
        refine wpV_seq1 ?_
        refine wpV_region ?_
        refine ops H' ?_
        refine opsN ?_
        refine retN ?_
        obtain rfl := Option.some.inj h0'
        exact outG H' rfl rfl
      · replace h0' := (ifF hc').symm.trans h0'
        refine skipN ?_
        refine wpV_seq1 ?_
        refine wpV_region ?_
        refine ops H' ?_
        refine opsN ?_
        refine retN ?_
        obtain rfl := Option.some.inj h0'
        exact outG H' rfl rfl
theorem W_laws_eqStepS (a : List T_impl_Step) (b : List T_impl_Step) (r' : Bool) (h0' : laws_eqStepS a b = some r') : Fn X 21 [.one (.list false 3 (List.map (r_T_impl_Step false) a)), .one (.list false 3 (List.map (r_T_impl_Step false) b))] [.one (.sc (.bool r'))] [] := by
  have H' := And.intro t3 (And.intro t32 (And.intro t104 (And.intro R_T_impl_Change (And.intro R_T_impl_Step (And.intro R_i64 (R_s))))))
  unfold laws_eqStepS at h0'
  refine Fn.start (fn := f21) (N := 27) (res := [.tmp 4]) rfl rfl rfl rfl rfl (by simp) ?_
  refine enterG H' ?_
  refine wpV_seq1 ?_
  refine wpV_region ?_
  refine ops H' ?_
  refine opsN ?_
  refine wpV_seq1 ?_
  refine wpV_seq1 ?_
  refine wpV_region ?_
  refine ops H' ?_
  refine opsN ?_
  refine wpV_split (fun hc' => ?_) (fun hc' => ?_)
  · replace h0' := (ifT hc').symm.trans h0'
    refine wpV_seq1 ?_
    refine wpV_region ?_
    refine ops H' ?_
    refine opsN ?_
    refine retN ?_
    obtain rfl := Option.some.inj h0'
    exact outG H' rfl rfl
  · replace h0' := (ifF hc').symm.trans h0'
    refine skipN ?_
    refine wpV_seqJ (fun e' => laws_eqStepS_j1 = some r' ∧ e' = { N := 27, np := 2, nx := 2, sl := [], ob := [] }) ?_ ?_
    · refine wpV_seq1 ?_
      refine wpV_region ?_
      refine ops H' ?_
      refine opsN ?_
      obtain ⟨p, hl', h0'⟩ := Option.bind_eq_some_iff.1 h0'
      refine wpV_block ?_
      refine wpV_loopM (fun i e' => e' = { N := 27, np := 2, nx := 2, sl := [(0, .pl (.one (.v (.list false 3 (List.map (r_T_impl_Step false) a))))), (1, .pl (.one (.v (.list false 3 (List.map (r_T_impl_Step false) b))))), (5, .pl (.one (.v (.sc (.int .i64 i)))))], ob := [] }) hl' (shd [0, 1, 5] [] 2 rfl) ?_
      rintro i y1' e' h1' rfl
      replace h1' : laws_eqStepS_l1 a b i = some y1' := h1'
      unfold laws_eqStepS_l1 at h1'
      refine wpV_seq1 ?_
      refine wpV_seq1 ?_
      refine wpV_region ?_
      refine ops H' ?_
      refine opsN ?_
      refine wpV_split (fun hc' => ?_) (fun hc' => ?_)
      · replace h1' := (ifT hc').symm.trans h1'
        refine skipN ?_
        refine wpV_seq1 ?_
        refine wpV_block ?_
        refine wpV_seq1 ?_
        refine regQ ?_
        obtain ⟨x, hv', h1'⟩ := Option.bind_eq_some_iff.1 h1'
        have H' := And.intro (geti_f hv') H'
        obtain ⟨x_1, hv', h1'⟩ := Option.bind_eq_some_iff.1 h1'
        have H' := And.intro (geti_f hv') H'
        refine ops H' ?_
        obtain ⟨x25, hy', h1'⟩ := Option.bind_eq_some_iff.1 h1'
        refine callGQ H' (W_laws_eqStep _ _ _ hy') ?_
        refine ops H' ?_
        refine quN ?_
        refine wpV_split (fun hc' => ?_) (fun hc' => ?_)
        · replace h1' := (ifT hc').symm.trans h1'
          refine wpV_seq1 ?_
          refine wpV_region ?_
          refine ops H' ?_
          refine opsN ?_
          refine retN ?_
          obtain rfl := Option.some.inj h1'
          refine ⟨_, rfl, fun hr' => ?_⟩
          subst hr'
          obtain rfl := Option.some.inj h0'
          exact outG H' rfl rfl
        · replace h1' := (ifF hc').symm.trans h1'
          refine skipN ?_
          refine wpV_region ?_
          refine ops H' ?_
          refine opsN ?_
          obtain rfl := Option.some.inj h1'
          exact shd [0, 1, 5] [] 2 ⟨_, rfl, rfl⟩
      · replace h1' := (ifF hc').symm.trans h1'
        refine exitN ?_
        obtain rfl := Option.some.inj h1'
        refine ⟨_, rfl, fun hr' => ?_⟩
        subst hr'
        exact shd [] [] 2 ⟨h0', rfl⟩
    · rintro e' ⟨h0', rfl⟩
      unfold laws_eqStepS_j1 at h0'
      refine wpV_seq1 ?_
      refine wpV_region ?_
      refine ops H' ?_
      refine opsN ?_
      refine retN ?_
      obtain rfl := Option.some.inj h0'
      exact outG H' rfl rfl
end Go.TV.KFnExactBundleText
