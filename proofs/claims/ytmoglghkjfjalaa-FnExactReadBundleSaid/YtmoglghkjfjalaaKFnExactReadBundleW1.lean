/- Walks. -/
import Derived.Test.YtmoglghkjfjalaaKFnExactReadBundleE
import Derived.Test.YtmoglghkjfjalaaKFnExactReadBundleW0
set_option linter.unusedVariables false
set_option linter.unusedSimpArgs false
set_option maxHeartbeats 8000000
set_option maxRecDepth 100000
namespace Go.TV.KFnExactReadBundle
attribute [local irreducible] anyV wpV opsV Does thenV blockV RetL quV seqV
open Go.Proofs.Try Go.TV.F
theorem W_spec_BundleText (list_ : List T_impl_Step) (r' : ByteArray × Bool) (h0' : spec_BundleText list_ = some r') : Fn X 37 [.one (.list false 3 (List.map (r_T_impl_Step false) list_))] [.one (.sc (.string r'.1)), .one (.sc (.bool r'.2))] [] := by
  have H' := And.intro t3 (And.intro t5 (And.intro t9 (And.intro t22 (And.intro t28 (And.intro t36 (And.intro t43 (And.intro t75 (And.intro t77 (And.intro t80 (And.intro R_T_impl_Change (And.intro R_T_impl_Step (And.intro R_i64 (And.intro R_s (R_u8))))))))))))))
  unfold spec_BundleText at h0'
  refine Fn.start (fn := f37) (N := 148) (res := [.tmp 2, .tmp 3]) rfl rfl rfl rfl rfl (by simp) ?_
  refine enterG H' ?_
  refine wpV_seq1 ?_
  refine wpV_region ?_
  refine ops H' ?_
  refine opsN ?_
  refine wpV_seq1 ?_
  refine wpV_seq1 ?_
  refine wpV_region ?_
  refine ops H' ?_
  refine opsN ?_
  refine wpV_split (fun hc' => ?_) (fun hc' => ?_)
  · replace h0' := (ifT hc').symm.trans h0'
    refine wpV_seq1 ?_
    refine wpV_region ?_
    refine ops H' ?_
    refine opsN ?_
    refine retN ?_
    obtain rfl := Option.some.inj h0'
    exact outG H' rfl rfl
  · replace h0' := (ifF hc').symm.trans h0'
    refine skipN ?_
    refine wpV_seq1 ?_
    refine wpV_region ?_
    refine ops H' ?_
    obtain ⟨x17, hy', h0'⟩ := Option.bind_eq_some_iff.1 h0'
    refine callG H' (fun _ => []) (W_spec_l01Var _ _ hy') ?_
    obtain ⟨t, hv', h0'⟩ := Option.bind_eq_some_iff.1 h0'
    have H' := And.intro (sapp_f hv') H'
    refine ops H' ?_
    refine opsN ?_
    refine wpV_seqJ (fun e' => ∃ out_, spec_BundleText_j1 out_ = some r' ∧ e' = { N := 148, np := 1, nx := 2, sl := [(4, .pl (.one (.ref 1 [])))], ob := [(1, .list true 1 (List.map (rK .u8) out_))] }) ?_ ?_
    · refine wpV_seq1 ?_
      refine wpV_region ?_
      refine ops H' ?_
      refine opsN ?_
      obtain ⟨p, hl', h0'⟩ := Option.bind_eq_some_iff.1 h0'
      refine wpV_block ?_
      refine wpV_loopM (fun s' e' => ∃ i out__1, s' = (i, out__1) ∧ e' = { N := 148, np := 1, nx := 2, sl := [(0, .pl (.one (.v (.list false 3 (List.map (r_T_impl_Step false) list_))))), (4, .pl (.one (.ref 1 []))), (5, .pl (.one (.v (.sc (.int .i64 i)))))], ob := [(1, .list true 1 (List.map (rK .u8) out__1))] }) hl' (shd [0, 4, 5] [(2, 1)] 2 ⟨_, _, rfl, rfl⟩) ?_
      rintro s' y1' e' h1' ⟨i, out__1, rfl, rfl⟩
      replace h1' : spec_BundleText_l1 list_ i out__1 = some y1' := h1'
      unfold spec_BundleText_l1 at h1'
      refine wpV_seq1 ?_
      refine wpV_seq1 ?_
      refine wpV_region ?_
      refine ops H' ?_
      refine opsN ?_
      refine wpV_split (fun hc' => ?_) (fun hc' => ?_)
      · replace h1' := (ifT hc').symm.trans h1'
        refine skipN ?_
        refine wpV_seqJ (fun e' => ∃ out__2, spec_BundleText_j2 i out__2 = some y1' ∧ e' = { N := 148, np := 1, nx := 2, sl := [(0, .pl (.one (.v (.list false 3 (List.map (r_T_impl_Step false) list_))))), (4, .pl (.one (.ref 1 []))), (5, .pl (.one (.v (.sc (.int .i64 i)))))], ob := [(1, .list true 1 (List.map (rK .u8) out__2))] }) ?_ ?_
        · refine wpV_block ?_
          refine wpV_seq1 ?_
          refine wpV_region ?_
          obtain ⟨x, hv', h1'⟩ := Option.bind_eq_some_iff.1 h1'
          have H' := And.intro (geti_f hv') H'
          refine ops H' ?_
          refine opsN ?_
          refine wpV_seq1 ?_
          refine wpV_seq1 ?_
          refine wpV_region ?_
          refine ops H' ?_
          obtain ⟨b, gh1', h1'⟩ := Option.bind_eq_some_iff.1 h1'
          refine opsV_cut 5 (fun e' => e' = { N := 148, np := 1, nx := 3, sl := [(0, .pl (.one (.v (.list false 3 (List.map (r_T_impl_Step false) list_))))), (4, .pl (.one (.ref 1 []))), (5, .pl (.one (.v (.sc (.int .i64 i))))), (6, .pl (.one (.ref 2 []))), (39, .pl (.one (.v (.sc (.bool b)))))], ob := [(1, .list true 1 (List.map (rK .u8) out__1)), (2, .box true [.list false 1 (List.map (rK .i64) x.Parents), .sc (.string x.Note), .list false 4 (List.map (r_T_impl_Change false) x.Changes)])] }) ?_ ?_
          · simp only [List.take_succ_cons, List.take_zero]
            refine opsV_sp (fun hc' => ?_) (fun hc' => ?_)
            · replace gh1' := (ifF hc').symm.trans gh1'
              refine ops H' ?_
              obtain rfl := Option.some.inj gh1'
              refine opsV_nil ?_
              exact ⟨rfl, shd [0, 4, 5, 6, 39] [(1, 1), (2, 2)] 3 rfl⟩
            · replace gh1' := (ifT hc').symm.trans gh1'
              refine ops H' ?_
              obtain rfl := Option.some.inj gh1'
              refine opsV_nil ?_
              exact ⟨rfl, shd [0, 4, 5, 6, 39] [(1, 1), (2, 2)] 3 rfl⟩
          · rintro e' rfl
            simp only [List.drop_succ_cons, List.drop_zero]
            refine ops H' ?_
            obtain ⟨b_1, gh1', h1'⟩ := Option.bind_eq_some_iff.1 h1'
            refine opsV_cut 5 (fun e' => e' = { N := 148, np := 1, nx := 3, sl := [(0, .pl (.one (.v (.list false 3 (List.map (r_T_impl_Step false) list_))))), (4, .pl (.one (.ref 1 []))), (5, .pl (.one (.v (.sc (.int .i64 i))))), (6, .pl (.one (.ref 2 []))), (45, .pl (.one (.v (.sc (.bool b_1)))))], ob := [(1, .list true 1 (List.map (rK .u8) out__1)), (2, .box true [.list false 1 (List.map (rK .i64) x.Parents), .sc (.string x.Note), .list false 4 (List.map (r_T_impl_Change false) x.Changes)])] }) ?_ ?_
            · simp only [List.take_succ_cons, List.take_zero]
              refine opsV_sp (fun hc' => ?_) (fun hc' => ?_)
              · replace gh1' := (ifF hc').symm.trans gh1'
                refine ops H' ?_
                obtain rfl := Option.some.inj gh1'
                refine opsV_nil ?_
                exact ⟨rfl, shd [0, 4, 5, 6, 45] [(1, 1), (2, 2)] 3 rfl⟩
              · replace gh1' := (ifT hc').symm.trans gh1'
                refine ops H' ?_
                obtain rfl := Option.some.inj gh1'
                refine opsV_nil ?_
                exact ⟨rfl, shd [0, 4, 5, 6, 45] [(1, 1), (2, 2)] 3 rfl⟩
            · rintro e' rfl
              simp only [List.drop_succ_cons, List.drop_zero]
              refine opsN ?_
              refine wpV_split (fun hc' => ?_) (fun hc' => ?_)
              · replace h1' := (ifT hc').symm.trans h1'
                refine wpV_seq1 ?_
                refine wpV_region ?_
                refine ops H' ?_
                refine opsN ?_
                refine retN ?_
                obtain rfl := Option.some.inj h1'
                refine ⟨_, rfl, fun hr' => ?_⟩
                subst hr'
                obtain rfl := Option.some.inj h0'
                exact outG H' rfl rfl
              · replace h1' := (ifF hc').symm.trans h1'
                refine skipN ?_
                refine wpV_seq1 ?_
                refine wpV_region ?_
                refine ops H' ?_
                obtain ⟨x49, hy', h1'⟩ := Option.bind_eq_some_iff.1 h1'
                refine callG H' (fun _ => []) (W_spec_l01Var _ _ hy') ?_
                refine ops H' ?_
                refine opsN ?_
                refine wpV_seqJ (fun e' => ∃ s, spec_BundleText_j3 i out__1 x s = some y1' ∧ e' = { N := 148, np := 1, nx := 3, sl := [(0, .pl (.one (.v (.list false 3 (List.map (r_T_impl_Step false) list_))))), (4, .pl (.one (.ref 1 []))), (5, .pl (.one (.v (.sc (.int .i64 i))))), (6, .pl (.one (.ref 2 []))), (7, .pl (.one (.v (.sc (.string s)))))], ob := [(1, .list true 1 (List.map (rK .u8) out__1)), (2, .box true [.list false 1 (List.map (rK .i64) x.Parents), .sc (.string x.Note), .list false 4 (List.map (r_T_impl_Change false) x.Changes)])] }) ?_ ?_
                · refine wpV_seq1 ?_
                  refine wpV_region ?_
                  refine ops H' ?_
                  refine opsN ?_
                  obtain ⟨p_3, hl', h1'⟩ := Option.bind_eq_some_iff.1 h1'
                  refine wpV_block ?_
                  refine wpV_loopM (fun s' e' => ∃ s_3 k_1, s' = (s_3, k_1) ∧ e' = { N := 148, np := 1, nx := 3, sl := [(0, .pl (.one (.v (.list false 3 (List.map (r_T_impl_Step false) list_))))), (4, .pl (.one (.ref 1 []))), (5, .pl (.one (.v (.sc (.int .i64 i))))), (6, .pl (.one (.ref 2 []))), (7, .pl (.one (.v (.sc (.string s_3))))), (8, .pl (.one (.v (.sc (.int .i64 k_1)))))], ob := [(1, .list true 1 (List.map (rK .u8) out__1)), (2, .box true [.list false 1 (List.map (rK .i64) x.Parents), .sc (.string x.Note), .list false 4 (List.map (r_T_impl_Change false) x.Changes)])] }) hl' (shd [0, 4, 5, 6, 7, 8] [(1, 1), (2, 2)] 3 ⟨_, _, rfl, rfl⟩) ?_
                  rintro s' y2' e' h2' ⟨s_3, k_1, rfl, rfl⟩
                  replace h2' : spec_BundleText_l4 x s_3 k_1 = some y2' := h2'
                  unfold spec_BundleText_l4 at h2'
                  refine wpV_seq1 ?_
                  refine wpV_seq1 ?_
                  refine wpV_region ?_
                  refine ops H' ?_
                  refine opsN ?_
                  refine wpV_split (fun hc' => ?_) (fun hc' => ?_)
                  · replace h2' := (ifT hc').symm.trans h2'
                    refine skipN ?_
                    refine wpV_seq1 ?_
                    refine wpV_block ?_
                    refine wpV_seq1 ?_
                    refine wpV_seq1 ?_
                    refine wpV_region ?_
                    obtain ⟨x_3, hv', h2'⟩ := Option.bind_eq_some_iff.1 h2'
                    have H' := And.intro (geti_f hv') H'
                    refine ops H' ?_
                    obtain ⟨x62, hy', h2'⟩ := Option.bind_eq_some_iff.1 h2'
                    refine callG H' (fun _ => []) (W_spec_l01In _ _ _ _ hy') ?_
                    refine ops H' ?_
                    refine opsN ?_
                    refine wpV_split (fun hc' => ?_) (fun hc' => ?_)
                    · replace h2' := (ifT hc').symm.trans h2'
                      refine wpV_seq1 ?_
                      refine wpV_region ?_
                      refine ops H' ?_
                      refine opsN ?_
                      refine retN ?_
                      obtain rfl := Option.some.inj h2'
                      refine ⟨_, rfl, fun hr' => ?_⟩
                      subst hr'
                      obtain rfl := Option.some.inj h1'
                      refine ⟨_, rfl, fun hr' => ?_⟩
                      subst hr'
                      obtain rfl := Option.some.inj h0'
                      exact outG H' rfl rfl
                    · replace h2' := (ifF hc').symm.trans h2'
                      refine skipN ?_
                      refine wpV_region ?_
                      refine ops H' ?_
                      obtain ⟨x70, hy', h2'⟩ := Option.bind_eq_some_iff.1 h2'
                      refine callG H' (fun _ => []) (W_spec_l01Var _ _ hy') ?_
                      obtain ⟨t_7, hv', h2'⟩ := Option.bind_eq_some_iff.1 h2'
                      have H' := And.intro (sapp_f hv') H'
                      refine ops H' ?_
                      refine opsN ?_
                      refine wpV_region ?_
                      refine ops H' ?_
                      refine opsN ?_
                      obtain rfl := Option.some.inj h2'
                      exact shd [0, 4, 5, 6, 7, 8] [(1, 1), (2, 2)] 3 ⟨_, rfl, _, _, rfl, rfl⟩
                  · replace h2' := (ifF hc').symm.trans h2'
                    refine exitN ?_
                    obtain rfl := Option.some.inj h2'
                    refine ⟨_, rfl, fun hr' => ?_⟩
                    subst hr'
                    exact shd [0, 4, 5, 6, 7] [(1, 1), (2, 2)] 3 ⟨_, h1', rfl⟩
                · rintro e' ⟨s, h1', rfl⟩
                  unfold spec_BundleText_j3 at h1'
                  refine wpV_seq1 ?_
                  obtain ⟨x76, hy_x76, h1'⟩ := Option.bind_eq_some_iff.1 h1'
                  obtain ⟨t_1, hv', h1'⟩ := Option.bind_eq_some_iff.1 h1'
                  have H' := And.intro (sapp_f hv') H'
                  obtain ⟨x81, hy_x81, h1'⟩ := Option.bind_eq_some_iff.1 h1'
                  obtain ⟨t_2, hv', h1'⟩ := Option.bind_eq_some_iff.1 h1'
                  have H' := And.intro (sapp_f hv') H'
                  obtain ⟨l, hv', h1'⟩ := Option.bind_eq_some_iff.1 h1'
                  have H' := And.intro (appn_f hv') H'
                  refine wpV_J (fun e' => e' = { N := 148, np := 1, nx := 3, sl := [(0, .pl (.one (.v (.list false 3 (List.map (r_T_impl_Step false) list_))))), (4, .pl (.one (.ref 1 []))), (5, .pl (.one (.v (.sc (.int .i64 i))))), (6, .pl (.one (.ref 2 [])))], ob := [(1, .list true 1 (List.map (rK .u8) l)), (2, .box true [.list false 1 (List.map (rK .i64) x.Parents), .sc (.string x.Note), .list false 4 (List.map (r_T_impl_Change false) x.Changes)])] }) ?_ ?_
                  · refine regAnyF [(3, 75, .pl (.one (.v (.sc (.string x.Note))))), (4, 76, .pl (.one (.v (.sc (.string x76))))), (5, 77, .pl (.one (.v (.sc (.string t_1))))), (7, 79, .pl (.one (.v (.list false 4 (List.map (r_T_impl_Change false) x.Changes))))), (8, 80, .pl (.one (.v (.sc (.int .i64 (x.Changes.length : Int)))))), (9, 81, .pl (.one (.v (.sc (.string x81))))), (10, 82, .pl (.one (.v (.sc (.string t_2)))))] ?_
                    refine (?_ : anyF X ?ops17_0_0 _ _ ?P17_0_0 _)
                    have d17_0_0_0' : anyF X ?ops17_0_0 [0, 1, 2, 3, 4, 5, 6, 7, 8, 9, 10, 11, 12, 13] [] ?P17_0_0 { N := 148, np := 1, nx := 3, sl := [(0, .pl (.one (.v (.list false 3 (List.map (r_T_impl_Step false) list_))))), (4, .pl (.one (.ref 1 []))), (5, .pl (.one (.v (.sc (.int .i64 i))))), (6, .pl (.one (.ref 2 [])))], ob := [(1, .list true 1 (List.map (rK .u8) l)), (2, .box true [.list false 1 (List.map (rK .i64) x.Parents), .sc (.string x.Note), .list false 4 (List.map (r_T_impl_Change false) x.Changes)])] } := by
                      refine fend (e2 := { N := 148, np := 1, nx := 3, sl := [(0, .pl (.one (.v (.list false 3 (List.map (r_T_impl_Step false) list_))))), (4, .pl (.one (.ref 1 []))), (5, .pl (.one (.v (.sc (.int .i64 i))))), (6, .pl (.one (.ref 2 [])))], ob := [(1, .list true 1 (List.map (rK .u8) l)), (2, .box true [.list false 1 (List.map (rK .i64) x.Parents), .sc (.string x.Note), .list false 4 (List.map (r_T_impl_Change false) x.Changes)])] }) [] [] [] [] trivial ⟨rfl, shd [0, 4, 5, 6] [(1, 1), (2, 2)] 3 rfl⟩
                    have d17_0_0_1' : anyF X ?ops17_0_0 [0, 1, 2, 3, 4, 5, 6, 7, 8, 9, 10, 11, 12] [] ?P17_0_0 { N := 148, np := 1, nx := 3, sl := [(0, .pl (.one (.v (.list false 3 (List.map (r_T_impl_Step false) list_))))), (5, .pl (.one (.v (.sc (.int .i64 i))))), (6, .pl (.one (.ref 1 []))), (84, .pl (.one (.ref 2 [])))], ob := [(1, .box true [.list false 1 (List.map (rK .i64) x.Parents), .sc (.string x.Note), .list false 4 (List.map (r_T_impl_Change false) x.Changes)]), (2, .list true 1 (List.map (rK .u8) l))] } := by
                      refine fnode [] [.m 13 [] [0, 1, 2, 3, 4, 5, 6, 7, 8, 9, 10, 11, 12, 13] []] [] [(13, false, [], [0, 1, 2, 3, 4, 5, 6, 7, 8, 9, 10, 11, 12, 13])] ⟨?_, trivial⟩
                      · refine obMx { N := 148, np := 1, nx := 3, sl := [(0, .pl (.one (.v (.list false 3 (List.map (r_T_impl_Step false) list_))))), (5, .pl (.one (.v (.sc (.int .i64 i))))), (6, .pl (.one (.ref 1 []))), (84, .pl (.one (.ref 2 [])))], ob := [(1, .box true [.list false 1 (List.map (rK .i64) x.Parents), .sc (.string x.Note), .list false 4 (List.map (r_T_impl_Change false) x.Changes)]), (2, .list true 1 (List.map (rK .u8) l))] } ?_
                        refine ops H' ?_
                        refine opsV_nil ⟨rfl, .inl ⟨rfl, ?_⟩⟩
                        exact anyFShd [0, 4, 5, 6] [(2, 1), (1, 2)] 3 d17_0_0_0'
                    have d17_0_0_2' : anyF X ?ops17_0_0 [0, 1, 2, 3, 4, 5, 6, 7, 8, 9, 10, 11] [] ?P17_0_0 { N := 148, np := 1, nx := 4, sl := [(0, .pl (.one (.v (.list false 3 (List.map (r_T_impl_Step false) list_))))), (5, .pl (.one (.v (.sc (.int .i64 i))))), (6, .pl (.one (.ref 1 []))), (72, .pl (.one (.ref 2 []))), (83, .pl (.one (.ref 3 [])))], ob := [(1, .box true [.list false 1 (List.map (rK .i64) x.Parents), .sc (.string x.Note), .list false 4 (List.map (r_T_impl_Change false) x.Changes)]), (2, .list true 1 (List.map (rK .u8) out__1)), (3, .list true 1 (List.map (rK .u8) (bytesL t_2)))] } := by
                      refine fnode [] [.m 12 [] [0, 1, 2, 3, 4, 5, 6, 7, 8, 9, 10, 11, 12] []] [] [(12, false, [], [0, 1, 2, 3, 4, 5, 6, 7, 8, 9, 10, 11, 12])] ⟨?_, trivial⟩
                      · refine obMx { N := 148, np := 1, nx := 4, sl := [(0, .pl (.one (.v (.list false 3 (List.map (r_T_impl_Step false) list_))))), (5, .pl (.one (.v (.sc (.int .i64 i))))), (6, .pl (.one (.ref 1 []))), (72, .pl (.one (.ref 2 []))), (83, .pl (.one (.ref 3 [])))], ob := [(1, .box true [.list false 1 (List.map (rK .i64) x.Parents), .sc (.string x.Note), .list false 4 (List.map (r_T_impl_Change false) x.Changes)]), (2, .list true 1 (List.map (rK .u8) out__1)), (3, .list true 1 (List.map (rK .u8) (bytesL t_2)))] } ?_
                        refine ops H' ?_
                        refine opsV_nil ⟨rfl, .inl ⟨rfl, ?_⟩⟩
                        exact anyFShd [0, 5, 6, 84] [(1, 1), (2, 2)] 3 d17_0_0_1'
                    have d17_0_0_3' : anyF X ?ops17_0_0 [0, 1, 2, 6] [(3, 75, .pl (.one (.v (.sc (.string x.Note))))), (4, 76, .pl (.one (.v (.sc (.string x76))))), (5, 77, .pl (.one (.v (.sc (.string t_1))))), (7, 79, .pl (.one (.v (.list false 4 (List.map (r_T_impl_Change false) x.Changes))))), (8, 80, .pl (.one (.v (.sc (.int .i64 (x.Changes.length : Int)))))), (9, 81, .pl (.one (.v (.sc (.string x81))))), (10, 82, .pl (.one (.v (.sc (.string t_2)))))] ?P17_0_0 { N := 148, np := 1, nx := 3, sl := [(0, .pl (.one (.v (.list false 3 (List.map (r_T_impl_Step false) list_))))), (5, .pl (.one (.v (.sc (.int .i64 i))))), (6, .pl (.one (.ref 1 []))), (72, .pl (.one (.ref 2 []))), (73, .pl (.one (.v (.sc (.string s))))), (74, .pl (.one (.addr 1 [] 0 0 1))), (78, .pl (.one (.addr 1 [] 0 0 2)))], ob := [(1, .box true [.list false 1 (List.map (rK .i64) x.Parents), .sc (.string x.Note), .list false 4 (List.map (r_T_impl_Change false) x.Changes)]), (2, .list true 1 (List.map (rK .u8) out__1))] } := by
                      refine fnode [3, 4, 5, 7, 8, 9, 10] [.q 3 75 (.pl (.one (.v (.sc (.string x.Note))))) [], .q 4 76 (.pl (.one (.v (.sc (.string x76))))) [3], .q 5 77 (.pl (.one (.v (.sc (.string t_1))))) [4], .q 7 79 (.pl (.one (.v (.list false 4 (List.map (r_T_impl_Change false) x.Changes))))) [], .q 8 80 (.pl (.one (.v (.sc (.int .i64 (x.Changes.length : Int)))))) [7], .q 9 81 (.pl (.one (.v (.sc (.string x81))))) [4, 8], .q 10 82 (.pl (.one (.v (.sc (.string t_2))))) [5, 9], .m 11 [10, 5, 9, 4, 8, 3, 7] [0, 1, 2, 3, 4, 5, 6, 7, 8, 9, 10, 11] []] [(3, 75), (4, 76), (5, 77), (7, 79), (8, 80), (9, 81), (10, 82)] [(3, true, [], []), (4, true, [3], []), (5, true, [4], []), (7, true, [], []), (8, true, [7], []), (9, true, [4, 8], []), (10, true, [5, 9], []), (11, false, [10, 5, 9, 4, 8, 3, 7], [0, 1, 2, 3, 4, 5, 6, 7, 8, 9, 10, 11])] ⟨?_, ?_, ?_, ?_, ?_, ?_, ?_, ?_, trivial⟩
                      · refine obQx 0 { N := 148, np := 1, nx := 3, sl := [(0, .pl (.one (.v (.list false 3 (List.map (r_T_impl_Step false) list_))))), (5, .pl (.one (.v (.sc (.int .i64 i))))), (6, .pl (.one (.ref 1 []))), (72, .pl (.one (.ref 2 []))), (73, .pl (.one (.v (.sc (.string s))))), (74, .pl (.one (.addr 1 [] 0 0 1))), (78, .pl (.one (.addr 1 [] 0 0 2)))], ob := [(1, .box true [.list false 1 (List.map (rK .i64) x.Parents), .sc (.string x.Note), .list false 4 (List.map (r_T_impl_Change false) x.Changes)]), (2, .list true 1 (List.map (rK .u8) out__1))] } ?_
                        refine ops H' ?_
                        refine opsV_nil ⟨rfl, shd [75, 0, 5, 6, 72, 73, 74, 78] [(1, 1), (2, 2)] 3 rfl⟩
                      · refine obQx 1 { N := 148, np := 1, nx := 3, sl := [(75, .pl (.one (.v (.sc (.string x.Note))))), (0, .pl (.one (.v (.list false 3 (List.map (r_T_impl_Step false) list_))))), (5, .pl (.one (.v (.sc (.int .i64 i))))), (6, .pl (.one (.ref 1 []))), (72, .pl (.one (.ref 2 []))), (73, .pl (.one (.v (.sc (.string s))))), (74, .pl (.one (.addr 1 [] 0 0 1))), (78, .pl (.one (.addr 1 [] 0 0 2)))], ob := [(1, .box true [.list false 1 (List.map (rK .i64) x.Parents), .sc (.string x.Note), .list false 4 (List.map (r_T_impl_Change false) x.Changes)]), (2, .list true 1 (List.map (rK .u8) out__1))] } ?_
                        refine callG H' (fun _ => []) (W_spec_l17Short _ _ hy_x76) ?_
                        refine opsV_nil ⟨rfl, shd [76, 0, 5, 6, 72, 73, 74, 78] [(1, 1), (2, 2)] 3 rfl⟩
                      · refine obQx 2 { N := 148, np := 1, nx := 3, sl := [(76, .pl (.one (.v (.sc (.string x76))))), (0, .pl (.one (.v (.list false 3 (List.map (r_T_impl_Step false) list_))))), (5, .pl (.one (.v (.sc (.int .i64 i))))), (6, .pl (.one (.ref 1 []))), (72, .pl (.one (.ref 2 []))), (73, .pl (.one (.v (.sc (.string s))))), (74, .pl (.one (.addr 1 [] 0 0 1))), (78, .pl (.one (.addr 1 [] 0 0 2)))], ob := [(1, .box true [.list false 1 (List.map (rK .i64) x.Parents), .sc (.string x.Note), .list false 4 (List.map (r_T_impl_Change false) x.Changes)]), (2, .list true 1 (List.map (rK .u8) out__1))] } ?_
                        refine ops H' ?_
                        refine opsV_nil ⟨rfl, shd [77, 0, 5, 6, 72, 73, 74, 78] [(1, 1), (2, 2)] 3 rfl⟩
                      · refine obQx 3 { N := 148, np := 1, nx := 3, sl := [(0, .pl (.one (.v (.list false 3 (List.map (r_T_impl_Step false) list_))))), (5, .pl (.one (.v (.sc (.int .i64 i))))), (6, .pl (.one (.ref 1 []))), (72, .pl (.one (.ref 2 []))), (73, .pl (.one (.v (.sc (.string s))))), (74, .pl (.one (.addr 1 [] 0 0 1))), (78, .pl (.one (.addr 1 [] 0 0 2)))], ob := [(1, .box true [.list false 1 (List.map (rK .i64) x.Parents), .sc (.string x.Note), .list false 4 (List.map (r_T_impl_Change false) x.Changes)]), (2, .list true 1 (List.map (rK .u8) out__1))] } ?_
                        refine ops H' ?_
                        refine opsV_nil ⟨rfl, shd [79, 0, 5, 6, 72, 73, 74, 78] [(1, 1), (2, 2)] 3 rfl⟩
                      · refine obQx 4 { N := 148, np := 1, nx := 3, sl := [(79, .pl (.one (.v (.list false 4 (List.map (r_T_impl_Change false) x.Changes))))), (0, .pl (.one (.v (.list false 3 (List.map (r_T_impl_Step false) list_))))), (5, .pl (.one (.v (.sc (.int .i64 i))))), (6, .pl (.one (.ref 1 []))), (72, .pl (.one (.ref 2 []))), (73, .pl (.one (.v (.sc (.string s))))), (74, .pl (.one (.addr 1 [] 0 0 1))), (78, .pl (.one (.addr 1 [] 0 0 2)))], ob := [(1, .box true [.list false 1 (List.map (rK .i64) x.Parents), .sc (.string x.Note), .list false 4 (List.map (r_T_impl_Change false) x.Changes)]), (2, .list true 1 (List.map (rK .u8) out__1))] } ?_
                        refine ops H' ?_
                        refine opsV_nil ⟨rfl, shd [80, 0, 5, 6, 72, 73, 74, 78] [(1, 1), (2, 2)] 3 rfl⟩
                      · refine obQx 5 { N := 148, np := 1, nx := 3, sl := [(76, .pl (.one (.v (.sc (.string x76))))), (80, .pl (.one (.v (.sc (.int .i64 (x.Changes.length : Int)))))), (0, .pl (.one (.v (.list false 3 (List.map (r_T_impl_Step false) list_))))), (5, .pl (.one (.v (.sc (.int .i64 i))))), (6, .pl (.one (.ref 1 []))), (72, .pl (.one (.ref 2 []))), (73, .pl (.one (.v (.sc (.string s))))), (74, .pl (.one (.addr 1 [] 0 0 1))), (78, .pl (.one (.addr 1 [] 0 0 2)))], ob := [(1, .box true [.list false 1 (List.map (rK .i64) x.Parents), .sc (.string x.Note), .list false 4 (List.map (r_T_impl_Change false) x.Changes)]), (2, .list true 1 (List.map (rK .u8) out__1))] } ?_
                        refine callG H' (fun _ => []) (W_spec_l01Var _ _ hy_x81) ?_
                        refine opsV_nil ⟨rfl, shd [81, 0, 5, 6, 72, 73, 74, 78] [(1, 1), (2, 2)] 3 rfl⟩
                      · refine obQx 6 { N := 148, np := 1, nx := 3, sl := [(77, .pl (.one (.v (.sc (.string t_1))))), (81, .pl (.one (.v (.sc (.string x81))))), (0, .pl (.one (.v (.list false 3 (List.map (r_T_impl_Step false) list_))))), (5, .pl (.one (.v (.sc (.int .i64 i))))), (6, .pl (.one (.ref 1 []))), (72, .pl (.one (.ref 2 []))), (73, .pl (.one (.v (.sc (.string s))))), (74, .pl (.one (.addr 1 [] 0 0 1))), (78, .pl (.one (.addr 1 [] 0 0 2)))], ob := [(1, .box true [.list false 1 (List.map (rK .i64) x.Parents), .sc (.string x.Note), .list false 4 (List.map (r_T_impl_Change false) x.Changes)]), (2, .list true 1 (List.map (rK .u8) out__1))] } ?_
                        refine ops H' ?_
                        refine opsV_nil ⟨rfl, shd [82, 0, 5, 6, 72, 73, 74, 78] [(1, 1), (2, 2)] 3 rfl⟩
                      · refine obMx { N := 148, np := 1, nx := 3, sl := [(75, .pl (.one (.v (.sc (.string x.Note))))), (76, .pl (.one (.v (.sc (.string x76))))), (77, .pl (.one (.v (.sc (.string t_1))))), (79, .pl (.one (.v (.list false 4 (List.map (r_T_impl_Change false) x.Changes))))), (80, .pl (.one (.v (.sc (.int .i64 (x.Changes.length : Int)))))), (81, .pl (.one (.v (.sc (.string x81))))), (82, .pl (.one (.v (.sc (.string t_2))))), (0, .pl (.one (.v (.list false 3 (List.map (r_T_impl_Step false) list_))))), (5, .pl (.one (.v (.sc (.int .i64 i))))), (6, .pl (.one (.ref 1 []))), (72, .pl (.one (.ref 2 []))), (73, .pl (.one (.v (.sc (.string s))))), (74, .pl (.one (.addr 1 [] 0 0 1))), (78, .pl (.one (.addr 1 [] 0 0 2)))], ob := [(1, .box true [.list false 1 (List.map (rK .i64) x.Parents), .sc (.string x.Note), .list false 4 (List.map (r_T_impl_Change false) x.Changes)]), (2, .list true 1 (List.map (rK .u8) out__1))] } ?_
                        refine ops H' ?_
                        refine opsV_nil ⟨rfl, .inl ⟨rfl, ?_⟩⟩
                        exact anyFShd [0, 5, 6, 72, 83] [(1, 1), (2, 2), (3, 3)] 4 d17_0_0_2'
                    refine fpure H' 0 [0] [(3, 75), (4, 76), (5, 77), (7, 79), (8, 80), (9, 81), (10, 82)] ?_
                    refine fpure H' 1 [0, 1] [(3, 75), (4, 76), (5, 77), (7, 79), (8, 80), (9, 81), (10, 82)] ?_
                    refine fpure H' 2 [0, 1, 2] [(3, 75), (4, 76), (5, 77), (7, 79), (8, 80), (9, 81), (10, 82)] ?_
                    refine fpure H' 6 [0, 1, 2, 6] [(3, 75), (4, 76), (5, 77), (7, 79), (8, 80), (9, 81), (10, 82)] ?_
                    exact anyFShd [0, 5, 6, 72, 73, 74, 78] [(2, 1), (1, 2)] 3 d17_0_0_3'
                  · rintro e' rfl
                    refine contN ?_
                    refine wpV_seqJ (fun e' => ∃ out__3, spec_BundleText_j4 i out__3 = some y1' ∧ e' = { N := 148, np := 1, nx := 2, sl := [(0, .pl (.one (.v (.list false 3 (List.map (r_T_impl_Step false) list_))))), (4, .pl (.one (.ref 1 []))), (5, .pl (.one (.v (.sc (.int .i64 i)))))], ob := [(1, .list true 1 (List.map (rK .u8) out__3))] }) ?_ ?_
                    · refine wpV_seq1 ?_
                      refine wpV_region ?_
                      refine ops H' ?_
                      refine opsN ?_
                      obtain ⟨p_1, hl', h1'⟩ := Option.bind_eq_some_iff.1 h1'
                      refine wpV_block ?_
                      refine wpV_loopM (fun s' e' => ∃ k out__4, s' = (k, out__4) ∧ e' = { N := 148, np := 1, nx := 3, sl := [(0, .pl (.one (.v (.list false 3 (List.map (r_T_impl_Step false) list_))))), (4, .pl (.one (.ref 1 []))), (5, .pl (.one (.v (.sc (.int .i64 i))))), (6, .pl (.one (.ref 2 []))), (9, .pl (.one (.v (.sc (.int .i64 k)))))], ob := [(1, .list true 1 (List.map (rK .u8) out__4)), (2, .box true [.list false 1 (List.map (rK .i64) x.Parents), .sc (.string x.Note), .list false 4 (List.map (r_T_impl_Change false) x.Changes)])] }) hl' (shd [0, 4, 5, 6, 9] [(1, 1), (2, 2)] 3 ⟨_, _, rfl, rfl⟩) ?_
                      rintro s' y2' e' h2' ⟨k, out__4, rfl, rfl⟩
                      replace h2' : spec_BundleText_l2 x k out__4 = some y2' := h2'
                      unfold spec_BundleText_l2 at h2'
                      refine wpV_seq1 ?_
                      refine wpV_seq1 ?_
                      refine wpV_region ?_
                      refine ops H' ?_
                      refine opsN ?_
                      refine wpV_split (fun hc' => ?_) (fun hc' => ?_)
                      · replace h2' := (ifT hc').symm.trans h2'
                        refine skipN ?_
                        refine wpV_seqJ (fun e' => ∃ out__5, spec_BundleText_j5 k out__5 = some y2' ∧ e' = { N := 148, np := 1, nx := 3, sl := [(0, .pl (.one (.v (.list false 3 (List.map (r_T_impl_Step false) list_))))), (4, .pl (.one (.ref 1 []))), (5, .pl (.one (.v (.sc (.int .i64 i))))), (6, .pl (.one (.ref 2 []))), (9, .pl (.one (.v (.sc (.int .i64 k)))))], ob := [(1, .list true 1 (List.map (rK .u8) out__5)), (2, .box true [.list false 1 (List.map (rK .i64) x.Parents), .sc (.string x.Note), .list false 4 (List.map (r_T_impl_Change false) x.Changes)])] }) ?_ ?_
                        · refine wpV_block ?_
                          refine wpV_seq1 ?_
                          refine wpV_region ?_
                          obtain ⟨x_1, hv', h2'⟩ := Option.bind_eq_some_iff.1 h2'
                          have H' := And.intro (geti_f hv') H'
                          refine ops H' ?_
                          refine opsN ?_
                          refine wpV_seq1 ?_
                          refine wpV_seq1 ?_
                          refine wpV_region ?_
                          refine ops H' ?_
                          obtain ⟨x98, hy', h2'⟩ := Option.bind_eq_some_iff.1 h2'
                          refine callG H' (fun _ => []) (W_spec_l22ChangeOk _ _ hy') ?_
                          refine ops H' ?_
                          refine opsN ?_
                          refine wpV_split (fun hc' => ?_) (fun hc' => ?_)
                          · replace h2' := (ifT hc').symm.trans h2'
                            refine wpV_seq1 ?_
                            refine wpV_region ?_
                            refine ops H' ?_
                            refine opsN ?_
                            refine retN ?_
                            obtain rfl := Option.some.inj h2'
                            refine ⟨_, rfl, fun hr' => ?_⟩
                            subst hr'
                            obtain rfl := Option.some.inj h1'
                            refine ⟨_, rfl, fun hr' => ?_⟩
                            subst hr'
                            obtain rfl := Option.some.inj h0'
                            exact outG H' rfl rfl
                          · replace h2' := (ifF hc').symm.trans h2'
                            refine skipN ?_
                            refine wpV_seq1 ?_
                            have H' := And.intro (show bytesOf [[V.sc (.int .u8 (wk .u8 x_1.Kind))]] = some [(wk .u8 x_1.Kind)] from bytesOf_rK [(wk .u8 x_1.Kind)]) H'
                            obtain ⟨x107, hy_x107, h2'⟩ := Option.bind_eq_some_iff.1 h2'
                            obtain ⟨t_3, hv', h2'⟩ := Option.bind_eq_some_iff.1 h2'
                            have H' := And.intro (sapp_f hv') H'
                            obtain ⟨x111, hy_x111, h2'⟩ := Option.bind_eq_some_iff.1 h2'
                            obtain ⟨t_4, hv', h2'⟩ := Option.bind_eq_some_iff.1 h2'
                            have H' := And.intro (sapp_f hv') H'
                            obtain ⟨x116, hy_x116, h2'⟩ := Option.bind_eq_some_iff.1 h2'
                            obtain ⟨t_5, hv', h2'⟩ := Option.bind_eq_some_iff.1 h2'
                            have H' := And.intro (sapp_f hv') H'
                            refine wpV_J (fun e' => e' = { N := 148, np := 1, nx := 4, sl := [(0, .pl (.one (.v (.list false 3 (List.map (r_T_impl_Step false) list_))))), (4, .pl (.one (.ref 1 []))), (5, .pl (.one (.v (.sc (.int .i64 i))))), (6, .pl (.one (.ref 2 []))), (7, .pl (.one (.v (.sc (.string t_5))))), (9, .pl (.one (.v (.sc (.int .i64 k))))), (10, .pl (.one (.ref 3 [])))], ob := [(1, .list true 1 (List.map (rK .u8) out__4)), (2, .box true [.list false 1 (List.map (rK .i64) x.Parents), .sc (.string x.Note), .list false 4 (List.map (r_T_impl_Change false) x.Changes)]), (3, .box true [.sc (.int .i64 x_1.Kind), .sc (.string x_1.Path), .sc (.string x_1.To), .list false 1 (List.map rS x_1.Lines)])] }) ?_ ?_
                            · refine regAnyF [(1, 101, .pl (.one (.v (.sc (.int .i64 x_1.Kind))))), (2, 102, .pl (.one (.v (.sc (.int .u8 (wk .u8 x_1.Kind)))))), (4, 104, .pl (.one (.v (.sc (.string (mkS [(wk .u8 x_1.Kind)])))))), (6, 106, .pl (.one (.v (.sc (.string x_1.Path))))), (7, 107, .pl (.one (.v (.sc (.string x107))))), (8, 108, .pl (.one (.v (.sc (.string t_3))))), (10, 110, .pl (.one (.v (.sc (.string x_1.To))))), (11, 111, .pl (.one (.v (.sc (.string x111))))), (12, 112, .pl (.one (.v (.sc (.string t_4))))), (14, 114, .pl (.one (.v (.list false 1 (List.map rS x_1.Lines))))), (15, 115, .pl (.one (.v (.sc (.int .i64 (x_1.Lines.length : Int)))))), (16, 116, .pl (.one (.v (.sc (.string x116))))), (17, 117, .pl (.one (.v (.sc (.string t_5))))), (18, 7, .pl (.one (.v (.sc (.string t_5)))))] ?_
                              refine (?_ : anyF X ?ops24_1_0 _ _ ?P24_1_0 _)
                              have d24_1_0_0' : anyF X ?ops24_1_0 [0, 1, 2, 3, 5, 9, 13] [(4, 104, .pl (.one (.v (.sc (.string (mkS [(wk .u8 x_1.Kind)])))))), (6, 106, .pl (.one (.v (.sc (.string x_1.Path))))), (7, 107, .pl (.one (.v (.sc (.string x107))))), (8, 108, .pl (.one (.v (.sc (.string t_3))))), (10, 110, .pl (.one (.v (.sc (.string x_1.To))))), (11, 111, .pl (.one (.v (.sc (.string x111))))), (12, 112, .pl (.one (.v (.sc (.string t_4))))), (14, 114, .pl (.one (.v (.list false 1 (List.map rS x_1.Lines))))), (15, 115, .pl (.one (.v (.sc (.int .i64 (x_1.Lines.length : Int)))))), (16, 116, .pl (.one (.v (.sc (.string x116))))), (17, 117, .pl (.one (.v (.sc (.string t_5))))), (18, 7, .pl (.one (.v (.sc (.string t_5)))))] ?P24_1_0 { N := 148, np := 1, nx := 5, sl := [(0, .pl (.one (.v (.list false 3 (List.map (r_T_impl_Step false) list_))))), (4, .pl (.one (.ref 1 []))), (5, .pl (.one (.v (.sc (.int .i64 i))))), (6, .pl (.one (.ref 2 []))), (9, .pl (.one (.v (.sc (.int .i64 k))))), (10, .pl (.one (.ref 3 []))), (103, .pl (.one (.ref 4 []))), (105, .pl (.one (.addr 3 [] 0 0 1))), (109, .pl (.one (.addr 3 [] 0 0 2))), (113, .pl (.one (.addr 3 [] 0 0 3)))], ob := [(1, .list true 1 (List.map (rK .u8) out__4)), (2, .box true [.list false 1 (List.map (rK .i64) x.Parents), .sc (.string x.Note), .list false 4 (List.map (r_T_impl_Change false) x.Changes)]), (3, .box true [.sc (.int .i64 x_1.Kind), .sc (.string x_1.Path), .sc (.string x_1.To), .list false 1 (List.map rS x_1.Lines)]), (4, .list true 1 (List.map (rK .u8) [(wk .u8 x_1.Kind)]))] } := by
                                refine fend (e2 := { N := 148, np := 1, nx := 5, sl := [(104, .pl (.one (.v (.sc (.string (mkS [(wk .u8 x_1.Kind)])))))), (106, .pl (.one (.v (.sc (.string x_1.Path))))), (107, .pl (.one (.v (.sc (.string x107))))), (108, .pl (.one (.v (.sc (.string t_3))))), (110, .pl (.one (.v (.sc (.string x_1.To))))), (111, .pl (.one (.v (.sc (.string x111))))), (112, .pl (.one (.v (.sc (.string t_4))))), (114, .pl (.one (.v (.list false 1 (List.map rS x_1.Lines))))), (115, .pl (.one (.v (.sc (.int .i64 (x_1.Lines.length : Int)))))), (116, .pl (.one (.v (.sc (.string x116))))), (117, .pl (.one (.v (.sc (.string t_5))))), (7, .pl (.one (.v (.sc (.string t_5))))), (0, .pl (.one (.v (.list false 3 (List.map (r_T_impl_Step false) list_))))), (4, .pl (.one (.ref 1 []))), (5, .pl (.one (.v (.sc (.int .i64 i))))), (6, .pl (.one (.ref 2 []))), (9, .pl (.one (.v (.sc (.int .i64 k))))), (10, .pl (.one (.ref 3 []))), (103, .pl (.one (.ref 4 []))), (105, .pl (.one (.addr 3 [] 0 0 1))), (109, .pl (.one (.addr 3 [] 0 0 2))), (113, .pl (.one (.addr 3 [] 0 0 3)))], ob := [(1, .list true 1 (List.map (rK .u8) out__4)), (2, .box true [.list false 1 (List.map (rK .i64) x.Parents), .sc (.string x.Note), .list false 4 (List.map (r_T_impl_Change false) x.Changes)]), (3, .box true [.sc (.int .i64 x_1.Kind), .sc (.string x_1.Path), .sc (.string x_1.To), .list false 1 (List.map rS x_1.Lines)]), (4, .list true 1 (List.map (rK .u8) [(wk .u8 x_1.Kind)]))] }) [4, 6, 7, 8, 10, 11, 12, 14, 15, 16, 17, 18] [.q 4 104 (.pl (.one (.v (.sc (.string (mkS [(wk .u8 x_1.Kind)])))))) [], .q 6 106 (.pl (.one (.v (.sc (.string x_1.Path))))) [], .q 7 107 (.pl (.one (.v (.sc (.string x107))))) [6], .q 8 108 (.pl (.one (.v (.sc (.string t_3))))) [4, 7], .q 10 110 (.pl (.one (.v (.sc (.string x_1.To))))) [], .q 11 111 (.pl (.one (.v (.sc (.string x111))))) [7, 10], .q 12 112 (.pl (.one (.v (.sc (.string t_4))))) [8, 11], .q 14 114 (.pl (.one (.v (.list false 1 (List.map rS x_1.Lines))))) [], .q 15 115 (.pl (.one (.v (.sc (.int .i64 (x_1.Lines.length : Int)))))) [14], .q 16 116 (.pl (.one (.v (.sc (.string x116))))) [11, 15], .q 17 117 (.pl (.one (.v (.sc (.string t_5))))) [12, 16], .q 18 7 (.pl (.one (.v (.sc (.string t_5))))) [4, 6, 7, 8, 10, 11, 12, 14, 15, 16, 17]] [(4, 104), (6, 106), (7, 107), (8, 108), (10, 110), (11, 111), (12, 112), (14, 114), (15, 115), (16, 116), (17, 117), (18, 7)] [(4, true, [], []), (6, true, [], []), (7, true, [6], []), (8, true, [4, 7], []), (10, true, [], []), (11, true, [7, 10], []), (12, true, [8, 11], []), (14, true, [], []), (15, true, [14], []), (16, true, [11, 15], []), (17, true, [12, 16], []), (18, true, [4, 6, 7, 8, 10, 11, 12, 14, 15, 16, 17], [])] ⟨?_, ?_, ?_, ?_, ?_, ?_, ?_, ?_, ?_, ?_, ?_, ?_, trivial⟩ ⟨rfl, shd [0, 4, 5, 6, 7, 9, 10] [(1, 1), (2, 2), (3, 3)] 4 rfl⟩
                                · refine obQx 0 { N := 148, np := 1, nx := 5, sl := [(0, .pl (.one (.v (.list false 3 (List.map (r_T_impl_Step false) list_))))), (4, .pl (.one (.ref 1 []))), (5, .pl (.one (.v (.sc (.int .i64 i))))), (6, .pl (.one (.ref 2 []))), (9, .pl (.one (.v (.sc (.int .i64 k))))), (10, .pl (.one (.ref 3 []))), (103, .pl (.one (.ref 4 []))), (105, .pl (.one (.addr 3 [] 0 0 1))), (109, .pl (.one (.addr 3 [] 0 0 2))), (113, .pl (.one (.addr 3 [] 0 0 3)))], ob := [(1, .list true 1 (List.map (rK .u8) out__4)), (2, .box true [.list false 1 (List.map (rK .i64) x.Parents), .sc (.string x.Note), .list false 4 (List.map (r_T_impl_Change false) x.Changes)]), (3, .box true [.sc (.int .i64 x_1.Kind), .sc (.string x_1.Path), .sc (.string x_1.To), .list false 1 (List.map rS x_1.Lines)]), (4, .list true 1 (List.map (rK .u8) [(wk .u8 x_1.Kind)]))] } ?_
                                  refine ops H' ?_
                                  refine opsV_nil ⟨rfl, shd [104, 0, 4, 5, 6, 9, 10, 103, 105, 109, 113] [(1, 1), (2, 2), (3, 3), (4, 4)] 5 rfl⟩
                                · refine obQx 1 { N := 148, np := 1, nx := 5, sl := [(0, .pl (.one (.v (.list false 3 (List.map (r_T_impl_Step false) list_))))), (4, .pl (.one (.ref 1 []))), (5, .pl (.one (.v (.sc (.int .i64 i))))), (6, .pl (.one (.ref 2 []))), (9, .pl (.one (.v (.sc (.int .i64 k))))), (10, .pl (.one (.ref 3 []))), (103, .pl (.one (.ref 4 []))), (105, .pl (.one (.addr 3 [] 0 0 1))), (109, .pl (.one (.addr 3 [] 0 0 2))), (113, .pl (.one (.addr 3 [] 0 0 3)))], ob := [(1, .list true 1 (List.map (rK .u8) out__4)), (2, .box true [.list false 1 (List.map (rK .i64) x.Parents), .sc (.string x.Note), .list false 4 (List.map (r_T_impl_Change false) x.Changes)]), (3, .box true [.sc (.int .i64 x_1.Kind), .sc (.string x_1.Path), .sc (.string x_1.To), .list false 1 (List.map rS x_1.Lines)]), (4, .list true 1 (List.map (rK .u8) [(wk .u8 x_1.Kind)]))] } ?_
                                  refine ops H' ?_
                                  refine opsV_nil ⟨rfl, shd [106, 0, 4, 5, 6, 9, 10, 103, 105, 109, 113] [(1, 1), (2, 2), (3, 3), (4, 4)] 5 rfl⟩
                                · refine obQx 2 { N := 148, np := 1, nx := 5, sl := [(106, .pl (.one (.v (.sc (.string x_1.Path))))), (0, .pl (.one (.v (.list false 3 (List.map (r_T_impl_Step false) list_))))), (4, .pl (.one (.ref 1 []))), (5, .pl (.one (.v (.sc (.int .i64 i))))), (6, .pl (.one (.ref 2 []))), (9, .pl (.one (.v (.sc (.int .i64 k))))), (10, .pl (.one (.ref 3 []))), (103, .pl (.one (.ref 4 []))), (105, .pl (.one (.addr 3 [] 0 0 1))), (109, .pl (.one (.addr 3 [] 0 0 2))), (113, .pl (.one (.addr 3 [] 0 0 3)))], ob := [(1, .list true 1 (List.map (rK .u8) out__4)), (2, .box true [.list false 1 (List.map (rK .i64) x.Parents), .sc (.string x.Note), .list false 4 (List.map (r_T_impl_Change false) x.Changes)]), (3, .box true [.sc (.int .i64 x_1.Kind), .sc (.string x_1.Path), .sc (.string x_1.To), .list false 1 (List.map rS x_1.Lines)]), (4, .list true 1 (List.map (rK .u8) [(wk .u8 x_1.Kind)]))] } ?_
                                  refine callG H' (fun _ => []) (W_spec_l17Short _ _ hy_x107) ?_
                                  refine opsV_nil ⟨rfl, shd [107, 0, 4, 5, 6, 9, 10, 103, 105, 109, 113] [(1, 1), (2, 2), (3, 3), (4, 4)] 5 rfl⟩
                                · refine obQx 3 { N := 148, np := 1, nx := 5, sl := [(104, .pl (.one (.v (.sc (.string (mkS [(wk .u8 x_1.Kind)])))))), (107, .pl (.one (.v (.sc (.string x107))))), (0, .pl (.one (.v (.list false 3 (List.map (r_T_impl_Step false) list_))))), (4, .pl (.one (.ref 1 []))), (5, .pl (.one (.v (.sc (.int .i64 i))))), (6, .pl (.one (.ref 2 []))), (9, .pl (.one (.v (.sc (.int .i64 k))))), (10, .pl (.one (.ref 3 []))), (103, .pl (.one (.ref 4 []))), (105, .pl (.one (.addr 3 [] 0 0 1))), (109, .pl (.one (.addr 3 [] 0 0 2))), (113, .pl (.one (.addr 3 [] 0 0 3)))], ob := [(1, .list true 1 (List.map (rK .u8) out__4)), (2, .box true [.list false 1 (List.map (rK .i64) x.Parents), .sc (.string x.Note), .list false 4 (List.map (r_T_impl_Change false) x.Changes)]), (3, .box true [.sc (.int .i64 x_1.Kind), .sc (.string x_1.Path), .sc (.string x_1.To), .list false 1 (List.map rS x_1.Lines)]), (4, .list true 1 (List.map (rK .u8) [(wk .u8 x_1.Kind)]))] } ?_
                                  refine ops H' ?_
                                  refine opsV_nil ⟨rfl, shd [108, 0, 4, 5, 6, 9, 10, 103, 105, 109, 113] [(1, 1), (2, 2), (3, 3), (4, 4)] 5 rfl⟩
                                · refine obQx 4 { N := 148, np := 1, nx := 5, sl := [(0, .pl (.one (.v (.list false 3 (List.map (r_T_impl_Step false) list_))))), (4, .pl (.one (.ref 1 []))), (5, .pl (.one (.v (.sc (.int .i64 i))))), (6, .pl (.one (.ref 2 []))), (9, .pl (.one (.v (.sc (.int .i64 k))))), (10, .pl (.one (.ref 3 []))), (103, .pl (.one (.ref 4 []))), (105, .pl (.one (.addr 3 [] 0 0 1))), (109, .pl (.one (.addr 3 [] 0 0 2))), (113, .pl (.one (.addr 3 [] 0 0 3)))], ob := [(1, .list true 1 (List.map (rK .u8) out__4)), (2, .box true [.list false 1 (List.map (rK .i64) x.Parents), .sc (.string x.Note), .list false 4 (List.map (r_T_impl_Change false) x.Changes)]), (3, .box true [.sc (.int .i64 x_1.Kind), .sc (.string x_1.Path), .sc (.string x_1.To), .list false 1 (List.map rS x_1.Lines)]), (4, .list true 1 (List.map (rK .u8) [(wk .u8 x_1.Kind)]))] } ?_
                                  refine ops H' ?_
                                  refine opsV_nil ⟨rfl, shd [110, 0, 4, 5, 6, 9, 10, 103, 105, 109, 113] [(1, 1), (2, 2), (3, 3), (4, 4)] 5 rfl⟩
                                · refine obQx 5 { N := 148, np := 1, nx := 5, sl := [(107, .pl (.one (.v (.sc (.string x107))))), (110, .pl (.one (.v (.sc (.string x_1.To))))), (0, .pl (.one (.v (.list false 3 (List.map (r_T_impl_Step false) list_))))), (4, .pl (.one (.ref 1 []))), (5, .pl (.one (.v (.sc (.int .i64 i))))), (6, .pl (.one (.ref 2 []))), (9, .pl (.one (.v (.sc (.int .i64 k))))), (10, .pl (.one (.ref 3 []))), (103, .pl (.one (.ref 4 []))), (105, .pl (.one (.addr 3 [] 0 0 1))), (109, .pl (.one (.addr 3 [] 0 0 2))), (113, .pl (.one (.addr 3 [] 0 0 3)))], ob := [(1, .list true 1 (List.map (rK .u8) out__4)), (2, .box true [.list false 1 (List.map (rK .i64) x.Parents), .sc (.string x.Note), .list false 4 (List.map (r_T_impl_Change false) x.Changes)]), (3, .box true [.sc (.int .i64 x_1.Kind), .sc (.string x_1.Path), .sc (.string x_1.To), .list false 1 (List.map rS x_1.Lines)]), (4, .list true 1 (List.map (rK .u8) [(wk .u8 x_1.Kind)]))] } ?_
                                  refine callG H' (fun _ => []) (W_spec_l17Short _ _ hy_x111) ?_
                                  refine opsV_nil ⟨rfl, shd [111, 0, 4, 5, 6, 9, 10, 103, 105, 109, 113] [(1, 1), (2, 2), (3, 3), (4, 4)] 5 rfl⟩
                                · refine obQx 6 { N := 148, np := 1, nx := 5, sl := [(108, .pl (.one (.v (.sc (.string t_3))))), (111, .pl (.one (.v (.sc (.string x111))))), (0, .pl (.one (.v (.list false 3 (List.map (r_T_impl_Step false) list_))))), (4, .pl (.one (.ref 1 []))), (5, .pl (.one (.v (.sc (.int .i64 i))))), (6, .pl (.one (.ref 2 []))), (9, .pl (.one (.v (.sc (.int .i64 k))))), (10, .pl (.one (.ref 3 []))), (103, .pl (.one (.ref 4 []))), (105, .pl (.one (.addr 3 [] 0 0 1))), (109, .pl (.one (.addr 3 [] 0 0 2))), (113, .pl (.one (.addr 3 [] 0 0 3)))], ob := [(1, .list true 1 (List.map (rK .u8) out__4)), (2, .box true [.list false 1 (List.map (rK .i64) x.Parents), .sc (.string x.Note), .list false 4 (List.map (r_T_impl_Change false) x.Changes)]), (3, .box true [.sc (.int .i64 x_1.Kind), .sc (.string x_1.Path), .sc (.string x_1.To), .list false 1 (List.map rS x_1.Lines)]), (4, .list true 1 (List.map (rK .u8) [(wk .u8 x_1.Kind)]))] } ?_
                                  refine ops H' ?_
                                  refine opsV_nil ⟨rfl, shd [112, 0, 4, 5, 6, 9, 10, 103, 105, 109, 113] [(1, 1), (2, 2), (3, 3), (4, 4)] 5 rfl⟩
                                · refine obQx 7 { N := 148, np := 1, nx := 5, sl := [(0, .pl (.one (.v (.list false 3 (List.map (r_T_impl_Step false) list_))))), (4, .pl (.one (.ref 1 []))), (5, .pl (.one (.v (.sc (.int .i64 i))))), (6, .pl (.one (.ref 2 []))), (9, .pl (.one (.v (.sc (.int .i64 k))))), (10, .pl (.one (.ref 3 []))), (103, .pl (.one (.ref 4 []))), (105, .pl (.one (.addr 3 [] 0 0 1))), (109, .pl (.one (.addr 3 [] 0 0 2))), (113, .pl (.one (.addr 3 [] 0 0 3)))], ob := [(1, .list true 1 (List.map (rK .u8) out__4)), (2, .box true [.list false 1 (List.map (rK .i64) x.Parents), .sc (.string x.Note), .list false 4 (List.map (r_T_impl_Change false) x.Changes)]), (3, .box true [.sc (.int .i64 x_1.Kind), .sc (.string x_1.Path), .sc (.string x_1.To), .list false 1 (List.map rS x_1.Lines)]), (4, .list true 1 (List.map (rK .u8) [(wk .u8 x_1.Kind)]))] } ?_
                                  refine ops H' ?_
                                  refine opsV_nil ⟨rfl, shd [114, 0, 4, 5, 6, 9, 10, 103, 105, 109, 113] [(1, 1), (2, 2), (3, 3), (4, 4)] 5 rfl⟩
                                · refine obQx 8 { N := 148, np := 1, nx := 5, sl := [(114, .pl (.one (.v (.list false 1 (List.map rS x_1.Lines))))), (0, .pl (.one (.v (.list false 3 (List.map (r_T_impl_Step false) list_))))), (4, .pl (.one (.ref 1 []))), (5, .pl (.one (.v (.sc (.int .i64 i))))), (6, .pl (.one (.ref 2 []))), (9, .pl (.one (.v (.sc (.int .i64 k))))), (10, .pl (.one (.ref 3 []))), (103, .pl (.one (.ref 4 []))), (105, .pl (.one (.addr 3 [] 0 0 1))), (109, .pl (.one (.addr 3 [] 0 0 2))), (113, .pl (.one (.addr 3 [] 0 0 3)))], ob := [(1, .list true 1 (List.map (rK .u8) out__4)), (2, .box true [.list false 1 (List.map (rK .i64) x.Parents), .sc (.string x.Note), .list false 4 (List.map (r_T_impl_Change false) x.Changes)]), (3, .box true [.sc (.int .i64 x_1.Kind), .sc (.string x_1.Path), .sc (.string x_1.To), .list false 1 (List.map rS x_1.Lines)]), (4, .list true 1 (List.map (rK .u8) [(wk .u8 x_1.Kind)]))] } ?_
                                  refine ops H' ?_
                                  refine opsV_nil ⟨rfl, shd [115, 0, 4, 5, 6, 9, 10, 103, 105, 109, 113] [(1, 1), (2, 2), (3, 3), (4, 4)] 5 rfl⟩
                                · refine obQx 9 { N := 148, np := 1, nx := 5, sl := [(111, .pl (.one (.v (.sc (.string x111))))), (115, .pl (.one (.v (.sc (.int .i64 (x_1.Lines.length : Int)))))), (0, .pl (.one (.v (.list false 3 (List.map (r_T_impl_Step false) list_))))), (4, .pl (.one (.ref 1 []))), (5, .pl (.one (.v (.sc (.int .i64 i))))), (6, .pl (.one (.ref 2 []))), (9, .pl (.one (.v (.sc (.int .i64 k))))), (10, .pl (.one (.ref 3 []))), (103, .pl (.one (.ref 4 []))), (105, .pl (.one (.addr 3 [] 0 0 1))), (109, .pl (.one (.addr 3 [] 0 0 2))), (113, .pl (.one (.addr 3 [] 0 0 3)))], ob := [(1, .list true 1 (List.map (rK .u8) out__4)), (2, .box true [.list false 1 (List.map (rK .i64) x.Parents), .sc (.string x.Note), .list false 4 (List.map (r_T_impl_Change false) x.Changes)]), (3, .box true [.sc (.int .i64 x_1.Kind), .sc (.string x_1.Path), .sc (.string x_1.To), .list false 1 (List.map rS x_1.Lines)]), (4, .list true 1 (List.map (rK .u8) [(wk .u8 x_1.Kind)]))] } ?_
                                  refine callG H' (fun _ => []) (W_spec_l01Var _ _ hy_x116) ?_
                                  refine opsV_nil ⟨rfl, shd [116, 0, 4, 5, 6, 9, 10, 103, 105, 109, 113] [(1, 1), (2, 2), (3, 3), (4, 4)] 5 rfl⟩
                                · refine obQx 10 { N := 148, np := 1, nx := 5, sl := [(112, .pl (.one (.v (.sc (.string t_4))))), (116, .pl (.one (.v (.sc (.string x116))))), (0, .pl (.one (.v (.list false 3 (List.map (r_T_impl_Step false) list_))))), (4, .pl (.one (.ref 1 []))), (5, .pl (.one (.v (.sc (.int .i64 i))))), (6, .pl (.one (.ref 2 []))), (9, .pl (.one (.v (.sc (.int .i64 k))))), (10, .pl (.one (.ref 3 []))), (103, .pl (.one (.ref 4 []))), (105, .pl (.one (.addr 3 [] 0 0 1))), (109, .pl (.one (.addr 3 [] 0 0 2))), (113, .pl (.one (.addr 3 [] 0 0 3)))], ob := [(1, .list true 1 (List.map (rK .u8) out__4)), (2, .box true [.list false 1 (List.map (rK .i64) x.Parents), .sc (.string x.Note), .list false 4 (List.map (r_T_impl_Change false) x.Changes)]), (3, .box true [.sc (.int .i64 x_1.Kind), .sc (.string x_1.Path), .sc (.string x_1.To), .list false 1 (List.map rS x_1.Lines)]), (4, .list true 1 (List.map (rK .u8) [(wk .u8 x_1.Kind)]))] } ?_
                                  refine ops H' ?_
                                  refine opsV_nil ⟨rfl, shd [117, 0, 4, 5, 6, 9, 10, 103, 105, 109, 113] [(1, 1), (2, 2), (3, 3), (4, 4)] 5 rfl⟩
                                · refine obQx 11 { N := 148, np := 1, nx := 5, sl := [(104, .pl (.one (.v (.sc (.string (mkS [(wk .u8 x_1.Kind)])))))), (106, .pl (.one (.v (.sc (.string x_1.Path))))), (107, .pl (.one (.v (.sc (.string x107))))), (108, .pl (.one (.v (.sc (.string t_3))))), (110, .pl (.one (.v (.sc (.string x_1.To))))), (111, .pl (.one (.v (.sc (.string x111))))), (112, .pl (.one (.v (.sc (.string t_4))))), (114, .pl (.one (.v (.list false 1 (List.map rS x_1.Lines))))), (115, .pl (.one (.v (.sc (.int .i64 (x_1.Lines.length : Int)))))), (116, .pl (.one (.v (.sc (.string x116))))), (117, .pl (.one (.v (.sc (.string t_5))))), (0, .pl (.one (.v (.list false 3 (List.map (r_T_impl_Step false) list_))))), (4, .pl (.one (.ref 1 []))), (5, .pl (.one (.v (.sc (.int .i64 i))))), (6, .pl (.one (.ref 2 []))), (9, .pl (.one (.v (.sc (.int .i64 k))))), (10, .pl (.one (.ref 3 []))), (103, .pl (.one (.ref 4 []))), (105, .pl (.one (.addr 3 [] 0 0 1))), (109, .pl (.one (.addr 3 [] 0 0 2))), (113, .pl (.one (.addr 3 [] 0 0 3)))], ob := [(1, .list true 1 (List.map (rK .u8) out__4)), (2, .box true [.list false 1 (List.map (rK .i64) x.Parents), .sc (.string x.Note), .list false 4 (List.map (r_T_impl_Change false) x.Changes)]), (3, .box true [.sc (.int .i64 x_1.Kind), .sc (.string x_1.Path), .sc (.string x_1.To), .list false 1 (List.map rS x_1.Lines)]), (4, .list true 1 (List.map (rK .u8) [(wk .u8 x_1.Kind)]))] } ?_
                                  refine ops H' ?_
                                  refine opsV_nil ⟨rfl, shd [7, 0, 4, 5, 6, 9, 10, 103, 105, 109, 113] [(1, 1), (2, 2), (3, 3), (4, 4)] 5 rfl⟩
                              have d24_1_0_1' : anyF X ?ops24_1_0 [0, 5, 9, 13] [(1, 101, .pl (.one (.v (.sc (.int .i64 x_1.Kind))))), (2, 102, .pl (.one (.v (.sc (.int .u8 (wk .u8 x_1.Kind)))))), (4, 104, .pl (.one (.v (.sc (.string (mkS [(wk .u8 x_1.Kind)])))))), (6, 106, .pl (.one (.v (.sc (.string x_1.Path))))), (7, 107, .pl (.one (.v (.sc (.string x107))))), (8, 108, .pl (.one (.v (.sc (.string t_3))))), (10, 110, .pl (.one (.v (.sc (.string x_1.To))))), (11, 111, .pl (.one (.v (.sc (.string x111))))), (12, 112, .pl (.one (.v (.sc (.string t_4))))), (14, 114, .pl (.one (.v (.list false 1 (List.map rS x_1.Lines))))), (15, 115, .pl (.one (.v (.sc (.int .i64 (x_1.Lines.length : Int)))))), (16, 116, .pl (.one (.v (.sc (.string x116))))), (17, 117, .pl (.one (.v (.sc (.string t_5))))), (18, 7, .pl (.one (.v (.sc (.string t_5)))))] ?P24_1_0 { N := 148, np := 1, nx := 4, sl := [(0, .pl (.one (.v (.list false 3 (List.map (r_T_impl_Step false) list_))))), (4, .pl (.one (.ref 1 []))), (5, .pl (.one (.v (.sc (.int .i64 i))))), (6, .pl (.one (.ref 2 []))), (9, .pl (.one (.v (.sc (.int .i64 k))))), (10, .pl (.one (.ref 3 []))), (100, .pl (.one (.addr 3 [] 0 0 0))), (105, .pl (.one (.addr 3 [] 0 0 1))), (109, .pl (.one (.addr 3 [] 0 0 2))), (113, .pl (.one (.addr 3 [] 0 0 3)))], ob := [(1, .list true 1 (List.map (rK .u8) out__4)), (2, .box true [.list false 1 (List.map (rK .i64) x.Parents), .sc (.string x.Note), .list false 4 (List.map (r_T_impl_Change false) x.Changes)]), (3, .box true [.sc (.int .i64 x_1.Kind), .sc (.string x_1.Path), .sc (.string x_1.To), .list false 1 (List.map rS x_1.Lines)])] } := by
                                refine fnode [1, 2, 6, 7, 10, 11, 14, 15, 16] [.q 1 101 (.pl (.one (.v (.sc (.int .i64 x_1.Kind))))) [], .q 2 102 (.pl (.one (.v (.sc (.int .u8 (wk .u8 x_1.Kind)))))) [1], .q 6 106 (.pl (.one (.v (.sc (.string x_1.Path))))) [], .q 7 107 (.pl (.one (.v (.sc (.string x107))))) [6], .q 10 110 (.pl (.one (.v (.sc (.string x_1.To))))) [], .q 11 111 (.pl (.one (.v (.sc (.string x111))))) [7, 10], .q 14 114 (.pl (.one (.v (.list false 1 (List.map rS x_1.Lines))))) [], .q 15 115 (.pl (.one (.v (.sc (.int .i64 (x_1.Lines.length : Int)))))) [14], .q 16 116 (.pl (.one (.v (.sc (.string x116))))) [11, 15], .m 3 [2, 1] [0, 1, 2, 3, 5, 9, 13] [(4, 104, .pl (.one (.v (.sc (.string (mkS [(wk .u8 x_1.Kind)])))))), (6, 106, .pl (.one (.v (.sc (.string x_1.Path))))), (7, 107, .pl (.one (.v (.sc (.string x107))))), (8, 108, .pl (.one (.v (.sc (.string t_3))))), (10, 110, .pl (.one (.v (.sc (.string x_1.To))))), (11, 111, .pl (.one (.v (.sc (.string x111))))), (12, 112, .pl (.one (.v (.sc (.string t_4))))), (14, 114, .pl (.one (.v (.list false 1 (List.map rS x_1.Lines))))), (15, 115, .pl (.one (.v (.sc (.int .i64 (x_1.Lines.length : Int)))))), (16, 116, .pl (.one (.v (.sc (.string x116))))), (17, 117, .pl (.one (.v (.sc (.string t_5))))), (18, 7, .pl (.one (.v (.sc (.string t_5)))))]] [(1, 101), (2, 102), (4, 104), (6, 106), (7, 107), (8, 108), (10, 110), (11, 111), (12, 112), (14, 114), (15, 115), (16, 116), (17, 117), (18, 7)] [(1, true, [], []), (2, true, [1], []), (6, true, [], []), (7, true, [6], []), (10, true, [], []), (11, true, [7, 10], []), (14, true, [], []), (15, true, [14], []), (16, true, [11, 15], []), (3, false, [2, 1], [0, 1, 2, 3, 5, 9, 13])] ⟨?_, ?_, ?_, ?_, ?_, ?_, ?_, ?_, ?_, ?_, trivial⟩
                                · refine obQx 0 { N := 148, np := 1, nx := 4, sl := [(0, .pl (.one (.v (.list false 3 (List.map (r_T_impl_Step false) list_))))), (4, .pl (.one (.ref 1 []))), (5, .pl (.one (.v (.sc (.int .i64 i))))), (6, .pl (.one (.ref 2 []))), (9, .pl (.one (.v (.sc (.int .i64 k))))), (10, .pl (.one (.ref 3 []))), (100, .pl (.one (.addr 3 [] 0 0 0))), (105, .pl (.one (.addr 3 [] 0 0 1))), (109, .pl (.one (.addr 3 [] 0 0 2))), (113, .pl (.one (.addr 3 [] 0 0 3)))], ob := [(1, .list true 1 (List.map (rK .u8) out__4)), (2, .box true [.list false 1 (List.map (rK .i64) x.Parents), .sc (.string x.Note), .list false 4 (List.map (r_T_impl_Change false) x.Changes)]), (3, .box true [.sc (.int .i64 x_1.Kind), .sc (.string x_1.Path), .sc (.string x_1.To), .list false 1 (List.map rS x_1.Lines)])] } ?_
                                  refine ops H' ?_
                                  refine opsV_nil ⟨rfl, shd [101, 0, 4, 5, 6, 9, 10, 100, 105, 109, 113] [(1, 1), (2, 2), (3, 3)] 4 rfl⟩
                                · refine obQx 1 { N := 148, np := 1, nx := 4, sl := [(101, .pl (.one (.v (.sc (.int .i64 x_1.Kind))))), (0, .pl (.one (.v (.list false 3 (List.map (r_T_impl_Step false) list_))))), (4, .pl (.one (.ref 1 []))), (5, .pl (.one (.v (.sc (.int .i64 i))))), (6, .pl (.one (.ref 2 []))), (9, .pl (.one (.v (.sc (.int .i64 k))))), (10, .pl (.one (.ref 3 []))), (100, .pl (.one (.addr 3 [] 0 0 0))), (105, .pl (.one (.addr 3 [] 0 0 1))), (109, .pl (.one (.addr 3 [] 0 0 2))), (113, .pl (.one (.addr 3 [] 0 0 3)))], ob := [(1, .list true 1 (List.map (rK .u8) out__4)), (2, .box true [.list false 1 (List.map (rK .i64) x.Parents), .sc (.string x.Note), .list false 4 (List.map (r_T_impl_Change false) x.Changes)]), (3, .box true [.sc (.int .i64 x_1.Kind), .sc (.string x_1.Path), .sc (.string x_1.To), .list false 1 (List.map rS x_1.Lines)])] } ?_
                                  refine ops H' ?_
                                  refine opsV_nil ⟨rfl, shd [102, 0, 4, 5, 6, 9, 10, 100, 105, 109, 113] [(1, 1), (2, 2), (3, 3)] 4 rfl⟩
                                · refine obQx 3 { N := 148, np := 1, nx := 4, sl := [(0, .pl (.one (.v (.list false 3 (List.map (r_T_impl_Step false) list_))))), (4, .pl (.one (.ref 1 []))), (5, .pl (.one (.v (.sc (.int .i64 i))))), (6, .pl (.one (.ref 2 []))), (9, .pl (.one (.v (.sc (.int .i64 k))))), (10, .pl (.one (.ref 3 []))), (100, .pl (.one (.addr 3 [] 0 0 0))), (105, .pl (.one (.addr 3 [] 0 0 1))), (109, .pl (.one (.addr 3 [] 0 0 2))), (113, .pl (.one (.addr 3 [] 0 0 3)))], ob := [(1, .list true 1 (List.map (rK .u8) out__4)), (2, .box true [.list false 1 (List.map (rK .i64) x.Parents), .sc (.string x.Note), .list false 4 (List.map (r_T_impl_Change false) x.Changes)]), (3, .box true [.sc (.int .i64 x_1.Kind), .sc (.string x_1.Path), .sc (.string x_1.To), .list false 1 (List.map rS x_1.Lines)])] } ?_
                                  refine ops H' ?_
                                  refine opsV_nil ⟨rfl, shd [106, 0, 4, 5, 6, 9, 10, 100, 105, 109, 113] [(1, 1), (2, 2), (3, 3)] 4 rfl⟩
                                · refine obQx 4 { N := 148, np := 1, nx := 4, sl := [(106, .pl (.one (.v (.sc (.string x_1.Path))))), (0, .pl (.one (.v (.list false 3 (List.map (r_T_impl_Step false) list_))))), (4, .pl (.one (.ref 1 []))), (5, .pl (.one (.v (.sc (.int .i64 i))))), (6, .pl (.one (.ref 2 []))), (9, .pl (.one (.v (.sc (.int .i64 k))))), (10, .pl (.one (.ref 3 []))), (100, .pl (.one (.addr 3 [] 0 0 0))), (105, .pl (.one (.addr 3 [] 0 0 1))), (109, .pl (.one (.addr 3 [] 0 0 2))), (113, .pl (.one (.addr 3 [] 0 0 3)))], ob := [(1, .list true 1 (List.map (rK .u8) out__4)), (2, .box true [.list false 1 (List.map (rK .i64) x.Parents), .sc (.string x.Note), .list false 4 (List.map (r_T_impl_Change false) x.Changes)]), (3, .box true [.sc (.int .i64 x_1.Kind), .sc (.string x_1.Path), .sc (.string x_1.To), .list false 1 (List.map rS x_1.Lines)])] } ?_
                                  refine callG H' (fun _ => []) (W_spec_l17Short _ _ hy_x107) ?_
                                  refine opsV_nil ⟨rfl, shd [107, 0, 4, 5, 6, 9, 10, 100, 105, 109, 113] [(1, 1), (2, 2), (3, 3)] 4 rfl⟩
                                · refine obQx 6 { N := 148, np := 1, nx := 4, sl := [(0, .pl (.one (.v (.list false 3 (List.map (r_T_impl_Step false) list_))))), (4, .pl (.one (.ref 1 []))), (5, .pl (.one (.v (.sc (.int .i64 i))))), (6, .pl (.one (.ref 2 []))), (9, .pl (.one (.v (.sc (.int .i64 k))))), (10, .pl (.one (.ref 3 []))), (100, .pl (.one (.addr 3 [] 0 0 0))), (105, .pl (.one (.addr 3 [] 0 0 1))), (109, .pl (.one (.addr 3 [] 0 0 2))), (113, .pl (.one (.addr 3 [] 0 0 3)))], ob := [(1, .list true 1 (List.map (rK .u8) out__4)), (2, .box true [.list false 1 (List.map (rK .i64) x.Parents), .sc (.string x.Note), .list false 4 (List.map (r_T_impl_Change false) x.Changes)]), (3, .box true [.sc (.int .i64 x_1.Kind), .sc (.string x_1.Path), .sc (.string x_1.To), .list false 1 (List.map rS x_1.Lines)])] } ?_
                                  refine ops H' ?_
                                  refine opsV_nil ⟨rfl, shd [110, 0, 4, 5, 6, 9, 10, 100, 105, 109, 113] [(1, 1), (2, 2), (3, 3)] 4 rfl⟩
                                · refine obQx 7 { N := 148, np := 1, nx := 4, sl := [(107, .pl (.one (.v (.sc (.string x107))))), (110, .pl (.one (.v (.sc (.string x_1.To))))), (0, .pl (.one (.v (.list false 3 (List.map (r_T_impl_Step false) list_))))), (4, .pl (.one (.ref 1 []))), (5, .pl (.one (.v (.sc (.int .i64 i))))), (6, .pl (.one (.ref 2 []))), (9, .pl (.one (.v (.sc (.int .i64 k))))), (10, .pl (.one (.ref 3 []))), (100, .pl (.one (.addr 3 [] 0 0 0))), (105, .pl (.one (.addr 3 [] 0 0 1))), (109, .pl (.one (.addr 3 [] 0 0 2))), (113, .pl (.one (.addr 3 [] 0 0 3)))], ob := [(1, .list true 1 (List.map (rK .u8) out__4)), (2, .box true [.list false 1 (List.map (rK .i64) x.Parents), .sc (.string x.Note), .list false 4 (List.map (r_T_impl_Change false) x.Changes)]), (3, .box true [.sc (.int .i64 x_1.Kind), .sc (.string x_1.Path), .sc (.string x_1.To), .list false 1 (List.map rS x_1.Lines)])] } ?_
                                  refine callG H' (fun _ => []) (W_spec_l17Short _ _ hy_x111) ?_
                                  refine opsV_nil ⟨rfl, shd [111, 0, 4, 5, 6, 9, 10, 100, 105, 109, 113] [(1, 1), (2, 2), (3, 3)] 4 rfl⟩
                                · refine obQx 9 { N := 148, np := 1, nx := 4, sl := [(0, .pl (.one (.v (.list false 3 (List.map (r_T_impl_Step false) list_))))), (4, .pl (.one (.ref 1 []))), (5, .pl (.one (.v (.sc (.int .i64 i))))), (6, .pl (.one (.ref 2 []))), (9, .pl (.one (.v (.sc (.int .i64 k))))), (10, .pl (.one (.ref 3 []))), (100, .pl (.one (.addr 3 [] 0 0 0))), (105, .pl (.one (.addr 3 [] 0 0 1))), (109, .pl (.one (.addr 3 [] 0 0 2))), (113, .pl (.one (.addr 3 [] 0 0 3)))], ob := [(1, .list true 1 (List.map (rK .u8) out__4)), (2, .box true [.list false 1 (List.map (rK .i64) x.Parents), .sc (.string x.Note), .list false 4 (List.map (r_T_impl_Change false) x.Changes)]), (3, .box true [.sc (.int .i64 x_1.Kind), .sc (.string x_1.Path), .sc (.string x_1.To), .list false 1 (List.map rS x_1.Lines)])] } ?_
                                  refine ops H' ?_
                                  refine opsV_nil ⟨rfl, shd [114, 0, 4, 5, 6, 9, 10, 100, 105, 109, 113] [(1, 1), (2, 2), (3, 3)] 4 rfl⟩
                                · refine obQx 10 { N := 148, np := 1, nx := 4, sl := [(114, .pl (.one (.v (.list false 1 (List.map rS x_1.Lines))))), (0, .pl (.one (.v (.list false 3 (List.map (r_T_impl_Step false) list_))))), (4, .pl (.one (.ref 1 []))), (5, .pl (.one (.v (.sc (.int .i64 i))))), (6, .pl (.one (.ref 2 []))), (9, .pl (.one (.v (.sc (.int .i64 k))))), (10, .pl (.one (.ref 3 []))), (100, .pl (.one (.addr 3 [] 0 0 0))), (105, .pl (.one (.addr 3 [] 0 0 1))), (109, .pl (.one (.addr 3 [] 0 0 2))), (113, .pl (.one (.addr 3 [] 0 0 3)))], ob := [(1, .list true 1 (List.map (rK .u8) out__4)), (2, .box true [.list false 1 (List.map (rK .i64) x.Parents), .sc (.string x.Note), .list false 4 (List.map (r_T_impl_Change false) x.Changes)]), (3, .box true [.sc (.int .i64 x_1.Kind), .sc (.string x_1.Path), .sc (.string x_1.To), .list false 1 (List.map rS x_1.Lines)])] } ?_
                                  refine ops H' ?_
                                  refine opsV_nil ⟨rfl, shd [115, 0, 4, 5, 6, 9, 10, 100, 105, 109, 113] [(1, 1), (2, 2), (3, 3)] 4 rfl⟩
                                · refine obQx 11 { N := 148, np := 1, nx := 4, sl := [(111, .pl (.one (.v (.sc (.string x111))))), (115, .pl (.one (.v (.sc (.int .i64 (x_1.Lines.length : Int)))))), (0, .pl (.one (.v (.list false 3 (List.map (r_T_impl_Step false) list_))))), (4, .pl (.one (.ref 1 []))), (5, .pl (.one (.v (.sc (.int .i64 i))))), (6, .pl (.one (.ref 2 []))), (9, .pl (.one (.v (.sc (.int .i64 k))))), (10, .pl (.one (.ref 3 []))), (100, .pl (.one (.addr 3 [] 0 0 0))), (105, .pl (.one (.addr 3 [] 0 0 1))), (109, .pl (.one (.addr 3 [] 0 0 2))), (113, .pl (.one (.addr 3 [] 0 0 3)))], ob := [(1, .list true 1 (List.map (rK .u8) out__4)), (2, .box true [.list false 1 (List.map (rK .i64) x.Parents), .sc (.string x.Note), .list false 4 (List.map (r_T_impl_Change false) x.Changes)]), (3, .box true [.sc (.int .i64 x_1.Kind), .sc (.string x_1.Path), .sc (.string x_1.To), .list false 1 (List.map rS x_1.Lines)])] } ?_
                                  refine callG H' (fun _ => []) (W_spec_l01Var _ _ hy_x116) ?_
                                  refine opsV_nil ⟨rfl, shd [116, 0, 4, 5, 6, 9, 10, 100, 105, 109, 113] [(1, 1), (2, 2), (3, 3)] 4 rfl⟩
                                · refine obMx { N := 148, np := 1, nx := 4, sl := [(101, .pl (.one (.v (.sc (.int .i64 x_1.Kind))))), (102, .pl (.one (.v (.sc (.int .u8 (wk .u8 x_1.Kind)))))), (0, .pl (.one (.v (.list false 3 (List.map (r_T_impl_Step false) list_))))), (4, .pl (.one (.ref 1 []))), (5, .pl (.one (.v (.sc (.int .i64 i))))), (6, .pl (.one (.ref 2 []))), (9, .pl (.one (.v (.sc (.int .i64 k))))), (10, .pl (.one (.ref 3 []))), (100, .pl (.one (.addr 3 [] 0 0 0))), (105, .pl (.one (.addr 3 [] 0 0 1))), (109, .pl (.one (.addr 3 [] 0 0 2))), (113, .pl (.one (.addr 3 [] 0 0 3)))], ob := [(1, .list true 1 (List.map (rK .u8) out__4)), (2, .box true [.list false 1 (List.map (rK .i64) x.Parents), .sc (.string x.Note), .list false 4 (List.map (r_T_impl_Change false) x.Changes)]), (3, .box true [.sc (.int .i64 x_1.Kind), .sc (.string x_1.Path), .sc (.string x_1.To), .list false 1 (List.map rS x_1.Lines)])] } ?_
                                  refine ops H' ?_
                                  refine opsV_nil ⟨rfl, .inl ⟨rfl, ?_⟩⟩
                                  exact anyFShd [0, 4, 5, 6, 9, 10, 103, 105, 109, 113] [(1, 1), (2, 2), (3, 3), (4, 4)] 5 d24_1_0_0'
                              refine fpure H' 0 [0] [(1, 101), (2, 102), (4, 104), (6, 106), (7, 107), (8, 108), (10, 110), (11, 111), (12, 112), (14, 114), (15, 115), (16, 116), (17, 117), (18, 7)] ?_
                              refine fpure H' 5 [0, 5] [(1, 101), (2, 102), (4, 104), (6, 106), (7, 107), (8, 108), (10, 110), (11, 111), (12, 112), (14, 114), (15, 115), (16, 116), (17, 117), (18, 7)] ?_
                              refine fpure H' 9 [0, 5, 9] [(1, 101), (2, 102), (4, 104), (6, 106), (7, 107), (8, 108), (10, 110), (11, 111), (12, 112), (14, 114), (15, 115), (16, 116), (17, 117), (18, 7)] ?_
                              refine fpure H' 13 [0, 5, 9, 13] [(1, 101), (2, 102), (4, 104), (6, 106), (7, 107), (8, 108), (10, 110), (11, 111), (12, 112), (14, 114), (15, 115), (16, 116), (17, 117), (18, 7)] ?_
                              exact anyFShd [0, 4, 5, 6, 9, 10, 100, 105, 109, 113] [(1, 1), (2, 2), (3, 3)] 4 d24_1_0_1'
                            · rintro e' rfl
                              refine contN ?_
                              refine wpV_seqJ (fun e' => ∃ s_1, spec_BundleText_j6 k out__4 s_1 = some y2' ∧ e' = { N := 148, np := 1, nx := 3, sl := [(0, .pl (.one (.v (.list false 3 (List.map (r_T_impl_Step false) list_))))), (4, .pl (.one (.ref 1 []))), (5, .pl (.one (.v (.sc (.int .i64 i))))), (6, .pl (.one (.ref 2 []))), (7, .pl (.one (.v (.sc (.string s_1))))), (9, .pl (.one (.v (.sc (.int .i64 k)))))], ob := [(1, .list true 1 (List.map (rK .u8) out__4)), (2, .box true [.list false 1 (List.map (rK .i64) x.Parents), .sc (.string x.Note), .list false 4 (List.map (r_T_impl_Change false) x.Changes)])] }) ?_ ?_
                              · refine wpV_seq1 ?_
                                refine wpV_region ?_
                                refine ops H' ?_
                                refine opsN ?_
                                obtain ⟨p_2, hl', h2'⟩ := Option.bind_eq_some_iff.1 h2'
                                refine wpV_block ?_
                                refine wpV_loopM (fun s' e' => ∃ s_2 j, s' = (s_2, j) ∧ e' = { N := 148, np := 1, nx := 4, sl := [(0, .pl (.one (.v (.list false 3 (List.map (r_T_impl_Step false) list_))))), (4, .pl (.one (.ref 1 []))), (5, .pl (.one (.v (.sc (.int .i64 i))))), (6, .pl (.one (.ref 2 []))), (7, .pl (.one (.v (.sc (.string s_2))))), (9, .pl (.one (.v (.sc (.int .i64 k))))), (10, .pl (.one (.ref 3 []))), (11, .pl (.one (.v (.sc (.int .i64 j)))))], ob := [(1, .list true 1 (List.map (rK .u8) out__4)), (2, .box true [.list false 1 (List.map (rK .i64) x.Parents), .sc (.string x.Note), .list false 4 (List.map (r_T_impl_Change false) x.Changes)]), (3, .box true [.sc (.int .i64 x_1.Kind), .sc (.string x_1.Path), .sc (.string x_1.To), .list false 1 (List.map rS x_1.Lines)])] }) hl' (shd [0, 4, 5, 6, 7, 9, 10, 11] [(1, 1), (2, 2), (3, 3)] 4 ⟨_, _, rfl, rfl⟩) ?_
                                rintro s' y3' e' h3' ⟨s_2, j, rfl, rfl⟩
                                replace h3' : spec_BundleText_l3 x_1 s_2 j = some y3' := h3'
                                unfold spec_BundleText_l3 at h3'
                                refine wpV_seq1 ?_
                                refine wpV_seq1 ?_
                                refine wpV_region ?_
                                refine ops H' ?_
                                refine opsN ?_
                                refine wpV_split (fun hc' => ?_) (fun hc' => ?_)
                                · replace h3' := (ifT hc').symm.trans h3'
                                  refine skipN ?_
                                  refine wpV_seq1 ?_
                                  refine wpV_block ?_
                                  refine wpV_region ?_
                                  obtain ⟨x_2, hv', h3'⟩ := Option.bind_eq_some_iff.1 h3'
                                  have H' := And.intro (geti_f hv') H'
                                  refine ops H' ?_
                                  obtain ⟨x131, hy', h3'⟩ := Option.bind_eq_some_iff.1 h3'
                                  refine callG H' (fun _ => []) (W_spec_l17Short _ _ hy') ?_
                                  obtain ⟨t_6, hv', h3'⟩ := Option.bind_eq_some_iff.1 h3'
                                  have H' := And.intro (sapp_f hv') H'
                                  refine ops H' ?_
                                  refine opsN ?_
                                  refine wpV_region ?_
                                  refine ops H' ?_
                                  refine opsN ?_
                                  obtain rfl := Option.some.inj h3'
                                  exact shd [0, 4, 5, 6, 7, 9, 10, 11] [(1, 1), (2, 2), (3, 3)] 4 ⟨_, rfl, _, _, rfl, rfl⟩
                                · replace h3' := (ifF hc').symm.trans h3'
                                  refine exitN ?_
                                  obtain rfl := Option.some.inj h3'
                                  refine ⟨_, rfl, fun hr' => ?_⟩
                                  subst hr'
                                  exact shd [0, 4, 5, 6, 7, 9] [(1, 1), (2, 2)] 3 ⟨_, h2', rfl⟩
                              · rintro e' ⟨s_1, h2', rfl⟩
                                unfold spec_BundleText_j6 at h2'
                                refine wpV_seq1 ?_
                                refine wpV_region ?_
                                obtain ⟨l_1, hv', h2'⟩ := Option.bind_eq_some_iff.1 h2'
                                have H' := And.intro (appn_f hv') H'
                                refine ops H' ?_
                                refine opsN ?_
                                refine wpV_seq1 ?_
                                refine wpV_region ?_
                                refine ops H' ?_
                                refine opsN ?_
                                refine wpV_split (fun hc' => ?_) (fun hc' => ?_)
                                · replace h2' := (ifT hc').symm.trans h2'
                                  refine wpV_seq1 ?_
                                  refine wpV_region ?_
                                  refine ops H' ?_
                                  refine opsN ?_
                                  refine retN ?_
                                  obtain rfl := Option.some.inj h2'
                                  refine ⟨_, rfl, fun hr' => ?_⟩
                                  subst hr'
                                  obtain rfl := Option.some.inj h1'
                                  refine ⟨_, rfl, fun hr' => ?_⟩
                                  subst hr'
                                  obtain rfl := Option.some.inj h0'
                                  exact outG H' rfl rfl
                                · replace h2' := (ifF hc').symm.trans h2'
                                  refine skipN ?_
                                  exact shd [0, 4, 5, 6, 9] [(1, 1), (2, 2)] 3 ⟨_, h2', rfl⟩
                        · rintro e' ⟨out__5, h2', rfl⟩
                          unfold spec_BundleText_j5 at h2'
                          refine wpV_region ?_
                          refine ops H' ?_
                          refine opsN ?_
                          obtain rfl := Option.some.inj h2'
                          exact shd [0, 4, 5, 6, 9] [(1, 1), (2, 2)] 3 ⟨_, rfl, _, _, rfl, rfl⟩
                      · replace h2' := (ifF hc').symm.trans h2'
                        refine exitN ?_
                        obtain rfl := Option.some.inj h2'
                        refine ⟨_, rfl, fun hr' => ?_⟩
                        subst hr'
                        exact shd [0, 4, 5] [(1, 1)] 2 ⟨_, h1', rfl⟩
                    · rintro e' ⟨out__3, h1', rfl⟩
                      unfold spec_BundleText_j4 at h1'
                      refine wpV_seq1 ?_
                      refine wpV_region ?_
                      refine ops H' ?_
                      refine opsN ?_
                      refine wpV_split (fun hc' => ?_) (fun hc' => ?_)
                      · replace h1' := (ifT hc').symm.trans h1'
                        refine wpV_seq1 ?_
                        refine wpV_region ?_
                        refine ops H' ?_
                        refine opsN ?_
                        refine retN ?_
                        obtain rfl := Option.some.inj h1'
                        refine ⟨_, rfl, fun hr' => ?_⟩
                        subst hr'
                        obtain rfl := Option.some.inj h0'
                        exact outG H' rfl rfl
                      · replace h1' := (ifF hc').symm.trans h1'
                        refine skipN ?_
                        exact shd [0, 4, 5] [(1, 1)] 2 ⟨_, h1', rfl⟩
        · rintro e' ⟨out__2, h1', rfl⟩
          unfold spec_BundleText_j2 at h1'
          refine wpV_region ?_
          refine ops H' ?_
          refine opsN ?_
          obtain rfl := Option.some.inj h1'
          exact shd [0, 4, 5] [(1, 1)] 2 ⟨_, rfl, _, _, rfl, rfl⟩
      · replace h1' := (ifF hc').symm.trans h1'
        refine exitN ?_
        obtain rfl := Option.some.inj h1'
        refine ⟨_, rfl, fun hr' => ?_⟩
        subst hr'
        exact shd [4] [(1, 1)] 2 ⟨_, h0', rfl⟩
    · rintro e' ⟨out_, h0', rfl⟩
      unfold spec_BundleText_j1 at h0'
      refine wpV_seq1 ?_
      refine wpV_region ?_
      refine ops H' ?_
      obtain ⟨x145, hy', h0'⟩ := Option.bind_eq_some_iff.1 h0'
      refine callG H' (fun _ => []) (W_spec_Sealed _ _ hy') ?_
      refine ops H' ?_
      refine opsN ?_
      refine retN ?_
      obtain rfl := Option.some.inj h0'
      exact outG H' rfl rfl
end Go.TV.KFnExactReadBundle
