/- Walks. -/
import Derived.Test.YtmoglghkjfjalaaKFnExactReadBundleE
import Derived.Test.YtmoglghkjfjalaaKFnExactReadBundleW0
import Derived.Test.YtmoglghkjfjalaaKFnExactReadBundleW1
set_option linter.unusedVariables false
set_option linter.unusedSimpArgs false
set_option maxHeartbeats 8000000
set_option maxRecDepth 100000
namespace Go.TV.KFnExactReadBundle
attribute [local irreducible] anyV wpV opsV Does thenV blockV RetL quV seqV
open Go.Proofs.Try Go.TV.F
theorem W_spec_ReadBundle (text : ByteArray) (r' : (List T_impl_Step) × Bool) (h0' : spec_ReadBundle text = some r') : Fn X 7 [.one (.sc (.string text))] [.one (.list true 3 (List.map (r_T_impl_Step true) r'.1)), .one (.sc (.bool r'.2))] [] := by
  have H' := And.intro t3 (And.intro t4 (And.intro t5 (And.intro t9 (And.intro t22 (And.intro t36 (And.intro t43 (And.intro t72 (And.intro t75 (And.intro t77 (And.intro t80 (And.intro R_T_impl_Change (And.intro R_T_impl_Step (And.intro R_i64 (R_s))))))))))))))
  unfold spec_ReadBundle at h0'
  refine Fn.start (fn := f7) (N := 153) (res := [.tmp 2, .tmp 3]) rfl rfl rfl rfl rfl (by simp) ?_
  refine enterG H' ?_
  refine wpV_seq1 ?_
  refine wpV_region ?_
  refine opsV_nilA H' 3 ?_
  refine ops H' ?_
  refine opsN ?_
  refine wpV_seq1 ?_
  refine wpV_region ?_
  refine ops H' ?_
  obtain ⟨x21, hy', h0'⟩ := Option.bind_eq_some_iff.1 h0'
  refine callG H' (fun _ => []) (W_spec_Unsealed _ _ hy') ?_
  refine ops H' ?_
  refine opsN ?_
  refine wpV_seq1 ?_
  refine wpV_region ?_
  refine ops H' ?_
  refine opsN ?_
  refine wpV_seq1 ?_
  refine wpV_region ?_
  refine ops H' ?_
  obtain ⟨x30, hy', h0'⟩ := Option.bind_eq_some_iff.1 h0'
  refine callG H' (fun _ => [0]) (W_spec_l08Take _ _ _ hy') ?_
  refine opsN ?_
  refine wpV_seq1 ?_
  refine wpV_region ?_
  refine ops H' ?_
  refine opsN ?_
  refine wpV_seq1 ?_
  refine wpV_region ?_
  refine ops H' ?_
  obtain ⟨x33, hy', h0'⟩ := Option.bind_eq_some_iff.1 h0'
  refine callG H' (fun _ => [0]) (W_spec_l08Var _ _ _ hy') ?_
  refine ops H' ?_
  refine opsN ?_
  refine wpV_seqJ (fun e' => ∃ c c_1 c_2 out_, spec_ReadBundle_j1 text c c_1 c_2 out_ = some r' ∧ e' = { N := 153, np := 1, nx := 3, sl := [(0, .pl (.one (.v (.sc (.string text))))), (6, .pl (.one (.ref 1 []))), (7, .pl (.one (.ref 2 [])))], ob := [(1, .box true [.sc (.string c), .sc (.int .i64 c_1), .sc (.bool c_2)]), (2, .list true 3 (List.map (r_T_impl_Step true) out_))] }) ?_ ?_
  · refine wpV_seq1 ?_
    refine wpV_region ?_
    refine ops H' ?_
    refine opsN ?_
    obtain ⟨p, hl', h0'⟩ := Option.bind_eq_some_iff.1 h0'
    refine wpV_block ?_
    refine wpV_loopM (fun s' e' => ∃ i c_3 c_4 c_5 out__1, s' = (i, c_3, c_4, c_5, out__1) ∧ e' = { N := 153, np := 1, nx := 3, sl := [(0, .pl (.one (.v (.sc (.string text))))), (6, .pl (.one (.ref 1 []))), (7, .pl (.one (.ref 2 []))), (8, .pl (.one (.v (.sc (.int .i64 x33.1))))), (9, .pl (.one (.v (.sc (.int .i64 i)))))], ob := [(1, .box true [.sc (.string c_3), .sc (.int .i64 c_4), .sc (.bool c_5)]), (2, .list true 3 (List.map (r_T_impl_Step true) out__1))] }) hl' (shd [0, 6, 7, 8, 9] [(4, 1), (6, 2)] 3 ⟨_, _, _, _, _, rfl, rfl⟩) ?_
    rintro s' y1' e' h1' ⟨i, c_3, c_4, c_5, out__1, rfl, rfl⟩
    replace h1' : spec_ReadBundle_l1 x33 i c_3 c_4 c_5 out__1 = some y1' := h1'
    unfold spec_ReadBundle_l1 at h1'
    refine wpV_seq1 ?_
    refine wpV_seq1 ?_
    refine wpV_region ?_
    refine ops H' ?_
    obtain ⟨b_2, gh1', h1'⟩ := Option.bind_eq_some_iff.1 h1'
    refine opsV_cut 6 (fun e' => e' = { N := 153, np := 1, nx := 3, sl := [(0, .pl (.one (.v (.sc (.string text))))), (6, .pl (.one (.ref 1 []))), (7, .pl (.one (.ref 2 []))), (8, .pl (.one (.v (.sc (.int .i64 x33.1))))), (9, .pl (.one (.v (.sc (.int .i64 i))))), (43, .pl (.one (.v (.sc (.bool b_2)))))], ob := [(1, .box true [.sc (.string c_3), .sc (.int .i64 c_4), .sc (.bool c_5)]), (2, .list true 3 (List.map (r_T_impl_Step true) out__1))] }) ?_ ?_
    · simp only [List.take_succ_cons, List.take_zero]
      refine opsV_sp (fun hc' => ?_) (fun hc' => ?_)
      · replace gh1' := (ifT hc').symm.trans gh1'
        refine ops H' ?_
        obtain rfl := Option.some.inj gh1'
        refine opsV_nil ?_
        exact ⟨rfl, shd [0, 6, 7, 8, 9, 43] [(1, 1), (2, 2)] 3 rfl⟩
      · replace gh1' := (ifF hc').symm.trans gh1'
        refine ops H' ?_
        obtain rfl := Option.some.inj gh1'
        refine opsV_nil ?_
        exact ⟨rfl, shd [0, 6, 7, 8, 9, 43] [(1, 1), (2, 2)] 3 rfl⟩
    · rintro e' rfl
      simp only [List.drop_succ_cons, List.drop_zero]
      refine opsN ?_
      refine wpV_split (fun hc' => ?_) (fun hc' => ?_)
      · replace h1' := (ifT hc').symm.trans h1'
        refine skipN ?_
        refine wpV_seqJ (fun e' => ∃ c_6 c_7 c_8 out__2, spec_ReadBundle_j2 i c_6 c_7 c_8 out__2 = some y1' ∧ e' = { N := 153, np := 1, nx := 3, sl := [(0, .pl (.one (.v (.sc (.string text))))), (6, .pl (.one (.ref 1 []))), (7, .pl (.one (.ref 2 []))), (8, .pl (.one (.v (.sc (.int .i64 x33.1))))), (9, .pl (.one (.v (.sc (.int .i64 i)))))], ob := [(1, .box true [.sc (.string c_6), .sc (.int .i64 c_7), .sc (.bool c_8)]), (2, .list true 3 (List.map (r_T_impl_Step true) out__2))] }) ?_ ?_
        · refine wpV_block ?_
          refine wpV_seq1 ?_
          refine wpV_region ?_
          refine ops H' ?_
          refine opsN ?_
          refine wpV_seq1 ?_
          refine wpV_region ?_
          refine ops H' ?_
          obtain ⟨x48, hy', h1'⟩ := Option.bind_eq_some_iff.1 h1'
          refine callG H' (fun _ => [0]) (W_spec_l08Var _ _ _ hy') ?_
          refine ops H' ?_
          refine opsN ?_
          refine wpV_seqJ (fun e' => ∃ c_9 c_10 c_11 x, spec_ReadBundle_j3 i out__1 c_9 c_10 c_11 x = some y1' ∧ e' = { N := 153, np := 1, nx := 4, sl := [(0, .pl (.one (.v (.sc (.string text))))), (6, .pl (.one (.ref 1 []))), (7, .pl (.one (.ref 2 []))), (8, .pl (.one (.v (.sc (.int .i64 x33.1))))), (9, .pl (.one (.v (.sc (.int .i64 i))))), (10, .pl (.one (.ref 3 [])))], ob := [(1, .box true [.sc (.string c_9), .sc (.int .i64 c_10), .sc (.bool c_11)]), (2, .list true 3 (List.map (r_T_impl_Step true) out__1)), (3, .box true [.list true 1 (List.map (rK .i64) x), .sc (.string (ByteArray.mk #[])), .list true 4 (List.map (r_T_impl_Change true) [])])] }) ?_ ?_
          · refine wpV_seq1 ?_
            refine wpV_region ?_
            refine ops H' ?_
            refine opsN ?_
            obtain ⟨p_3, hl', h1'⟩ := Option.bind_eq_some_iff.1 h1'
            refine wpV_block ?_
            refine wpV_loopM (fun s' e' => ∃ k_1 c_27 c_28 c_29 x_4, s' = (k_1, c_27, c_28, c_29, x_4) ∧ e' = { N := 153, np := 1, nx := 4, sl := [(0, .pl (.one (.v (.sc (.string text))))), (6, .pl (.one (.ref 1 []))), (7, .pl (.one (.ref 2 []))), (8, .pl (.one (.v (.sc (.int .i64 x33.1))))), (9, .pl (.one (.v (.sc (.int .i64 i))))), (10, .pl (.one (.ref 3 []))), (11, .pl (.one (.v (.sc (.int .i64 x48.1))))), (12, .pl (.one (.v (.sc (.int .i64 k_1)))))], ob := [(1, .box true [.sc (.string c_27), .sc (.int .i64 c_28), .sc (.bool c_29)]), (2, .list true 3 (List.map (r_T_impl_Step true) out__1)), (3, .box true [.list true 1 (List.map (rK .i64) x_4), .sc (.string (ByteArray.mk #[])), .list true 4 (List.map (r_T_impl_Change true) [])])] }) hl' (shd [0, 6, 7, 8, 9, 10, 11, 12] [(1, 1), (2, 2), (3, 3)] 4 ⟨_, _, _, _, _, rfl, rfl⟩) ?_
            rintro s' y2' e' h2' ⟨k_1, c_27, c_28, c_29, x_4, rfl, rfl⟩
            replace h2' : spec_ReadBundle_l4 x48 k_1 c_27 c_28 c_29 x_4 = some y2' := h2'
            unfold spec_ReadBundle_l4 at h2'
            refine wpV_seq1 ?_
            refine wpV_seq1 ?_
            refine wpV_region ?_
            refine ops H' ?_
            obtain ⟨b_5, gh2', h2'⟩ := Option.bind_eq_some_iff.1 h2'
            refine opsV_cut 6 (fun e' => e' = { N := 153, np := 1, nx := 4, sl := [(0, .pl (.one (.v (.sc (.string text))))), (6, .pl (.one (.ref 1 []))), (7, .pl (.one (.ref 2 []))), (8, .pl (.one (.v (.sc (.int .i64 x33.1))))), (9, .pl (.one (.v (.sc (.int .i64 i))))), (10, .pl (.one (.ref 3 []))), (11, .pl (.one (.v (.sc (.int .i64 x48.1))))), (12, .pl (.one (.v (.sc (.int .i64 k_1))))), (58, .pl (.one (.v (.sc (.bool b_5)))))], ob := [(1, .box true [.sc (.string c_27), .sc (.int .i64 c_28), .sc (.bool c_29)]), (2, .list true 3 (List.map (r_T_impl_Step true) out__1)), (3, .box true [.list true 1 (List.map (rK .i64) x_4), .sc (.string (ByteArray.mk #[])), .list true 4 (List.map (r_T_impl_Change true) [])])] }) ?_ ?_
            · simp only [List.take_succ_cons, List.take_zero]
              refine opsV_sp (fun hc' => ?_) (fun hc' => ?_)
              · replace gh2' := (ifT hc').symm.trans gh2'
                refine ops H' ?_
                obtain rfl := Option.some.inj gh2'
                refine opsV_nil ?_
                exact ⟨rfl, shd [0, 6, 7, 8, 9, 10, 11, 12, 58] [(1, 1), (2, 2), (3, 3)] 4 rfl⟩
              · replace gh2' := (ifF hc').symm.trans gh2'
                refine ops H' ?_
                obtain rfl := Option.some.inj gh2'
                refine opsV_nil ?_
                exact ⟨rfl, shd [0, 6, 7, 8, 9, 10, 11, 12, 58] [(1, 1), (2, 2), (3, 3)] 4 rfl⟩
            · rintro e' rfl
              simp only [List.drop_succ_cons, List.drop_zero]
              refine opsN ?_
              refine wpV_split (fun hc' => ?_) (fun hc' => ?_)
              · replace h2' := (ifT hc').symm.trans h2'
                refine skipN ?_
                refine wpV_seq1 ?_
                refine wpV_block ?_
                obtain ⟨x64, hy_x64, h2'⟩ := Option.bind_eq_some_iff.1 h2'
                obtain ⟨l_3, hv', h2'⟩ := Option.bind_eq_some_iff.1 h2'
                have H' := And.intro (app1_f hv') H'
                refine wpV_J (fun e' => e' = { N := 153, np := 1, nx := 4, sl := [(0, .pl (.one (.v (.sc (.string text))))), (6, .pl (.one (.ref 1 []))), (7, .pl (.one (.ref 2 []))), (8, .pl (.one (.v (.sc (.int .i64 x33.1))))), (9, .pl (.one (.v (.sc (.int .i64 i))))), (10, .pl (.one (.ref 3 []))), (11, .pl (.one (.v (.sc (.int .i64 x48.1))))), (12, .pl (.one (.v (.sc (.int .i64 k_1)))))], ob := [(1, .box true [.sc (.string x64.2.text), .sc (.int .i64 x64.2.at_), .sc (.bool x64.2.bad)]), (2, .list true 3 (List.map (r_T_impl_Step true) out__1)), (3, .box true [.list true 1 (List.map (rK .i64) l_3), .sc (.string (ByteArray.mk #[])), .list true 4 (List.map (r_T_impl_Change true) [])])] }) ?_ ?_
                · refine regAnyF [] ?_
                  refine (?_ : anyF X ?ops14_1_0 _ _ ?P14_1_0 _)
                  have d14_1_0_0' : anyF X ?ops14_1_0 [0, 1, 2, 3, 4, 5, 6, 7] [] ?P14_1_0 { N := 153, np := 1, nx := 4, sl := [(0, .pl (.one (.v (.sc (.string text))))), (6, .pl (.one (.ref 1 []))), (7, .pl (.one (.ref 2 []))), (8, .pl (.one (.v (.sc (.int .i64 x33.1))))), (9, .pl (.one (.v (.sc (.int .i64 i))))), (10, .pl (.one (.ref 3 []))), (11, .pl (.one (.v (.sc (.int .i64 x48.1))))), (12, .pl (.one (.v (.sc (.int .i64 k_1)))))], ob := [(1, .box true [.sc (.string x64.2.text), .sc (.int .i64 x64.2.at_), .sc (.bool x64.2.bad)]), (2, .list true 3 (List.map (r_T_impl_Step true) out__1)), (3, .box true [.list true 1 (List.map (rK .i64) l_3), .sc (.string (ByteArray.mk #[])), .list true 4 (List.map (r_T_impl_Change true) [])])] } := by
                    refine fend (e2 := { N := 153, np := 1, nx := 4, sl := [(0, .pl (.one (.v (.sc (.string text))))), (6, .pl (.one (.ref 1 []))), (7, .pl (.one (.ref 2 []))), (8, .pl (.one (.v (.sc (.int .i64 x33.1))))), (9, .pl (.one (.v (.sc (.int .i64 i))))), (10, .pl (.one (.ref 3 []))), (11, .pl (.one (.v (.sc (.int .i64 x48.1))))), (12, .pl (.one (.v (.sc (.int .i64 k_1)))))], ob := [(1, .box true [.sc (.string x64.2.text), .sc (.int .i64 x64.2.at_), .sc (.bool x64.2.bad)]), (2, .list true 3 (List.map (r_T_impl_Step true) out__1)), (3, .box true [.list true 1 (List.map (rK .i64) l_3), .sc (.string (ByteArray.mk #[])), .list true 4 (List.map (r_T_impl_Change true) [])])] }) [] [] [] [] trivial ⟨rfl, shd [0, 6, 7, 8, 9, 10, 11, 12] [(1, 1), (2, 2), (3, 3)] 4 rfl⟩
                  have d14_1_0_1' : anyF X ?ops14_1_0 [0, 1, 2, 3, 4, 5, 6] [] ?P14_1_0 { N := 153, np := 1, nx := 5, sl := [(0, .pl (.one (.v (.sc (.string text))))), (6, .pl (.one (.ref 1 []))), (7, .pl (.one (.ref 2 []))), (8, .pl (.one (.v (.sc (.int .i64 x33.1))))), (9, .pl (.one (.v (.sc (.int .i64 i))))), (10, .pl (.one (.ref 3 []))), (11, .pl (.one (.v (.sc (.int .i64 x48.1))))), (12, .pl (.one (.v (.sc (.int .i64 k_1))))), (66, .pl (.one (.ref 4 []))), (67, .pl (.one (.addr 3 [] 0 0 0)))], ob := [(1, .box true [.sc (.string x64.2.text), .sc (.int .i64 x64.2.at_), .sc (.bool x64.2.bad)]), (2, .list true 3 (List.map (r_T_impl_Step true) out__1)), (3, .box true [.dead, .sc (.string (ByteArray.mk #[])), .list true 4 (List.map (r_T_impl_Change true) [])]), (4, .list true 1 (List.map (rK .i64) l_3))] } := by
                    refine fnode [] [.m 7 [] [0, 1, 2, 3, 4, 5, 6, 7] []] [] [(7, false, [], [0, 1, 2, 3, 4, 5, 6, 7])] ⟨?_, trivial⟩
                    · refine obMx { N := 153, np := 1, nx := 5, sl := [(0, .pl (.one (.v (.sc (.string text))))), (6, .pl (.one (.ref 1 []))), (7, .pl (.one (.ref 2 []))), (8, .pl (.one (.v (.sc (.int .i64 x33.1))))), (9, .pl (.one (.v (.sc (.int .i64 i))))), (10, .pl (.one (.ref 3 []))), (11, .pl (.one (.v (.sc (.int .i64 x48.1))))), (12, .pl (.one (.v (.sc (.int .i64 k_1))))), (66, .pl (.one (.ref 4 []))), (67, .pl (.one (.addr 3 [] 0 0 0)))], ob := [(1, .box true [.sc (.string x64.2.text), .sc (.int .i64 x64.2.at_), .sc (.bool x64.2.bad)]), (2, .list true 3 (List.map (r_T_impl_Step true) out__1)), (3, .box true [.dead, .sc (.string (ByteArray.mk #[])), .list true 4 (List.map (r_T_impl_Change true) [])]), (4, .list true 1 (List.map (rK .i64) l_3))] } ?_
                      refine ops H' ?_
                      refine opsV_nil ⟨rfl, .inl ⟨rfl, ?_⟩⟩
                      exact anyFShd [0, 6, 7, 8, 9, 10, 11, 12] [(1, 1), (2, 2), (3, 3)] 4 d14_1_0_0'
                  have d14_1_0_2' : anyF X ?ops14_1_0 [0, 1, 2, 3, 4, 5] [] ?P14_1_0 { N := 153, np := 1, nx := 5, sl := [(0, .pl (.one (.v (.sc (.string text))))), (6, .pl (.one (.ref 1 []))), (7, .pl (.one (.ref 2 []))), (8, .pl (.one (.v (.sc (.int .i64 x33.1))))), (9, .pl (.one (.v (.sc (.int .i64 i))))), (10, .pl (.one (.ref 3 []))), (11, .pl (.one (.v (.sc (.int .i64 x48.1))))), (12, .pl (.one (.v (.sc (.int .i64 k_1))))), (66, .pl (.one (.ref 4 [])))], ob := [(1, .box true [.sc (.string x64.2.text), .sc (.int .i64 x64.2.at_), .sc (.bool x64.2.bad)]), (2, .list true 3 (List.map (r_T_impl_Step true) out__1)), (3, .box true [.dead, .sc (.string (ByteArray.mk #[])), .list true 4 (List.map (r_T_impl_Change true) [])]), (4, .list true 1 (List.map (rK .i64) l_3))] } := by
                    refine fnode [] [.m 6 [] [0, 1, 2, 3, 4, 5, 6] []] [] [(6, false, [], [0, 1, 2, 3, 4, 5, 6])] ⟨?_, trivial⟩
                    · refine obMx { N := 153, np := 1, nx := 5, sl := [(0, .pl (.one (.v (.sc (.string text))))), (6, .pl (.one (.ref 1 []))), (7, .pl (.one (.ref 2 []))), (8, .pl (.one (.v (.sc (.int .i64 x33.1))))), (9, .pl (.one (.v (.sc (.int .i64 i))))), (10, .pl (.one (.ref 3 []))), (11, .pl (.one (.v (.sc (.int .i64 x48.1))))), (12, .pl (.one (.v (.sc (.int .i64 k_1))))), (66, .pl (.one (.ref 4 [])))], ob := [(1, .box true [.sc (.string x64.2.text), .sc (.int .i64 x64.2.at_), .sc (.bool x64.2.bad)]), (2, .list true 3 (List.map (r_T_impl_Step true) out__1)), (3, .box true [.dead, .sc (.string (ByteArray.mk #[])), .list true 4 (List.map (r_T_impl_Change true) [])]), (4, .list true 1 (List.map (rK .i64) l_3))] } ?_
                      refine ops H' ?_
                      refine opsV_nil ⟨rfl, .inl ⟨rfl, ?_⟩⟩
                      exact anyFShd [0, 6, 7, 8, 9, 10, 11, 12, 66, 67] [(1, 1), (2, 2), (3, 3), (4, 4)] 5 d14_1_0_1'
                  have d14_1_0_3' : anyF X ?ops14_1_0 [0, 1, 2, 3, 4] [] ?P14_1_0 { N := 153, np := 1, nx := 5, sl := [(0, .pl (.one (.v (.sc (.string text))))), (6, .pl (.one (.ref 1 []))), (7, .pl (.one (.ref 2 []))), (8, .pl (.one (.v (.sc (.int .i64 x33.1))))), (9, .pl (.one (.v (.sc (.int .i64 i))))), (10, .pl (.one (.ref 3 []))), (11, .pl (.one (.v (.sc (.int .i64 x48.1))))), (12, .pl (.one (.v (.sc (.int .i64 k_1))))), (62, .pl (.one (.ref 3 [(0, 0, 0)]))), (65, .pl (.one (.ref 4 [])))], ob := [(1, .box true [.sc (.string x64.2.text), .sc (.int .i64 x64.2.at_), .sc (.bool x64.2.bad)]), (2, .list true 3 (List.map (r_T_impl_Step true) out__1)), (3, .box true [.list true 1 (List.map (rK .i64) x_4), .sc (.string (ByteArray.mk #[])), .list true 4 (List.map (r_T_impl_Change true) [])]), (4, .list true 1 (List.map (rK .i64) [x64.1]))] } := by
                    refine fnode [] [.m 5 [] [0, 1, 2, 3, 4, 5] []] [] [(5, false, [], [0, 1, 2, 3, 4, 5])] ⟨?_, trivial⟩
                    · refine obMx { N := 153, np := 1, nx := 5, sl := [(0, .pl (.one (.v (.sc (.string text))))), (6, .pl (.one (.ref 1 []))), (7, .pl (.one (.ref 2 []))), (8, .pl (.one (.v (.sc (.int .i64 x33.1))))), (9, .pl (.one (.v (.sc (.int .i64 i))))), (10, .pl (.one (.ref 3 []))), (11, .pl (.one (.v (.sc (.int .i64 x48.1))))), (12, .pl (.one (.v (.sc (.int .i64 k_1))))), (62, .pl (.one (.ref 3 [(0, 0, 0)]))), (65, .pl (.one (.ref 4 [])))], ob := [(1, .box true [.sc (.string x64.2.text), .sc (.int .i64 x64.2.at_), .sc (.bool x64.2.bad)]), (2, .list true 3 (List.map (r_T_impl_Step true) out__1)), (3, .box true [.list true 1 (List.map (rK .i64) x_4), .sc (.string (ByteArray.mk #[])), .list true 4 (List.map (r_T_impl_Change true) [])]), (4, .list true 1 (List.map (rK .i64) [x64.1]))] } ?_
                      refine ops H' ?_
                      refine opsV_nil ⟨rfl, .inl ⟨rfl, ?_⟩⟩
                      exact anyFShd [0, 6, 7, 8, 9, 10, 11, 12, 66] [(1, 1), (2, 2), (3, 3), (5, 4)] 5 d14_1_0_2'
                  have d14_1_0_4' : anyF X ?ops14_1_0 [0, 1, 2, 3] [] ?P14_1_0 { N := 153, np := 1, nx := 4, sl := [(0, .pl (.one (.v (.sc (.string text))))), (6, .pl (.one (.ref 1 []))), (7, .pl (.one (.ref 2 []))), (8, .pl (.one (.v (.sc (.int .i64 x33.1))))), (9, .pl (.one (.v (.sc (.int .i64 i))))), (10, .pl (.one (.ref 3 []))), (11, .pl (.one (.v (.sc (.int .i64 x48.1))))), (12, .pl (.one (.v (.sc (.int .i64 k_1))))), (62, .pl (.one (.ref 3 [(0, 0, 0)]))), (64, .pl (.one (.v (.sc (.int .i64 x64.1)))))], ob := [(1, .box true [.sc (.string x64.2.text), .sc (.int .i64 x64.2.at_), .sc (.bool x64.2.bad)]), (2, .list true 3 (List.map (r_T_impl_Step true) out__1)), (3, .box true [.list true 1 (List.map (rK .i64) x_4), .sc (.string (ByteArray.mk #[])), .list true 4 (List.map (r_T_impl_Change true) [])])] } := by
                    refine fnode [] [.m 4 [] [0, 1, 2, 3, 4] []] [] [(4, false, [], [0, 1, 2, 3, 4])] ⟨?_, trivial⟩
                    · refine obMx { N := 153, np := 1, nx := 4, sl := [(0, .pl (.one (.v (.sc (.string text))))), (6, .pl (.one (.ref 1 []))), (7, .pl (.one (.ref 2 []))), (8, .pl (.one (.v (.sc (.int .i64 x33.1))))), (9, .pl (.one (.v (.sc (.int .i64 i))))), (10, .pl (.one (.ref 3 []))), (11, .pl (.one (.v (.sc (.int .i64 x48.1))))), (12, .pl (.one (.v (.sc (.int .i64 k_1))))), (62, .pl (.one (.ref 3 [(0, 0, 0)]))), (64, .pl (.one (.v (.sc (.int .i64 x64.1)))))], ob := [(1, .box true [.sc (.string x64.2.text), .sc (.int .i64 x64.2.at_), .sc (.bool x64.2.bad)]), (2, .list true 3 (List.map (r_T_impl_Step true) out__1)), (3, .box true [.list true 1 (List.map (rK .i64) x_4), .sc (.string (ByteArray.mk #[])), .list true 4 (List.map (r_T_impl_Change true) [])])] } ?_
                      refine ops H' ?_
                      refine opsV_nil ⟨rfl, .inl ⟨rfl, ?_⟩⟩
                      exact anyFShd [0, 6, 7, 8, 9, 10, 11, 12, 62, 65] [(1, 1), (2, 2), (3, 3), (4, 4)] 5 d14_1_0_3'
                  have d14_1_0_5' : anyF X ?ops14_1_0 [0, 1, 2] [] ?P14_1_0 { N := 153, np := 1, nx := 4, sl := [(0, .pl (.one (.v (.sc (.string text))))), (6, .pl (.one (.ref 1 []))), (7, .pl (.one (.ref 2 []))), (8, .pl (.one (.v (.sc (.int .i64 x33.1))))), (9, .pl (.one (.v (.sc (.int .i64 i))))), (10, .pl (.one (.ref 3 []))), (11, .pl (.one (.v (.sc (.int .i64 x48.1))))), (12, .pl (.one (.v (.sc (.int .i64 k_1))))), (62, .pl (.one (.ref 3 [(0, 0, 0)]))), (63, .pl (.one (.ref 1 [])))], ob := [(1, .box true [.sc (.string c_27), .sc (.int .i64 c_28), .sc (.bool c_29)]), (2, .list true 3 (List.map (r_T_impl_Step true) out__1)), (3, .box true [.list true 1 (List.map (rK .i64) x_4), .sc (.string (ByteArray.mk #[])), .list true 4 (List.map (r_T_impl_Change true) [])])] } := by
                    refine fnode [] [.m 3 [] [0, 1, 2, 3] []] [] [(3, false, [], [0, 1, 2, 3])] ⟨?_, trivial⟩
                    · refine obMx { N := 153, np := 1, nx := 4, sl := [(0, .pl (.one (.v (.sc (.string text))))), (6, .pl (.one (.ref 1 []))), (7, .pl (.one (.ref 2 []))), (8, .pl (.one (.v (.sc (.int .i64 x33.1))))), (9, .pl (.one (.v (.sc (.int .i64 i))))), (10, .pl (.one (.ref 3 []))), (11, .pl (.one (.v (.sc (.int .i64 x48.1))))), (12, .pl (.one (.v (.sc (.int .i64 k_1))))), (62, .pl (.one (.ref 3 [(0, 0, 0)]))), (63, .pl (.one (.ref 1 [])))], ob := [(1, .box true [.sc (.string c_27), .sc (.int .i64 c_28), .sc (.bool c_29)]), (2, .list true 3 (List.map (r_T_impl_Step true) out__1)), (3, .box true [.list true 1 (List.map (rK .i64) x_4), .sc (.string (ByteArray.mk #[])), .list true 4 (List.map (r_T_impl_Change true) [])])] } ?_
                      refine callG H' (fun _ => [0]) (W_spec_l08Var _ _ _ hy_x64) ?_
                      refine opsV_nil ⟨rfl, .inl ⟨rfl, ?_⟩⟩
                      exact anyFShd [0, 6, 7, 8, 9, 10, 11, 12, 62, 64] [(1, 1), (2, 2), (3, 3)] 4 d14_1_0_4'
                  have d14_1_0_6' : anyF X ?ops14_1_0 [0, 2, 3, 4] [] ?P14_1_0 { N := 153, np := 1, nx := 5, sl := [(0, .pl (.one (.v (.sc (.string text))))), (6, .pl (.one (.ref 1 []))), (7, .pl (.one (.ref 2 []))), (8, .pl (.one (.v (.sc (.int .i64 x33.1))))), (9, .pl (.one (.v (.sc (.int .i64 i))))), (10, .pl (.one (.ref 3 []))), (11, .pl (.one (.v (.sc (.int .i64 x48.1))))), (12, .pl (.one (.v (.sc (.int .i64 k_1))))), (61, .pl (.one (.addr 3 [] 0 0 0))), (65, .pl (.one (.ref 4 [])))], ob := [(1, .box true [.sc (.string x64.2.text), .sc (.int .i64 x64.2.at_), .sc (.bool x64.2.bad)]), (2, .list true 3 (List.map (r_T_impl_Step true) out__1)), (3, .box true [.list true 1 (List.map (rK .i64) x_4), .sc (.string (ByteArray.mk #[])), .list true 4 (List.map (r_T_impl_Change true) [])]), (4, .list true 1 (List.map (rK .i64) [x64.1]))] } := by
                    refine fnode [] [.m 1 [] [0, 1, 2, 3, 4] []] [] [(1, false, [], [0, 1, 2, 3, 4])] ⟨?_, trivial⟩
                    · refine obMx { N := 153, np := 1, nx := 5, sl := [(0, .pl (.one (.v (.sc (.string text))))), (6, .pl (.one (.ref 1 []))), (7, .pl (.one (.ref 2 []))), (8, .pl (.one (.v (.sc (.int .i64 x33.1))))), (9, .pl (.one (.v (.sc (.int .i64 i))))), (10, .pl (.one (.ref 3 []))), (11, .pl (.one (.v (.sc (.int .i64 x48.1))))), (12, .pl (.one (.v (.sc (.int .i64 k_1))))), (61, .pl (.one (.addr 3 [] 0 0 0))), (65, .pl (.one (.ref 4 [])))], ob := [(1, .box true [.sc (.string x64.2.text), .sc (.int .i64 x64.2.at_), .sc (.bool x64.2.bad)]), (2, .list true 3 (List.map (r_T_impl_Step true) out__1)), (3, .box true [.list true 1 (List.map (rK .i64) x_4), .sc (.string (ByteArray.mk #[])), .list true 4 (List.map (r_T_impl_Change true) [])]), (4, .list true 1 (List.map (rK .i64) [x64.1]))] } ?_
                      refine ops H' ?_
                      refine opsV_nil ⟨rfl, .inl ⟨rfl, ?_⟩⟩
                      exact anyFShd [0, 6, 7, 8, 9, 10, 11, 12, 62, 65] [(1, 1), (2, 2), (3, 3), (4, 4)] 5 d14_1_0_3'
                  have d14_1_0_7' : anyF X ?ops14_1_0 [0, 2, 3] [] ?P14_1_0 { N := 153, np := 1, nx := 4, sl := [(0, .pl (.one (.v (.sc (.string text))))), (6, .pl (.one (.ref 1 []))), (7, .pl (.one (.ref 2 []))), (8, .pl (.one (.v (.sc (.int .i64 x33.1))))), (9, .pl (.one (.v (.sc (.int .i64 i))))), (10, .pl (.one (.ref 3 []))), (11, .pl (.one (.v (.sc (.int .i64 x48.1))))), (12, .pl (.one (.v (.sc (.int .i64 k_1))))), (61, .pl (.one (.addr 3 [] 0 0 0))), (64, .pl (.one (.v (.sc (.int .i64 x64.1)))))], ob := [(1, .box true [.sc (.string x64.2.text), .sc (.int .i64 x64.2.at_), .sc (.bool x64.2.bad)]), (2, .list true 3 (List.map (r_T_impl_Step true) out__1)), (3, .box true [.list true 1 (List.map (rK .i64) x_4), .sc (.string (ByteArray.mk #[])), .list true 4 (List.map (r_T_impl_Change true) [])])] } := by
                    refine fnode [] [.m 1 [] [0, 1, 2, 3] [], .m 4 [] [0, 2, 3, 4] []] [] [(1, false, [], [0, 1, 2, 3]), (4, false, [], [0, 2, 3, 4])] ⟨?_, ?_, trivial⟩
                    · refine obMx { N := 153, np := 1, nx := 4, sl := [(0, .pl (.one (.v (.sc (.string text))))), (6, .pl (.one (.ref 1 []))), (7, .pl (.one (.ref 2 []))), (8, .pl (.one (.v (.sc (.int .i64 x33.1))))), (9, .pl (.one (.v (.sc (.int .i64 i))))), (10, .pl (.one (.ref 3 []))), (11, .pl (.one (.v (.sc (.int .i64 x48.1))))), (12, .pl (.one (.v (.sc (.int .i64 k_1))))), (61, .pl (.one (.addr 3 [] 0 0 0))), (64, .pl (.one (.v (.sc (.int .i64 x64.1)))))], ob := [(1, .box true [.sc (.string x64.2.text), .sc (.int .i64 x64.2.at_), .sc (.bool x64.2.bad)]), (2, .list true 3 (List.map (r_T_impl_Step true) out__1)), (3, .box true [.list true 1 (List.map (rK .i64) x_4), .sc (.string (ByteArray.mk #[])), .list true 4 (List.map (r_T_impl_Change true) [])])] } ?_
                      refine ops H' ?_
                      refine opsV_nil ⟨rfl, .inl ⟨rfl, ?_⟩⟩
                      exact anyFShd [0, 6, 7, 8, 9, 10, 11, 12, 62, 64] [(1, 1), (2, 2), (3, 3)] 4 d14_1_0_4'
                    · refine obMx { N := 153, np := 1, nx := 4, sl := [(0, .pl (.one (.v (.sc (.string text))))), (6, .pl (.one (.ref 1 []))), (7, .pl (.one (.ref 2 []))), (8, .pl (.one (.v (.sc (.int .i64 x33.1))))), (9, .pl (.one (.v (.sc (.int .i64 i))))), (10, .pl (.one (.ref 3 []))), (11, .pl (.one (.v (.sc (.int .i64 x48.1))))), (12, .pl (.one (.v (.sc (.int .i64 k_1))))), (61, .pl (.one (.addr 3 [] 0 0 0))), (64, .pl (.one (.v (.sc (.int .i64 x64.1)))))], ob := [(1, .box true [.sc (.string x64.2.text), .sc (.int .i64 x64.2.at_), .sc (.bool x64.2.bad)]), (2, .list true 3 (List.map (r_T_impl_Step true) out__1)), (3, .box true [.list true 1 (List.map (rK .i64) x_4), .sc (.string (ByteArray.mk #[])), .list true 4 (List.map (r_T_impl_Change true) [])])] } ?_
                      refine ops H' ?_
                      refine opsV_nil ⟨rfl, .inl ⟨rfl, ?_⟩⟩
                      exact anyFShd [0, 6, 7, 8, 9, 10, 11, 12, 61, 65] [(1, 1), (2, 2), (3, 3), (4, 4)] 5 d14_1_0_6'
                  have d14_1_0_8' : anyF X ?ops14_1_0 [0, 2] [] ?P14_1_0 { N := 153, np := 1, nx := 4, sl := [(0, .pl (.one (.v (.sc (.string text))))), (6, .pl (.one (.ref 1 []))), (7, .pl (.one (.ref 2 []))), (8, .pl (.one (.v (.sc (.int .i64 x33.1))))), (9, .pl (.one (.v (.sc (.int .i64 i))))), (10, .pl (.one (.ref 3 []))), (11, .pl (.one (.v (.sc (.int .i64 x48.1))))), (12, .pl (.one (.v (.sc (.int .i64 k_1))))), (61, .pl (.one (.addr 3 [] 0 0 0))), (63, .pl (.one (.ref 1 [])))], ob := [(1, .box true [.sc (.string c_27), .sc (.int .i64 c_28), .sc (.bool c_29)]), (2, .list true 3 (List.map (r_T_impl_Step true) out__1)), (3, .box true [.list true 1 (List.map (rK .i64) x_4), .sc (.string (ByteArray.mk #[])), .list true 4 (List.map (r_T_impl_Change true) [])])] } := by
                    refine fnode [] [.m 1 [] [0, 1, 2] [], .m 3 [] [0, 2, 3] []] [] [(1, false, [], [0, 1, 2]), (3, false, [], [0, 2, 3])] ⟨?_, ?_, trivial⟩
                    · refine obMx { N := 153, np := 1, nx := 4, sl := [(0, .pl (.one (.v (.sc (.string text))))), (6, .pl (.one (.ref 1 []))), (7, .pl (.one (.ref 2 []))), (8, .pl (.one (.v (.sc (.int .i64 x33.1))))), (9, .pl (.one (.v (.sc (.int .i64 i))))), (10, .pl (.one (.ref 3 []))), (11, .pl (.one (.v (.sc (.int .i64 x48.1))))), (12, .pl (.one (.v (.sc (.int .i64 k_1))))), (61, .pl (.one (.addr 3 [] 0 0 0))), (63, .pl (.one (.ref 1 [])))], ob := [(1, .box true [.sc (.string c_27), .sc (.int .i64 c_28), .sc (.bool c_29)]), (2, .list true 3 (List.map (r_T_impl_Step true) out__1)), (3, .box true [.list true 1 (List.map (rK .i64) x_4), .sc (.string (ByteArray.mk #[])), .list true 4 (List.map (r_T_impl_Change true) [])])] } ?_
                      refine ops H' ?_
                      refine opsV_nil ⟨rfl, .inl ⟨rfl, ?_⟩⟩
                      exact anyFShd [0, 6, 7, 8, 9, 10, 11, 12, 62, 63] [(1, 1), (2, 2), (3, 3)] 4 d14_1_0_5'
                    · refine obMx { N := 153, np := 1, nx := 4, sl := [(0, .pl (.one (.v (.sc (.string text))))), (6, .pl (.one (.ref 1 []))), (7, .pl (.one (.ref 2 []))), (8, .pl (.one (.v (.sc (.int .i64 x33.1))))), (9, .pl (.one (.v (.sc (.int .i64 i))))), (10, .pl (.one (.ref 3 []))), (11, .pl (.one (.v (.sc (.int .i64 x48.1))))), (12, .pl (.one (.v (.sc (.int .i64 k_1))))), (61, .pl (.one (.addr 3 [] 0 0 0))), (63, .pl (.one (.ref 1 [])))], ob := [(1, .box true [.sc (.string c_27), .sc (.int .i64 c_28), .sc (.bool c_29)]), (2, .list true 3 (List.map (r_T_impl_Step true) out__1)), (3, .box true [.list true 1 (List.map (rK .i64) x_4), .sc (.string (ByteArray.mk #[])), .list true 4 (List.map (r_T_impl_Change true) [])])] } ?_
                      refine callG H' (fun _ => [0]) (W_spec_l08Var _ _ _ hy_x64) ?_
                      refine opsV_nil ⟨rfl, .inl ⟨rfl, ?_⟩⟩
                      exact anyFShd [0, 6, 7, 8, 9, 10, 11, 12, 61, 64] [(1, 1), (2, 2), (3, 3)] 4 d14_1_0_7'
                  refine fpure H' 0 [0] [] ?_
                  refine fpure H' 2 [0, 2] [] ?_
                  exact anyFShd [0, 6, 7, 8, 9, 10, 11, 12, 61, 63] [(1, 1), (2, 2), (3, 3)] 4 d14_1_0_8'
                · rintro e' rfl
                  refine contN ?_
                  refine wpV_region ?_
                  refine ops H' ?_
                  refine opsN ?_
                  obtain rfl := Option.some.inj h2'
                  exact shd [0, 6, 7, 8, 9, 10, 11, 12] [(1, 1), (2, 2), (3, 3)] 4 ⟨_, rfl, _, _, _, _, _, rfl, rfl⟩
              · replace h2' := (ifF hc').symm.trans h2'
                refine exitN ?_
                obtain rfl := Option.some.inj h2'
                refine ⟨_, rfl, fun hr' => ?_⟩
                subst hr'
                exact shd [0, 6, 7, 8, 9, 10] [(1, 1), (2, 2), (3, 3)] 4 ⟨_, _, _, _, h1', rfl⟩
          · rintro e' ⟨c_9, c_10, c_11, x, h1', rfl⟩
            unfold spec_ReadBundle_j3 at h1'
            refine wpV_seq1 ?_
            refine wpV_region ?_
            refine ops H' ?_
            obtain ⟨x69, hy', h1'⟩ := Option.bind_eq_some_iff.1 h1'
            refine callG H' (fun _ => [0]) (W_spec_l08Short _ _ hy') ?_
            refine ops H' ?_
            refine opsN ?_
            refine wpV_seq1 ?_
            refine wpV_region ?_
            refine ops H' ?_
            obtain ⟨x72, hy', h1'⟩ := Option.bind_eq_some_iff.1 h1'
            refine callG H' (fun _ => [0]) (W_spec_l08Var _ _ _ hy') ?_
            refine ops H' ?_
            refine opsN ?_
            refine wpV_seqJ (fun e' => ∃ c_12 c_13 c_14 x_1, spec_ReadBundle_j4 i out__1 x x69 c_12 c_13 c_14 x_1 = some y1' ∧ e' = { N := 153, np := 1, nx := 4, sl := [(0, .pl (.one (.v (.sc (.string text))))), (6, .pl (.one (.ref 1 []))), (7, .pl (.one (.ref 2 []))), (8, .pl (.one (.v (.sc (.int .i64 x33.1))))), (9, .pl (.one (.v (.sc (.int .i64 i))))), (10, .pl (.one (.ref 3 [])))], ob := [(1, .box true [.sc (.string c_12), .sc (.int .i64 c_13), .sc (.bool c_14)]), (2, .list true 3 (List.map (r_T_impl_Step true) out__1)), (3, .box true [.list true 1 (List.map (rK .i64) x), .sc (.string x69.1), .list true 4 (List.map (r_T_impl_Change true) x_1)])] }) ?_ ?_
            · refine wpV_seq1 ?_
              refine wpV_region ?_
              refine ops H' ?_
              refine opsN ?_
              obtain ⟨p_1, hl', h1'⟩ := Option.bind_eq_some_iff.1 h1'
              refine wpV_block ?_
              refine wpV_loopM (fun s' e' => ∃ k c_15 c_16 c_17 x_2, s' = (k, c_15, c_16, c_17, x_2) ∧ e' = { N := 153, np := 1, nx := 4, sl := [(0, .pl (.one (.v (.sc (.string text))))), (6, .pl (.one (.ref 1 []))), (7, .pl (.one (.ref 2 []))), (8, .pl (.one (.v (.sc (.int .i64 x33.1))))), (9, .pl (.one (.v (.sc (.int .i64 i))))), (10, .pl (.one (.ref 3 []))), (11, .pl (.one (.v (.sc (.int .i64 x72.1))))), (13, .pl (.one (.v (.sc (.int .i64 k)))))], ob := [(1, .box true [.sc (.string c_15), .sc (.int .i64 c_16), .sc (.bool c_17)]), (2, .list true 3 (List.map (r_T_impl_Step true) out__1)), (3, .box true [.list true 1 (List.map (rK .i64) x), .sc (.string x69.1), .list true 4 (List.map (r_T_impl_Change true) x_2)])] }) hl' (shd [0, 6, 7, 8, 9, 10, 11, 13] [(1, 1), (2, 2), (3, 3)] 4 ⟨_, _, _, _, _, rfl, rfl⟩) ?_
              rintro s' y2' e' h2' ⟨k, c_15, c_16, c_17, x_2, rfl, rfl⟩
              replace h2' : spec_ReadBundle_l2 x72 k c_15 c_16 c_17 x_2 = some y2' := h2'
              unfold spec_ReadBundle_l2 at h2'
              refine wpV_seq1 ?_
              refine wpV_seq1 ?_
              refine wpV_region ?_
              refine ops H' ?_
              obtain ⟨b_3, gh2', h2'⟩ := Option.bind_eq_some_iff.1 h2'
              refine opsV_cut 6 (fun e' => e' = { N := 153, np := 1, nx := 4, sl := [(0, .pl (.one (.v (.sc (.string text))))), (6, .pl (.one (.ref 1 []))), (7, .pl (.one (.ref 2 []))), (8, .pl (.one (.v (.sc (.int .i64 x33.1))))), (9, .pl (.one (.v (.sc (.int .i64 i))))), (10, .pl (.one (.ref 3 []))), (11, .pl (.one (.v (.sc (.int .i64 x72.1))))), (13, .pl (.one (.v (.sc (.int .i64 k))))), (82, .pl (.one (.v (.sc (.bool b_3)))))], ob := [(1, .box true [.sc (.string c_15), .sc (.int .i64 c_16), .sc (.bool c_17)]), (2, .list true 3 (List.map (r_T_impl_Step true) out__1)), (3, .box true [.list true 1 (List.map (rK .i64) x), .sc (.string x69.1), .list true 4 (List.map (r_T_impl_Change true) x_2)])] }) ?_ ?_
              · simp only [List.take_succ_cons, List.take_zero]
                refine opsV_sp (fun hc' => ?_) (fun hc' => ?_)
                · replace gh2' := (ifT hc').symm.trans gh2'
                  refine ops H' ?_
                  obtain rfl := Option.some.inj gh2'
                  refine opsV_nil ?_
                  exact ⟨rfl, shd [0, 6, 7, 8, 9, 10, 11, 13, 82] [(1, 1), (2, 2), (3, 3)] 4 rfl⟩
                · replace gh2' := (ifF hc').symm.trans gh2'
                  refine ops H' ?_
                  obtain rfl := Option.some.inj gh2'
                  refine opsV_nil ?_
                  exact ⟨rfl, shd [0, 6, 7, 8, 9, 10, 11, 13, 82] [(1, 1), (2, 2), (3, 3)] 4 rfl⟩
              · rintro e' rfl
                simp only [List.drop_succ_cons, List.drop_zero]
                refine opsN ?_
                refine wpV_split (fun hc' => ?_) (fun hc' => ?_)
                · replace h2' := (ifT hc').symm.trans h2'
                  refine skipN ?_
                  refine wpV_seqJ (fun e' => ∃ c_18 c_19 c_20 x_3, spec_ReadBundle_j5 k c_18 c_19 c_20 x_3 = some y2' ∧ e' = { N := 153, np := 1, nx := 4, sl := [(0, .pl (.one (.v (.sc (.string text))))), (6, .pl (.one (.ref 1 []))), (7, .pl (.one (.ref 2 []))), (8, .pl (.one (.v (.sc (.int .i64 x33.1))))), (9, .pl (.one (.v (.sc (.int .i64 i))))), (10, .pl (.one (.ref 3 []))), (11, .pl (.one (.v (.sc (.int .i64 x72.1))))), (13, .pl (.one (.v (.sc (.int .i64 k)))))], ob := [(1, .box true [.sc (.string c_18), .sc (.int .i64 c_19), .sc (.bool c_20)]), (2, .list true 3 (List.map (r_T_impl_Step true) out__1)), (3, .box true [.list true 1 (List.map (rK .i64) x), .sc (.string x69.1), .list true 4 (List.map (r_T_impl_Change true) x_3)])] }) ?_ ?_
                  · refine wpV_block ?_
                    refine wpV_seq1 ?_
                    refine wpV_region ?_
                    refine ops H' ?_
                    refine opsN ?_
                    refine wpV_seq1 ?_
                    refine wpV_region ?_
                    refine ops H' ?_
                    obtain ⟨x87, hy', h2'⟩ := Option.bind_eq_some_iff.1 h2'
                    refine callG H' (fun _ => [0]) (W_spec_l08Take _ _ _ hy') ?_
                    refine ops H' ?_
                    refine opsN ?_
                    refine wpV_seqJ (fun e' => ∃ y, spec_ReadBundle_j6 k x_2 x87 y = some y2' ∧ e' = { N := 153, np := 1, nx := 5, sl := [(0, .pl (.one (.v (.sc (.string text))))), (6, .pl (.one (.ref 1 []))), (7, .pl (.one (.ref 2 []))), (8, .pl (.one (.v (.sc (.int .i64 x33.1))))), (9, .pl (.one (.v (.sc (.int .i64 i))))), (10, .pl (.one (.ref 3 []))), (11, .pl (.one (.v (.sc (.int .i64 x72.1))))), (13, .pl (.one (.v (.sc (.int .i64 k))))), (14, .pl (.one (.ref 4 [])))], ob := [(1, .box true [.sc (.string x87.2.text), .sc (.int .i64 x87.2.at_), .sc (.bool x87.2.bad)]), (2, .list true 3 (List.map (r_T_impl_Step true) out__1)), (3, .box true [.list true 1 (List.map (rK .i64) x), .sc (.string x69.1), .list true 4 (List.map (r_T_impl_Change true) x_2)]), (4, .box true [.sc (.int .i64 y), .sc (.string (ByteArray.mk #[])), .sc (.string (ByteArray.mk #[])), .list true 1 (List.map rS [])])] }) ?_ ?_
                    · refine wpV_seq1 ?_
                      refine wpV_region ?_
                      refine ops H' ?_
                      refine opsN ?_
                      refine wpV_split (fun hc' => ?_) (fun hc' => ?_)
                      · replace h2' := (ifT hc').symm.trans h2'
                        refine wpV_region ?_
                        obtain ⟨x94, hv', h2'⟩ := Option.bind_eq_some_iff.1 h2'
                        have H' := And.intro (sidx_f hv') H'
                        refine ops H' ?_
                        refine opsN ?_
                        exact shd [0, 6, 7, 8, 9, 10, 11, 13, 14] [(1, 1), (2, 2), (3, 3), (4, 4)] 5 ⟨_, h2', rfl⟩
                      · replace h2' := (ifF hc').symm.trans h2'
                        refine skipN ?_
                        exact shd [0, 6, 7, 8, 9, 10, 11, 13, 14] [(1, 1), (2, 2), (3, 3), (4, 4)] 5 ⟨_, h2', rfl⟩
                    · rintro e' ⟨y, h2', rfl⟩
                      unfold spec_ReadBundle_j6 at h2'
                      refine wpV_seq1 ?_
                      refine wpV_region ?_
                      refine ops H' ?_
                      obtain ⟨x98, hy', h2'⟩ := Option.bind_eq_some_iff.1 h2'
                      refine callG H' (fun _ => [0]) (W_spec_l08Short _ _ hy') ?_
                      refine ops H' ?_
                      refine opsN ?_
                      refine wpV_seq1 ?_
                      refine wpV_region ?_
                      refine ops H' ?_
                      obtain ⟨x101, hy', h2'⟩ := Option.bind_eq_some_iff.1 h2'
                      refine callG H' (fun _ => [0]) (W_spec_l08Short _ _ hy') ?_
                      refine ops H' ?_
                      refine opsN ?_
                      refine wpV_seq1 ?_
                      refine wpV_region ?_
                      refine ops H' ?_
                      obtain ⟨x104, hy', h2'⟩ := Option.bind_eq_some_iff.1 h2'
                      refine callG H' (fun _ => [0]) (W_spec_l08Var _ _ _ hy') ?_
                      refine ops H' ?_
                      refine opsN ?_
                      refine wpV_seqJ (fun e' => ∃ c_21 c_22 c_23 y_1, spec_ReadBundle_j7 k x_2 y x98 x101 c_21 c_22 c_23 y_1 = some y2' ∧ e' = { N := 153, np := 1, nx := 5, sl := [(0, .pl (.one (.v (.sc (.string text))))), (6, .pl (.one (.ref 1 []))), (7, .pl (.one (.ref 2 []))), (8, .pl (.one (.v (.sc (.int .i64 x33.1))))), (9, .pl (.one (.v (.sc (.int .i64 i))))), (10, .pl (.one (.ref 3 []))), (11, .pl (.one (.v (.sc (.int .i64 x72.1))))), (13, .pl (.one (.v (.sc (.int .i64 k))))), (14, .pl (.one (.ref 4 [])))], ob := [(1, .box true [.sc (.string c_21), .sc (.int .i64 c_22), .sc (.bool c_23)]), (2, .list true 3 (List.map (r_T_impl_Step true) out__1)), (3, .box true [.list true 1 (List.map (rK .i64) x), .sc (.string x69.1), .list true 4 (List.map (r_T_impl_Change true) x_2)]), (4, .box true [.sc (.int .i64 y), .sc (.string x98.1), .sc (.string x101.1), .list true 1 (List.map rS y_1)])] }) ?_ ?_
                      · obtain ⟨p_2, hl', h2'⟩ := Option.bind_eq_some_iff.1 h2'
                        refine wpV_block ?_
                        refine wpV_loopM (fun s' e' => ∃ j c_24 c_25 c_26 y_2, s' = (j, c_24, c_25, c_26, y_2) ∧ e' = { N := 153, np := 1, nx := 5, sl := [(0, .pl (.one (.v (.sc (.string text))))), (6, .pl (.one (.ref 1 []))), (7, .pl (.one (.ref 2 []))), (8, .pl (.one (.v (.sc (.int .i64 x33.1))))), (9, .pl (.one (.v (.sc (.int .i64 i))))), (10, .pl (.one (.ref 3 []))), (11, .pl (.one (.v (.sc (.int .i64 x72.1))))), (13, .pl (.one (.v (.sc (.int .i64 k))))), (14, .pl (.one (.ref 4 []))), (16, .pl (.one (.v (.sc (.int .i64 j)))))], ob := [(1, .box true [.sc (.string c_24), .sc (.int .i64 c_25), .sc (.bool c_26)]), (2, .list true 3 (List.map (r_T_impl_Step true) out__1)), (3, .box true [.list true 1 (List.map (rK .i64) x), .sc (.string x69.1), .list true 4 (List.map (r_T_impl_Change true) x_2)]), (4, .box true [.sc (.int .i64 y), .sc (.string x98.1), .sc (.string x101.1), .list true 1 (List.map rS y_2)])] }) hl' (shd [0, 6, 7, 8, 9, 10, 11, 13, 14, 16] [(1, 1), (2, 2), (3, 3), (4, 4)] 5 ⟨_, _, _, _, _, rfl, rfl⟩) ?_
                        rintro s' y3' e' h3' ⟨j, c_24, c_25, c_26, y_2, rfl, rfl⟩
                        replace h3' : spec_ReadBundle_l3 j c_24 c_25 c_26 y_2 = some y3' := h3'
                        unfold spec_ReadBundle_l3 at h3'
                        refine wpV_seq1 ?_
                        refine wpV_seq1 ?_
                        refine wpV_region ?_
                        refine ops H' ?_
                        obtain ⟨b_4, gh3', h3'⟩ := Option.bind_eq_some_iff.1 h3'
                        refine opsV_cut 6 (fun e' => e' = { N := 153, np := 1, nx := 5, sl := [(0, .pl (.one (.v (.sc (.string text))))), (6, .pl (.one (.ref 1 []))), (7, .pl (.one (.ref 2 []))), (8, .pl (.one (.v (.sc (.int .i64 x33.1))))), (9, .pl (.one (.v (.sc (.int .i64 i))))), (10, .pl (.one (.ref 3 []))), (11, .pl (.one (.v (.sc (.int .i64 x72.1))))), (13, .pl (.one (.v (.sc (.int .i64 k))))), (14, .pl (.one (.ref 4 []))), (16, .pl (.one (.v (.sc (.int .i64 j))))), (113, .pl (.one (.v (.sc (.bool b_4)))))], ob := [(1, .box true [.sc (.string c_24), .sc (.int .i64 c_25), .sc (.bool c_26)]), (2, .list true 3 (List.map (r_T_impl_Step true) out__1)), (3, .box true [.list true 1 (List.map (rK .i64) x), .sc (.string x69.1), .list true 4 (List.map (r_T_impl_Change true) x_2)]), (4, .box true [.sc (.int .i64 y), .sc (.string x98.1), .sc (.string x101.1), .list true 1 (List.map rS y_2)])] }) ?_ ?_
                        · simp only [List.take_succ_cons, List.take_zero]
                          refine opsV_sp (fun hc' => ?_) (fun hc' => ?_)
                          · replace gh3' := (ifT hc').symm.trans gh3'
                            refine ops H' ?_
                            obtain rfl := Option.some.inj gh3'
                            refine opsV_nil ?_
                            exact ⟨rfl, shd [0, 6, 7, 8, 9, 10, 11, 13, 14, 16, 113] [(1, 1), (2, 2), (3, 3), (4, 4)] 5 rfl⟩
                          · replace gh3' := (ifF hc').symm.trans gh3'
                            refine ops H' ?_
                            obtain rfl := Option.some.inj gh3'
                            refine opsV_nil ?_
                            exact ⟨rfl, shd [0, 6, 7, 8, 9, 10, 11, 13, 14, 16, 113] [(1, 1), (2, 2), (3, 3), (4, 4)] 5 rfl⟩
                        · rintro e' rfl
                          simp only [List.drop_succ_cons, List.drop_zero]
                          refine opsN ?_
                          refine wpV_split (fun hc' => ?_) (fun hc' => ?_)
                          · replace h3' := (ifT hc').symm.trans h3'
                            refine skipN ?_
                            refine wpV_seq1 ?_
                            refine wpV_block ?_
                            obtain ⟨x119, hy_x119, h3'⟩ := Option.bind_eq_some_iff.1 h3'
                            obtain ⟨l_2, hv', h3'⟩ := Option.bind_eq_some_iff.1 h3'
                            have H' := And.intro (app1_f hv') H'
                            refine wpV_J (fun e' => e' = { N := 153, np := 1, nx := 5, sl := [(0, .pl (.one (.v (.sc (.string text))))), (6, .pl (.one (.ref 1 []))), (7, .pl (.one (.ref 2 []))), (8, .pl (.one (.v (.sc (.int .i64 x33.1))))), (9, .pl (.one (.v (.sc (.int .i64 i))))), (10, .pl (.one (.ref 3 []))), (11, .pl (.one (.v (.sc (.int .i64 x72.1))))), (13, .pl (.one (.v (.sc (.int .i64 k))))), (14, .pl (.one (.ref 4 []))), (16, .pl (.one (.v (.sc (.int .i64 j)))))], ob := [(1, .box true [.sc (.string x119.2.text), .sc (.int .i64 x119.2.at_), .sc (.bool x119.2.bad)]), (2, .list true 3 (List.map (r_T_impl_Step true) out__1)), (3, .box true [.list true 1 (List.map (rK .i64) x), .sc (.string x69.1), .list true 4 (List.map (r_T_impl_Change true) x_2)]), (4, .box true [.sc (.int .i64 y), .sc (.string x98.1), .sc (.string x101.1), .list true 1 (List.map rS l_2)])] }) ?_ ?_
                            · refine regAnyF [] ?_
                              refine (?_ : anyF X ?ops29_0_0 _ _ ?P29_0_0 _)
                              have d29_0_0_0' : anyF X ?ops29_0_0 [0, 1, 2, 3, 4, 5, 6, 7] [] ?P29_0_0 { N := 153, np := 1, nx := 5, sl := [(0, .pl (.one (.v (.sc (.string text))))), (6, .pl (.one (.ref 1 []))), (7, .pl (.one (.ref 2 []))), (8, .pl (.one (.v (.sc (.int .i64 x33.1))))), (9, .pl (.one (.v (.sc (.int .i64 i))))), (10, .pl (.one (.ref 3 []))), (11, .pl (.one (.v (.sc (.int .i64 x72.1))))), (13, .pl (.one (.v (.sc (.int .i64 k))))), (14, .pl (.one (.ref 4 []))), (16, .pl (.one (.v (.sc (.int .i64 j)))))], ob := [(1, .box true [.sc (.string x119.2.text), .sc (.int .i64 x119.2.at_), .sc (.bool x119.2.bad)]), (2, .list true 3 (List.map (r_T_impl_Step true) out__1)), (3, .box true [.list true 1 (List.map (rK .i64) x), .sc (.string x69.1), .list true 4 (List.map (r_T_impl_Change true) x_2)]), (4, .box true [.sc (.int .i64 y), .sc (.string x98.1), .sc (.string x101.1), .list true 1 (List.map rS l_2)])] } := by
                                refine fend (e2 := { N := 153, np := 1, nx := 5, sl := [(0, .pl (.one (.v (.sc (.string text))))), (6, .pl (.one (.ref 1 []))), (7, .pl (.one (.ref 2 []))), (8, .pl (.one (.v (.sc (.int .i64 x33.1))))), (9, .pl (.one (.v (.sc (.int .i64 i))))), (10, .pl (.one (.ref 3 []))), (11, .pl (.one (.v (.sc (.int .i64 x72.1))))), (13, .pl (.one (.v (.sc (.int .i64 k))))), (14, .pl (.one (.ref 4 []))), (16, .pl (.one (.v (.sc (.int .i64 j)))))], ob := [(1, .box true [.sc (.string x119.2.text), .sc (.int .i64 x119.2.at_), .sc (.bool x119.2.bad)]), (2, .list true 3 (List.map (r_T_impl_Step true) out__1)), (3, .box true [.list true 1 (List.map (rK .i64) x), .sc (.string x69.1), .list true 4 (List.map (r_T_impl_Change true) x_2)]), (4, .box true [.sc (.int .i64 y), .sc (.string x98.1), .sc (.string x101.1), .list true 1 (List.map rS l_2)])] }) [] [] [] [] trivial ⟨rfl, shd [0, 6, 7, 8, 9, 10, 11, 13, 14, 16] [(1, 1), (2, 2), (3, 3), (4, 4)] 5 rfl⟩
                              have d29_0_0_1' : anyF X ?ops29_0_0 [0, 1, 2, 3, 4, 5, 6] [] ?P29_0_0 { N := 153, np := 1, nx := 6, sl := [(0, .pl (.one (.v (.sc (.string text))))), (6, .pl (.one (.ref 1 []))), (7, .pl (.one (.ref 2 []))), (8, .pl (.one (.v (.sc (.int .i64 x33.1))))), (9, .pl (.one (.v (.sc (.int .i64 i))))), (10, .pl (.one (.ref 3 []))), (11, .pl (.one (.v (.sc (.int .i64 x72.1))))), (13, .pl (.one (.v (.sc (.int .i64 k))))), (14, .pl (.one (.ref 4 []))), (16, .pl (.one (.v (.sc (.int .i64 j))))), (121, .pl (.one (.ref 5 []))), (122, .pl (.one (.addr 4 [] 0 0 3)))], ob := [(1, .box true [.sc (.string x119.2.text), .sc (.int .i64 x119.2.at_), .sc (.bool x119.2.bad)]), (2, .list true 3 (List.map (r_T_impl_Step true) out__1)), (3, .box true [.list true 1 (List.map (rK .i64) x), .sc (.string x69.1), .list true 4 (List.map (r_T_impl_Change true) x_2)]), (4, .box true [.sc (.int .i64 y), .sc (.string x98.1), .sc (.string x101.1), .dead]), (5, .list true 1 (List.map rS l_2))] } := by
                                refine fnode [] [.m 7 [] [0, 1, 2, 3, 4, 5, 6, 7] []] [] [(7, false, [], [0, 1, 2, 3, 4, 5, 6, 7])] ⟨?_, trivial⟩
                                · refine obMx { N := 153, np := 1, nx := 6, sl := [(0, .pl (.one (.v (.sc (.string text))))), (6, .pl (.one (.ref 1 []))), (7, .pl (.one (.ref 2 []))), (8, .pl (.one (.v (.sc (.int .i64 x33.1))))), (9, .pl (.one (.v (.sc (.int .i64 i))))), (10, .pl (.one (.ref 3 []))), (11, .pl (.one (.v (.sc (.int .i64 x72.1))))), (13, .pl (.one (.v (.sc (.int .i64 k))))), (14, .pl (.one (.ref 4 []))), (16, .pl (.one (.v (.sc (.int .i64 j))))), (121, .pl (.one (.ref 5 []))), (122, .pl (.one (.addr 4 [] 0 0 3)))], ob := [(1, .box true [.sc (.string x119.2.text), .sc (.int .i64 x119.2.at_), .sc (.bool x119.2.bad)]), (2, .list true 3 (List.map (r_T_impl_Step true) out__1)), (3, .box true [.list true 1 (List.map (rK .i64) x), .sc (.string x69.1), .list true 4 (List.map (r_T_impl_Change true) x_2)]), (4, .box true [.sc (.int .i64 y), .sc (.string x98.1), .sc (.string x101.1), .dead]), (5, .list true 1 (List.map rS l_2))] } ?_
                                  refine ops H' ?_
                                  refine opsV_nil ⟨rfl, .inl ⟨rfl, ?_⟩⟩
                                  exact anyFShd [0, 6, 7, 8, 9, 10, 11, 13, 14, 16] [(1, 1), (2, 2), (3, 3), (4, 4)] 5 d29_0_0_0'
                              have d29_0_0_2' : anyF X ?ops29_0_0 [0, 1, 2, 3, 4, 5] [] ?P29_0_0 { N := 153, np := 1, nx := 6, sl := [(0, .pl (.one (.v (.sc (.string text))))), (6, .pl (.one (.ref 1 []))), (7, .pl (.one (.ref 2 []))), (8, .pl (.one (.v (.sc (.int .i64 x33.1))))), (9, .pl (.one (.v (.sc (.int .i64 i))))), (10, .pl (.one (.ref 3 []))), (11, .pl (.one (.v (.sc (.int .i64 x72.1))))), (13, .pl (.one (.v (.sc (.int .i64 k))))), (14, .pl (.one (.ref 4 []))), (16, .pl (.one (.v (.sc (.int .i64 j))))), (121, .pl (.one (.ref 5 [])))], ob := [(1, .box true [.sc (.string x119.2.text), .sc (.int .i64 x119.2.at_), .sc (.bool x119.2.bad)]), (2, .list true 3 (List.map (r_T_impl_Step true) out__1)), (3, .box true [.list true 1 (List.map (rK .i64) x), .sc (.string x69.1), .list true 4 (List.map (r_T_impl_Change true) x_2)]), (4, .box true [.sc (.int .i64 y), .sc (.string x98.1), .sc (.string x101.1), .dead]), (5, .list true 1 (List.map rS l_2))] } := by
                                refine fnode [] [.m 6 [] [0, 1, 2, 3, 4, 5, 6] []] [] [(6, false, [], [0, 1, 2, 3, 4, 5, 6])] ⟨?_, trivial⟩
                                · refine obMx { N := 153, np := 1, nx := 6, sl := [(0, .pl (.one (.v (.sc (.string text))))), (6, .pl (.one (.ref 1 []))), (7, .pl (.one (.ref 2 []))), (8, .pl (.one (.v (.sc (.int .i64 x33.1))))), (9, .pl (.one (.v (.sc (.int .i64 i))))), (10, .pl (.one (.ref 3 []))), (11, .pl (.one (.v (.sc (.int .i64 x72.1))))), (13, .pl (.one (.v (.sc (.int .i64 k))))), (14, .pl (.one (.ref 4 []))), (16, .pl (.one (.v (.sc (.int .i64 j))))), (121, .pl (.one (.ref 5 [])))], ob := [(1, .box true [.sc (.string x119.2.text), .sc (.int .i64 x119.2.at_), .sc (.bool x119.2.bad)]), (2, .list true 3 (List.map (r_T_impl_Step true) out__1)), (3, .box true [.list true 1 (List.map (rK .i64) x), .sc (.string x69.1), .list true 4 (List.map (r_T_impl_Change true) x_2)]), (4, .box true [.sc (.int .i64 y), .sc (.string x98.1), .sc (.string x101.1), .dead]), (5, .list true 1 (List.map rS l_2))] } ?_
                                  refine ops H' ?_
                                  refine opsV_nil ⟨rfl, .inl ⟨rfl, ?_⟩⟩
                                  exact anyFShd [0, 6, 7, 8, 9, 10, 11, 13, 14, 16, 121, 122] [(1, 1), (2, 2), (3, 3), (4, 4), (5, 5)] 6 d29_0_0_1'
                              have d29_0_0_3' : anyF X ?ops29_0_0 [0, 1, 2, 3, 4] [] ?P29_0_0 { N := 153, np := 1, nx := 6, sl := [(0, .pl (.one (.v (.sc (.string text))))), (6, .pl (.one (.ref 1 []))), (7, .pl (.one (.ref 2 []))), (8, .pl (.one (.v (.sc (.int .i64 x33.1))))), (9, .pl (.one (.v (.sc (.int .i64 i))))), (10, .pl (.one (.ref 3 []))), (11, .pl (.one (.v (.sc (.int .i64 x72.1))))), (13, .pl (.one (.v (.sc (.int .i64 k))))), (14, .pl (.one (.ref 4 []))), (16, .pl (.one (.v (.sc (.int .i64 j))))), (117, .pl (.one (.ref 4 [(0, 0, 3)]))), (120, .pl (.one (.ref 5 [])))], ob := [(1, .box true [.sc (.string x119.2.text), .sc (.int .i64 x119.2.at_), .sc (.bool x119.2.bad)]), (2, .list true 3 (List.map (r_T_impl_Step true) out__1)), (3, .box true [.list true 1 (List.map (rK .i64) x), .sc (.string x69.1), .list true 4 (List.map (r_T_impl_Change true) x_2)]), (4, .box true [.sc (.int .i64 y), .sc (.string x98.1), .sc (.string x101.1), .list true 1 (List.map rS y_2)]), (5, .list true 1 (List.map rS [x119.1]))] } := by
                                refine fnode [] [.m 5 [] [0, 1, 2, 3, 4, 5] []] [] [(5, false, [], [0, 1, 2, 3, 4, 5])] ⟨?_, trivial⟩
                                · refine obMx { N := 153, np := 1, nx := 6, sl := [(0, .pl (.one (.v (.sc (.string text))))), (6, .pl (.one (.ref 1 []))), (7, .pl (.one (.ref 2 []))), (8, .pl (.one (.v (.sc (.int .i64 x33.1))))), (9, .pl (.one (.v (.sc (.int .i64 i))))), (10, .pl (.one (.ref 3 []))), (11, .pl (.one (.v (.sc (.int .i64 x72.1))))), (13, .pl (.one (.v (.sc (.int .i64 k))))), (14, .pl (.one (.ref 4 []))), (16, .pl (.one (.v (.sc (.int .i64 j))))), (117, .pl (.one (.ref 4 [(0, 0, 3)]))), (120, .pl (.one (.ref 5 [])))], ob := [(1, .box true [.sc (.string x119.2.text), .sc (.int .i64 x119.2.at_), .sc (.bool x119.2.bad)]), (2, .list true 3 (List.map (r_T_impl_Step true) out__1)), (3, .box true [.list true 1 (List.map (rK .i64) x), .sc (.string x69.1), .list true 4 (List.map (r_T_impl_Change true) x_2)]), (4, .box true [.sc (.int .i64 y), .sc (.string x98.1), .sc (.string x101.1), .list true 1 (List.map rS y_2)]), (5, .list true 1 (List.map rS [x119.1]))] } ?_
                                  refine ops H' ?_
                                  refine opsV_nil ⟨rfl, .inl ⟨rfl, ?_⟩⟩
                                  exact anyFShd [0, 6, 7, 8, 9, 10, 11, 13, 14, 16, 121] [(1, 1), (2, 2), (3, 3), (4, 4), (6, 5)] 6 d29_0_0_2'
                              have d29_0_0_4' : anyF X ?ops29_0_0 [0, 1, 2, 3] [] ?P29_0_0 { N := 153, np := 1, nx := 5, sl := [(0, .pl (.one (.v (.sc (.string text))))), (6, .pl (.one (.ref 1 []))), (7, .pl (.one (.ref 2 []))), (8, .pl (.one (.v (.sc (.int .i64 x33.1))))), (9, .pl (.one (.v (.sc (.int .i64 i))))), (10, .pl (.one (.ref 3 []))), (11, .pl (.one (.v (.sc (.int .i64 x72.1))))), (13, .pl (.one (.v (.sc (.int .i64 k))))), (14, .pl (.one (.ref 4 []))), (16, .pl (.one (.v (.sc (.int .i64 j))))), (117, .pl (.one (.ref 4 [(0, 0, 3)]))), (119, .pl (.one (.v (.sc (.string x119.1)))))], ob := [(1, .box true [.sc (.string x119.2.text), .sc (.int .i64 x119.2.at_), .sc (.bool x119.2.bad)]), (2, .list true 3 (List.map (r_T_impl_Step true) out__1)), (3, .box true [.list true 1 (List.map (rK .i64) x), .sc (.string x69.1), .list true 4 (List.map (r_T_impl_Change true) x_2)]), (4, .box true [.sc (.int .i64 y), .sc (.string x98.1), .sc (.string x101.1), .list true 1 (List.map rS y_2)])] } := by
                                refine fnode [] [.m 4 [] [0, 1, 2, 3, 4] []] [] [(4, false, [], [0, 1, 2, 3, 4])] ⟨?_, trivial⟩
                                · refine obMx { N := 153, np := 1, nx := 5, sl := [(0, .pl (.one (.v (.sc (.string text))))), (6, .pl (.one (.ref 1 []))), (7, .pl (.one (.ref 2 []))), (8, .pl (.one (.v (.sc (.int .i64 x33.1))))), (9, .pl (.one (.v (.sc (.int .i64 i))))), (10, .pl (.one (.ref 3 []))), (11, .pl (.one (.v (.sc (.int .i64 x72.1))))), (13, .pl (.one (.v (.sc (.int .i64 k))))), (14, .pl (.one (.ref 4 []))), (16, .pl (.one (.v (.sc (.int .i64 j))))), (117, .pl (.one (.ref 4 [(0, 0, 3)]))), (119, .pl (.one (.v (.sc (.string x119.1)))))], ob := [(1, .box true [.sc (.string x119.2.text), .sc (.int .i64 x119.2.at_), .sc (.bool x119.2.bad)]), (2, .list true 3 (List.map (r_T_impl_Step true) out__1)), (3, .box true [.list true 1 (List.map (rK .i64) x), .sc (.string x69.1), .list true 4 (List.map (r_T_impl_Change true) x_2)]), (4, .box true [.sc (.int .i64 y), .sc (.string x98.1), .sc (.string x101.1), .list true 1 (List.map rS y_2)])] } ?_
                                  refine ops H' ?_
                                  refine opsV_nil ⟨rfl, .inl ⟨rfl, ?_⟩⟩
                                  exact anyFShd [0, 6, 7, 8, 9, 10, 11, 13, 14, 16, 117, 120] [(1, 1), (2, 2), (3, 3), (4, 4), (5, 5)] 6 d29_0_0_3'
                              have d29_0_0_5' : anyF X ?ops29_0_0 [0, 1, 2] [] ?P29_0_0 { N := 153, np := 1, nx := 5, sl := [(0, .pl (.one (.v (.sc (.string text))))), (6, .pl (.one (.ref 1 []))), (7, .pl (.one (.ref 2 []))), (8, .pl (.one (.v (.sc (.int .i64 x33.1))))), (9, .pl (.one (.v (.sc (.int .i64 i))))), (10, .pl (.one (.ref 3 []))), (11, .pl (.one (.v (.sc (.int .i64 x72.1))))), (13, .pl (.one (.v (.sc (.int .i64 k))))), (14, .pl (.one (.ref 4 []))), (16, .pl (.one (.v (.sc (.int .i64 j))))), (117, .pl (.one (.ref 4 [(0, 0, 3)]))), (118, .pl (.one (.ref 1 [])))], ob := [(1, .box true [.sc (.string c_24), .sc (.int .i64 c_25), .sc (.bool c_26)]), (2, .list true 3 (List.map (r_T_impl_Step true) out__1)), (3, .box true [.list true 1 (List.map (rK .i64) x), .sc (.string x69.1), .list true 4 (List.map (r_T_impl_Change true) x_2)]), (4, .box true [.sc (.int .i64 y), .sc (.string x98.1), .sc (.string x101.1), .list true 1 (List.map rS y_2)])] } := by
                                refine fnode [] [.m 3 [] [0, 1, 2, 3] []] [] [(3, false, [], [0, 1, 2, 3])] ⟨?_, trivial⟩
                                · refine obMx { N := 153, np := 1, nx := 5, sl := [(0, .pl (.one (.v (.sc (.string text))))), (6, .pl (.one (.ref 1 []))), (7, .pl (.one (.ref 2 []))), (8, .pl (.one (.v (.sc (.int .i64 x33.1))))), (9, .pl (.one (.v (.sc (.int .i64 i))))), (10, .pl (.one (.ref 3 []))), (11, .pl (.one (.v (.sc (.int .i64 x72.1))))), (13, .pl (.one (.v (.sc (.int .i64 k))))), (14, .pl (.one (.ref 4 []))), (16, .pl (.one (.v (.sc (.int .i64 j))))), (117, .pl (.one (.ref 4 [(0, 0, 3)]))), (118, .pl (.one (.ref 1 [])))], ob := [(1, .box true [.sc (.string c_24), .sc (.int .i64 c_25), .sc (.bool c_26)]), (2, .list true 3 (List.map (r_T_impl_Step true) out__1)), (3, .box true [.list true 1 (List.map (rK .i64) x), .sc (.string x69.1), .list true 4 (List.map (r_T_impl_Change true) x_2)]), (4, .box true [.sc (.int .i64 y), .sc (.string x98.1), .sc (.string x101.1), .list true 1 (List.map rS y_2)])] } ?_
                                  refine callG H' (fun _ => [0]) (W_spec_l08Short _ _ hy_x119) ?_
                                  refine opsV_nil ⟨rfl, .inl ⟨rfl, ?_⟩⟩
                                  exact anyFShd [0, 6, 7, 8, 9, 10, 11, 13, 14, 16, 117, 119] [(1, 1), (2, 2), (3, 3), (4, 4)] 5 d29_0_0_4'
                              have d29_0_0_6' : anyF X ?ops29_0_0 [0, 2, 3, 4] [] ?P29_0_0 { N := 153, np := 1, nx := 6, sl := [(0, .pl (.one (.v (.sc (.string text))))), (6, .pl (.one (.ref 1 []))), (7, .pl (.one (.ref 2 []))), (8, .pl (.one (.v (.sc (.int .i64 x33.1))))), (9, .pl (.one (.v (.sc (.int .i64 i))))), (10, .pl (.one (.ref 3 []))), (11, .pl (.one (.v (.sc (.int .i64 x72.1))))), (13, .pl (.one (.v (.sc (.int .i64 k))))), (14, .pl (.one (.ref 4 []))), (16, .pl (.one (.v (.sc (.int .i64 j))))), (116, .pl (.one (.addr 4 [] 0 0 3))), (120, .pl (.one (.ref 5 [])))], ob := [(1, .box true [.sc (.string x119.2.text), .sc (.int .i64 x119.2.at_), .sc (.bool x119.2.bad)]), (2, .list true 3 (List.map (r_T_impl_Step true) out__1)), (3, .box true [.list true 1 (List.map (rK .i64) x), .sc (.string x69.1), .list true 4 (List.map (r_T_impl_Change true) x_2)]), (4, .box true [.sc (.int .i64 y), .sc (.string x98.1), .sc (.string x101.1), .list true 1 (List.map rS y_2)]), (5, .list true 1 (List.map rS [x119.1]))] } := by
                                refine fnode [] [.m 1 [] [0, 1, 2, 3, 4] []] [] [(1, false, [], [0, 1, 2, 3, 4])] ⟨?_, trivial⟩
                                · refine obMx { N := 153, np := 1, nx := 6, sl := [(0, .pl (.one (.v (.sc (.string text))))), (6, .pl (.one (.ref 1 []))), (7, .pl (.one (.ref 2 []))), (8, .pl (.one (.v (.sc (.int .i64 x33.1))))), (9, .pl (.one (.v (.sc (.int .i64 i))))), (10, .pl (.one (.ref 3 []))), (11, .pl (.one (.v (.sc (.int .i64 x72.1))))), (13, .pl (.one (.v (.sc (.int .i64 k))))), (14, .pl (.one (.ref 4 []))), (16, .pl (.one (.v (.sc (.int .i64 j))))), (116, .pl (.one (.addr 4 [] 0 0 3))), (120, .pl (.one (.ref 5 [])))], ob := [(1, .box true [.sc (.string x119.2.text), .sc (.int .i64 x119.2.at_), .sc (.bool x119.2.bad)]), (2, .list true 3 (List.map (r_T_impl_Step true) out__1)), (3, .box true [.list true 1 (List.map (rK .i64) x), .sc (.string x69.1), .list true 4 (List.map (r_T_impl_Change true) x_2)]), (4, .box true [.sc (.int .i64 y), .sc (.string x98.1), .sc (.string x101.1), .list true 1 (List.map rS y_2)]), (5, .list true 1 (List.map rS [x119.1]))] } ?_
                                  refine ops H' ?_
                                  refine opsV_nil ⟨rfl, .inl ⟨rfl, ?_⟩⟩
                                  exact anyFShd [0, 6, 7, 8, 9, 10, 11, 13, 14, 16, 117, 120] [(1, 1), (2, 2), (3, 3), (4, 4), (5, 5)] 6 d29_0_0_3'
                              have d29_0_0_7' : anyF X ?ops29_0_0 [0, 2, 3] [] ?P29_0_0 { N := 153, np := 1, nx := 5, sl := [(0, .pl (.one (.v (.sc (.string text))))), (6, .pl (.one (.ref 1 []))), (7, .pl (.one (.ref 2 []))), (8, .pl (.one (.v (.sc (.int .i64 x33.1))))), (9, .pl (.one (.v (.sc (.int .i64 i))))), (10, .pl (.one (.ref 3 []))), (11, .pl (.one (.v (.sc (.int .i64 x72.1))))), (13, .pl (.one (.v (.sc (.int .i64 k))))), (14, .pl (.one (.ref 4 []))), (16, .pl (.one (.v (.sc (.int .i64 j))))), (116, .pl (.one (.addr 4 [] 0 0 3))), (119, .pl (.one (.v (.sc (.string x119.1)))))], ob := [(1, .box true [.sc (.string x119.2.text), .sc (.int .i64 x119.2.at_), .sc (.bool x119.2.bad)]), (2, .list true 3 (List.map (r_T_impl_Step true) out__1)), (3, .box true [.list true 1 (List.map (rK .i64) x), .sc (.string x69.1), .list true 4 (List.map (r_T_impl_Change true) x_2)]), (4, .box true [.sc (.int .i64 y), .sc (.string x98.1), .sc (.string x101.1), .list true 1 (List.map rS y_2)])] } := by
                                refine fnode [] [.m 1 [] [0, 1, 2, 3] [], .m 4 [] [0, 2, 3, 4] []] [] [(1, false, [], [0, 1, 2, 3]), (4, false, [], [0, 2, 3, 4])] ⟨?_, ?_, trivial⟩
                                · refine obMx { N := 153, np := 1, nx := 5, sl := [(0, .pl (.one (.v (.sc (.string text))))), (6, .pl (.one (.ref 1 []))), (7, .pl (.one (.ref 2 []))), (8, .pl (.one (.v (.sc (.int .i64 x33.1))))), (9, .pl (.one (.v (.sc (.int .i64 i))))), (10, .pl (.one (.ref 3 []))), (11, .pl (.one (.v (.sc (.int .i64 x72.1))))), (13, .pl (.one (.v (.sc (.int .i64 k))))), (14, .pl (.one (.ref 4 []))), (16, .pl (.one (.v (.sc (.int .i64 j))))), (116, .pl (.one (.addr 4 [] 0 0 3))), (119, .pl (.one (.v (.sc (.string x119.1)))))], ob := [(1, .box true [.sc (.string x119.2.text), .sc (.int .i64 x119.2.at_), .sc (.bool x119.2.bad)]), (2, .list true 3 (List.map (r_T_impl_Step true) out__1)), (3, .box true [.list true 1 (List.map (rK .i64) x), .sc (.string x69.1), .list true 4 (List.map (r_T_impl_Change true) x_2)]), (4, .box true [.sc (.int .i64 y), .sc (.string x98.1), .sc (.string x101.1), .list true 1 (List.map rS y_2)])] } ?_
                                  refine ops H' ?_
                                  refine opsV_nil ⟨rfl, .inl ⟨rfl, ?_⟩⟩
                                  exact anyFShd [0, 6, 7, 8, 9, 10, 11, 13, 14, 16, 117, 119] [(1, 1), (2, 2), (3, 3), (4, 4)] 5 d29_0_0_4'
                                · refine obMx { N := 153, np := 1, nx := 5, sl := [(0, .pl (.one (.v (.sc (.string text))))), (6, .pl (.one (.ref 1 []))), (7, .pl (.one (.ref 2 []))), (8, .pl (.one (.v (.sc (.int .i64 x33.1))))), (9, .pl (.one (.v (.sc (.int .i64 i))))), (10, .pl (.one (.ref 3 []))), (11, .pl (.one (.v (.sc (.int .i64 x72.1))))), (13, .pl (.one (.v (.sc (.int .i64 k))))), (14, .pl (.one (.ref 4 []))), (16, .pl (.one (.v (.sc (.int .i64 j))))), (116, .pl (.one (.addr 4 [] 0 0 3))), (119, .pl (.one (.v (.sc (.string x119.1)))))], ob := [(1, .box true [.sc (.string x119.2.text), .sc (.int .i64 x119.2.at_), .sc (.bool x119.2.bad)]), (2, .list true 3 (List.map (r_T_impl_Step true) out__1)), (3, .box true [.list true 1 (List.map (rK .i64) x), .sc (.string x69.1), .list true 4 (List.map (r_T_impl_Change true) x_2)]), (4, .box true [.sc (.int .i64 y), .sc (.string x98.1), .sc (.string x101.1), .list true 1 (List.map rS y_2)])] } ?_
                                  refine ops H' ?_
                                  refine opsV_nil ⟨rfl, .inl ⟨rfl, ?_⟩⟩
                                  exact anyFShd [0, 6, 7, 8, 9, 10, 11, 13, 14, 16, 116, 120] [(1, 1), (2, 2), (3, 3), (4, 4), (5, 5)] 6 d29_0_0_6'
                              have d29_0_0_8' : anyF X ?ops29_0_0 [0, 2] [] ?P29_0_0 { N := 153, np := 1, nx := 5, sl := [(0, .pl (.one (.v (.sc (.string text))))), (6, .pl (.one (.ref 1 []))), (7, .pl (.one (.ref 2 []))), (8, .pl (.one (.v (.sc (.int .i64 x33.1))))), (9, .pl (.one (.v (.sc (.int .i64 i))))), (10, .pl (.one (.ref 3 []))), (11, .pl (.one (.v (.sc (.int .i64 x72.1))))), (13, .pl (.one (.v (.sc (.int .i64 k))))), (14, .pl (.one (.ref 4 []))), (16, .pl (.one (.v (.sc (.int .i64 j))))), (116, .pl (.one (.addr 4 [] 0 0 3))), (118, .pl (.one (.ref 1 [])))], ob := [(1, .box true [.sc (.string c_24), .sc (.int .i64 c_25), .sc (.bool c_26)]), (2, .list true 3 (List.map (r_T_impl_Step true) out__1)), (3, .box true [.list true 1 (List.map (rK .i64) x), .sc (.string x69.1), .list true 4 (List.map (r_T_impl_Change true) x_2)]), (4, .box true [.sc (.int .i64 y), .sc (.string x98.1), .sc (.string x101.1), .list true 1 (List.map rS y_2)])] } := by
                                refine fnode [] [.m 1 [] [0, 1, 2] [], .m 3 [] [0, 2, 3] []] [] [(1, false, [], [0, 1, 2]), (3, false, [], [0, 2, 3])] ⟨?_, ?_, trivial⟩
                                · refine obMx { N := 153, np := 1, nx := 5, sl := [(0, .pl (.one (.v (.sc (.string text))))), (6, .pl (.one (.ref 1 []))), (7, .pl (.one (.ref 2 []))), (8, .pl (.one (.v (.sc (.int .i64 x33.1))))), (9, .pl (.one (.v (.sc (.int .i64 i))))), (10, .pl (.one (.ref 3 []))), (11, .pl (.one (.v (.sc (.int .i64 x72.1))))), (13, .pl (.one (.v (.sc (.int .i64 k))))), (14, .pl (.one (.ref 4 []))), (16, .pl (.one (.v (.sc (.int .i64 j))))), (116, .pl (.one (.addr 4 [] 0 0 3))), (118, .pl (.one (.ref 1 [])))], ob := [(1, .box true [.sc (.string c_24), .sc (.int .i64 c_25), .sc (.bool c_26)]), (2, .list true 3 (List.map (r_T_impl_Step true) out__1)), (3, .box true [.list true 1 (List.map (rK .i64) x), .sc (.string x69.1), .list true 4 (List.map (r_T_impl_Change true) x_2)]), (4, .box true [.sc (.int .i64 y), .sc (.string x98.1), .sc (.string x101.1), .list true 1 (List.map rS y_2)])] } ?_
                                  refine ops H' ?_
                                  refine opsV_nil ⟨rfl, .inl ⟨rfl, ?_⟩⟩
                                  exact anyFShd [0, 6, 7, 8, 9, 10, 11, 13, 14, 16, 117, 118] [(1, 1), (2, 2), (3, 3), (4, 4)] 5 d29_0_0_5'
                                · refine obMx { N := 153, np := 1, nx := 5, sl := [(0, .pl (.one (.v (.sc (.string text))))), (6, .pl (.one (.ref 1 []))), (7, .pl (.one (.ref 2 []))), (8, .pl (.one (.v (.sc (.int .i64 x33.1))))), (9, .pl (.one (.v (.sc (.int .i64 i))))), (10, .pl (.one (.ref 3 []))), (11, .pl (.one (.v (.sc (.int .i64 x72.1))))), (13, .pl (.one (.v (.sc (.int .i64 k))))), (14, .pl (.one (.ref 4 []))), (16, .pl (.one (.v (.sc (.int .i64 j))))), (116, .pl (.one (.addr 4 [] 0 0 3))), (118, .pl (.one (.ref 1 [])))], ob := [(1, .box true [.sc (.string c_24), .sc (.int .i64 c_25), .sc (.bool c_26)]), (2, .list true 3 (List.map (r_T_impl_Step true) out__1)), (3, .box true [.list true 1 (List.map (rK .i64) x), .sc (.string x69.1), .list true 4 (List.map (r_T_impl_Change true) x_2)]), (4, .box true [.sc (.int .i64 y), .sc (.string x98.1), .sc (.string x101.1), .list true 1 (List.map rS y_2)])] } ?_
                                  refine callG H' (fun _ => [0]) (W_spec_l08Short _ _ hy_x119) ?_
                                  refine opsV_nil ⟨rfl, .inl ⟨rfl, ?_⟩⟩
                                  exact anyFShd [0, 6, 7, 8, 9, 10, 11, 13, 14, 16, 116, 119] [(1, 1), (2, 2), (3, 3), (4, 4)] 5 d29_0_0_7'
                              refine fpure H' 0 [0] [] ?_
                              refine fpure H' 2 [0, 2] [] ?_
                              exact anyFShd [0, 6, 7, 8, 9, 10, 11, 13, 14, 16, 116, 118] [(1, 1), (2, 2), (3, 3), (4, 4)] 5 d29_0_0_8'
                            · rintro e' rfl
                              refine contN ?_
                              refine wpV_region ?_
                              refine ops H' ?_
                              refine opsN ?_
                              obtain rfl := Option.some.inj h3'
                              exact shd [0, 6, 7, 8, 9, 10, 11, 13, 14, 16] [(1, 1), (2, 2), (3, 3), (4, 4)] 5 ⟨_, rfl, _, _, _, _, _, rfl, rfl⟩
                          · replace h3' := (ifF hc').symm.trans h3'
                            refine exitN ?_
                            obtain rfl := Option.some.inj h3'
                            refine ⟨_, rfl, fun hr' => ?_⟩
                            subst hr'
                            exact shd [0, 6, 7, 8, 9, 10, 11, 13, 14] [(1, 1), (2, 2), (3, 3), (4, 4)] 5 ⟨_, _, _, _, h2', rfl⟩
                      · rintro e' ⟨c_21, c_22, c_23, y_1, h2', rfl⟩
                        unfold spec_ReadBundle_j7 at h2'
                        refine wpV_region ?_
                        obtain ⟨l_1, hv', h2'⟩ := Option.bind_eq_some_iff.1 h2'
                        have H' := And.intro (app1_f hv') H'
                        refine ops H' ?_
                        refine opsN ?_
                        exact shd [0, 6, 7, 8, 9, 10, 11, 13] [(1, 1), (2, 2), (3, 3)] 4 ⟨_, _, _, _, h2', rfl⟩
                  · rintro e' ⟨c_18, c_19, c_20, x_3, h2', rfl⟩
                    unfold spec_ReadBundle_j5 at h2'
                    refine wpV_region ?_
                    refine ops H' ?_
                    refine opsN ?_
                    obtain rfl := Option.some.inj h2'
                    exact shd [0, 6, 7, 8, 9, 10, 11, 13] [(1, 1), (2, 2), (3, 3)] 4 ⟨_, rfl, _, _, _, _, _, rfl, rfl⟩
                · replace h2' := (ifF hc').symm.trans h2'
                  refine exitN ?_
                  obtain rfl := Option.some.inj h2'
                  refine ⟨_, rfl, fun hr' => ?_⟩
                  subst hr'
                  exact shd [0, 6, 7, 8, 9, 10] [(1, 1), (2, 2), (3, 3)] 4 ⟨_, _, _, _, h1', rfl⟩
            · rintro e' ⟨c_12, c_13, c_14, x_1, h1', rfl⟩
              unfold spec_ReadBundle_j4 at h1'
              refine wpV_region ?_
              obtain ⟨l, hv', h1'⟩ := Option.bind_eq_some_iff.1 h1'
              have H' := And.intro (app1_f hv') H'
              refine ops H' ?_
              refine opsN ?_
              exact shd [0, 6, 7, 8, 9] [(1, 1), (2, 2)] 3 ⟨_, _, _, _, h1', rfl⟩
        · rintro e' ⟨c_6, c_7, c_8, out__2, h1', rfl⟩
          unfold spec_ReadBundle_j2 at h1'
          refine wpV_region ?_
          refine ops H' ?_
          refine opsN ?_
          obtain rfl := Option.some.inj h1'
          exact shd [0, 6, 7, 8, 9] [(1, 1), (2, 2)] 3 ⟨_, rfl, _, _, _, _, _, rfl, rfl⟩
      · replace h1' := (ifF hc').symm.trans h1'
        refine exitN ?_
        obtain rfl := Option.some.inj h1'
        refine ⟨_, rfl, fun hr' => ?_⟩
        subst hr'
        exact shd [0, 6, 7] [(1, 1), (2, 2)] 3 ⟨_, _, _, _, h0', rfl⟩
  · rintro e' ⟨c, c_1, c_2, out_, h0', rfl⟩
    unfold spec_ReadBundle_j1 at h0'
    refine wpV_seq1 ?_
    refine wpV_region ?_
    refine ops H' ?_
    obtain ⟨x135, hy', h0'⟩ := Option.bind_eq_some_iff.1 h0'
    refine callG H' (fun _ => []) (W_spec_BundleText _ _ hy') ?_
    refine ops H' ?_
    refine opsN ?_
    refine wpV_seq1 ?_
    refine wpV_seq1 ?_
    refine wpV_region ?_
    refine ops H' ?_
    obtain ⟨b, gh0', h0'⟩ := Option.bind_eq_some_iff.1 h0'
    refine opsV_cut 3 (fun e' => e' = { N := 153, np := 1, nx := 2, sl := [(0, .pl (.one (.v (.sc (.string text))))), (7, .pl (.one (.ref 1 []))), (17, .pl (.one (.v (.sc (.string x135.1))))), (145, .pl (.one (.v (.sc (.bool b)))))], ob := [(1, .list true 3 (List.map (r_T_impl_Step true) out_))] }) ?_ ?_
    · simp only [List.take_succ_cons, List.take_zero]
      refine opsV_sp (fun hc' => ?_) (fun hc' => ?_)
      · replace gh0' := (ifF hc').symm.trans gh0'
        refine ops H' ?_
        obtain rfl := Option.some.inj gh0'
        refine opsV_nil ?_
        exact ⟨rfl, shd [0, 7, 17, 145] [(2, 1)] 2 rfl⟩
      · replace gh0' := (ifT hc').symm.trans gh0'
        refine ops H' ?_
        obtain rfl := Option.some.inj gh0'
        refine opsV_nil ?_
        exact ⟨rfl, shd [0, 7, 17, 145] [(2, 1)] 2 rfl⟩
    · rintro e' rfl
      simp only [List.drop_succ_cons, List.drop_zero]
      refine ops H' ?_
      obtain ⟨b_1, gh0', h0'⟩ := Option.bind_eq_some_iff.1 h0'
      refine opsV_cut 4 (fun e' => e' = { N := 153, np := 1, nx := 2, sl := [(7, .pl (.one (.ref 1 []))), (150, .pl (.one (.v (.sc (.bool b_1)))))], ob := [(1, .list true 3 (List.map (r_T_impl_Step true) out_))] }) ?_ ?_
      · simp only [List.take_succ_cons, List.take_zero]
        refine opsV_sp (fun hc' => ?_) (fun hc' => ?_)
        · replace gh0' := (ifF hc').symm.trans gh0'
          refine ops H' ?_
          obtain rfl := Option.some.inj gh0'
          refine opsV_nil ?_
          exact ⟨rfl, shd [7, 150] [(1, 1)] 2 rfl⟩
        · replace gh0' := (ifT hc').symm.trans gh0'
          refine ops H' ?_
          obtain rfl := Option.some.inj gh0'
          refine opsV_nil ?_
          exact ⟨rfl, shd [7, 150] [(1, 1)] 2 rfl⟩
      · rintro e' rfl
        simp only [List.drop_succ_cons, List.drop_zero]
        refine opsN ?_
        refine wpV_split (fun hc' => ?_) (fun hc' => ?_)
        · replace h0' := (ifT hc').symm.trans h0'
          refine wpV_seq1 ?_
          refine wpV_region ?_
          refine ops H' ?_
          refine opsN ?_
          refine retN ?_
          obtain rfl := Option.some.inj h0'
          exact outG H' rfl rfl
        · replace h0' := (ifF hc').symm.trans h0'
          refine skipN ?_
          refine wpV_seq1 ?_
          refine wpV_region ?_
          refine ops H' ?_
          refine opsN ?_
          refine retN ?_
          obtain rfl := Option.some.inj h0'
          exact outG H' rfl rfl
theorem W_impl_SumMore (sum : Int) (text : ByteArray) (r' : Int) (h0' : impl_SumMore sum text = some r') : Fn X 176 [.one (.sc (.int .u32 sum)), .one (.sc (.string text))] [.one (.sc (.int .u32 r'))] [] := by
  have H' := And.intro t3 (And.intro t5 (And.intro t9 (t137)))
  unfold impl_SumMore at h0'
  refine Fn.start (fn := f176) (N := 31) (res := [.tmp 4]) rfl rfl rfl rfl rfl (by simp) ?_
  refine enterG H' ?_
  refine wpV_seq1 ?_
  refine wpV_region ?_
  refine ops H' ?_
  refine opsN ?_
  refine wpV_seqJ (fun e' => ∃ sum_1, impl_SumMore_j1 sum_1 = some r' ∧ e' = { N := 31, np := 2, nx := 2, sl := [(0, .pl (.one (.v (.sc (.int .u32 sum_1)))))], ob := [] }) ?_ ?_
  · refine wpV_seq1 ?_
    refine wpV_region ?_
    refine ops H' ?_
    refine opsN ?_
    obtain ⟨p, hl', h0'⟩ := Option.bind_eq_some_iff.1 h0'
    refine wpV_block ?_
    refine wpV_loopM (fun s' e' => ∃ sum_2 i, s' = (sum_2, i) ∧ e' = { N := 31, np := 2, nx := 2, sl := [(0, .pl (.one (.v (.sc (.int .u32 sum_2))))), (1, .pl (.one (.v (.sc (.string text))))), (5, .pl (.one (.v (.sc (.int .i64 i)))))], ob := [] }) hl' (shd [0, 1, 5] [] 2 ⟨_, _, rfl, rfl⟩) ?_
    rintro s' y1' e' h1' ⟨sum_2, i, rfl, rfl⟩
    replace h1' : impl_SumMore_l1 text sum_2 i = some y1' := h1'
    unfold impl_SumMore_l1 at h1'
    refine wpV_seq1 ?_
    refine wpV_seq1 ?_
    refine wpV_region ?_
    refine ops H' ?_
    refine opsN ?_
    refine wpV_split (fun hc' => ?_) (fun hc' => ?_)
    · replace h1' := (ifT hc').symm.trans h1'
      refine skipN ?_
      refine wpV_seqJ (fun e' => ∃ sum_3, impl_SumMore_j2 i sum_3 = some y1' ∧ e' = { N := 31, np := 2, nx := 2, sl := [(0, .pl (.one (.v (.sc (.int .u32 sum_3))))), (1, .pl (.one (.v (.sc (.string text))))), (5, .pl (.one (.v (.sc (.int .i64 i)))))], ob := [] }) ?_ ?_
      · refine wpV_block ?_
        refine wpV_seq1 ?_
        refine wpV_region ?_
        obtain ⟨x16, hv', h1'⟩ := Option.bind_eq_some_iff.1 h1'
        have H' := And.intro (sidx_f hv') H'
        refine ops H' ?_
        refine opsN ?_
        refine wpV_seq1 ?_
        refine wpV_region ?_
        refine ops H' ?_
        refine opsN ?_
        obtain ⟨p_1, hl', h1'⟩ := Option.bind_eq_some_iff.1 h1'
        refine wpV_block ?_
        refine wpV_loopM (fun s' e' => ∃ sum_4 x19, s' = (sum_4, x19) ∧ e' = { N := 31, np := 2, nx := 2, sl := [(0, .pl (.one (.v (.sc (.int .u32 sum_4))))), (1, .pl (.one (.v (.sc (.string text))))), (5, .pl (.one (.v (.sc (.int .i64 i))))), (19, .pl (.one (.v (.sc (.int .i64 x19)))))], ob := [] }) hl' (shd [0, 1, 5, 19] [] 2 ⟨_, _, rfl, rfl⟩) ?_
        rintro s' y2' e' h2' ⟨sum_4, x19, rfl, rfl⟩
        replace h2' : impl_SumMore_l2 sum_4 x19 = some y2' := h2'
        unfold impl_SumMore_l2 at h2'
        refine wpV_seq1 ?_
        refine wpV_region ?_
        refine ops H' ?_
        refine opsN ?_
        refine wpV_seq1 ?_
        refine wpV_split (fun hc' => ?_) (fun hc' => ?_)
        · replace h2' := (ifT hc').symm.trans h2'
          refine skipN ?_
          refine wpV_seq1 ?_
          refine wpV_block ?_
          refine wpV_seq1 ?_
          refine wpV_region ?_
          refine ops H' ?_
          refine opsN ?_
          refine wpV_seq1 ?_
          refine wpV_region ?_
          refine ops H' ?_
          refine opsN ?_
          refine wpV_seq1 ?_
          refine wpV_region ?_
          refine ops H' ?_
          refine opsN ?_
          refine wpV_split (fun hc' => ?_) (fun hc' => ?_)
          · replace h2' := (ifT hc').symm.trans h2'
            refine wpV_region ?_
            refine ops H' ?_
            refine opsN ?_
            refine wpV_region ?_
            refine ops H' ?_
            refine opsN ?_
            obtain rfl := Option.some.inj h2'
            exact shd [0, 1, 5, 19] [] 2 ⟨_, rfl, _, _, rfl, rfl⟩
          · replace h2' := (ifF hc').symm.trans h2'
            refine skipN ?_
            refine wpV_region ?_
            refine ops H' ?_
            refine opsN ?_
            obtain rfl := Option.some.inj h2'
            exact shd [0, 1, 5, 19] [] 2 ⟨_, rfl, _, _, rfl, rfl⟩
        · replace h2' := (ifF hc').symm.trans h2'
          refine exitN ?_
          obtain rfl := Option.some.inj h2'
          refine ⟨_, rfl, fun hr' => ?_⟩
          subst hr'
          exact shd [0, 1, 5] [] 2 ⟨_, h1', rfl⟩
      · rintro e' ⟨sum_3, h1', rfl⟩
        unfold impl_SumMore_j2 at h1'
        refine wpV_region ?_
        refine ops H' ?_
        refine opsN ?_
        obtain rfl := Option.some.inj h1'
        exact shd [0, 1, 5] [] 2 ⟨_, rfl, _, _, rfl, rfl⟩
    · replace h1' := (ifF hc').symm.trans h1'
      refine exitN ?_
      obtain rfl := Option.some.inj h1'
      refine ⟨_, rfl, fun hr' => ?_⟩
      subst hr'
      exact shd [0] [] 2 ⟨_, h0', rfl⟩
  · rintro e' ⟨sum_1, h0', rfl⟩
    unfold impl_SumMore_j1 at h0'
    refine wpV_seq1 ?_
    refine wpV_region ?_
    refine ops H' ?_
    refine opsN ?_
    refine retN ?_
    obtain rfl := Option.some.inj h0'
    exact outG H' rfl rfl
theorem W_impl_SumOf (text : ByteArray) (r' : Int) (h0' : impl_SumOf text = some r') : Fn X 147 [.one (.sc (.string text))] [.one (.sc (.int .u32 r'))] [] := by
  have H' := trivial
  unfold impl_SumOf at h0'
  refine Fn.start (fn := f147) (N := 5) (res := [.tmp 2]) rfl rfl rfl rfl rfl (by simp) ?_
  refine enterG H' ?_
  refine wpV_seq1 ?_
  refine wpV_region ?_
  refine ops H' ?_
  refine opsN ?_
  refine wpV_seq1 ?_
  refine wpV_region ?_
  refine ops H' ?_
  obtain ⟨x4, hy', h0'⟩ := Option.bind_eq_some_iff.1 h0'
  refine callG H' (fun _ => []) (W_impl_SumMore _ _ _ hy') ?_
  refine ops H' ?_
  refine opsN ?_
  refine retN ?_
  obtain rfl := Option.some.inj h0'
  exact outG H' rfl rfl
theorem W_impl_sumText (text : ByteArray) (r' : ByteArray) (h0' : impl_sumText text = some r') : Fn X 100 [.one (.sc (.string text))] [.one (.sc (.string r'))] [] := by
  have H' := And.intro t5 (And.intro t9 (And.intro t28 (t137)))
  unfold impl_sumText at h0'
  refine Fn.start (fn := f100) (N := 19) (res := [.tmp 2]) rfl rfl rfl rfl rfl (by simp) ?_
  refine enterG H' ?_
  refine wpV_seq1 ?_
  refine wpV_region ?_
  refine ops H' ?_
  refine opsN ?_
  refine wpV_seq1 ?_
  refine wpV_region ?_
  refine ops H' ?_
  obtain ⟨x5, hy', h0'⟩ := Option.bind_eq_some_iff.1 h0'
  refine callG H' (fun _ => []) (W_impl_SumOf _ _ hy') ?_
  refine ops H' ?_
  refine opsN ?_
  refine wpV_seq1 ?_
  refine wpV_region ?_
  have H' := And.intro (show bytesOf [[V.sc (.int .u8 (wk .u8 (shrI .u32 x5 24)))], [V.sc (.int .u8 (wk .u8 (shrI .u32 x5 16)))], [V.sc (.int .u8 (wk .u8 (shrI .u32 x5 8)))], [V.sc (.int .u8 (wk .u8 x5))]] = some [(wk .u8 (shrI .u32 x5 24)), (wk .u8 (shrI .u32 x5 16)), (wk .u8 (shrI .u32 x5 8)), (wk .u8 x5)] from bytesOf_rK [(wk .u8 (shrI .u32 x5 24)), (wk .u8 (shrI .u32 x5 16)), (wk .u8 (shrI .u32 x5 8)), (wk .u8 x5)]) H'
  refine ops H' ?_
  refine opsN ?_
  refine retN ?_
  obtain rfl := Option.some.inj h0'
  exact outG H' rfl rfl
theorem W_impl_Unsealed (text : ByteArray) (r' : ByteArray × Bool) (h0' : impl_Unsealed text = some r') : Fn X 38 [.one (.sc (.string text))] [.one (.sc (.string r'.1)), .one (.sc (.bool r'.2))] [] := by
  have H' := And.intro t3 (t9)
  unfold impl_Unsealed at h0'
  refine Fn.start (fn := f38) (N := 27) (res := [.tmp 2, .tmp 3]) rfl rfl rfl rfl rfl (by simp) ?_
  refine enterG H' ?_
  refine wpV_seq1 ?_
  refine wpV_region ?_
  refine ops H' ?_
  refine opsN ?_
  refine wpV_seq1 ?_
  refine wpV_region ?_
  refine ops H' ?_
  refine opsN ?_
  refine wpV_seq1 ?_
  refine wpV_seq1 ?_
  refine regQ ?_
  refine ops H' ?_
  obtain ⟨b, gh0', h0'⟩ := Option.bind_eq_some_iff.1 h0'
  refine quV_cut 3 (fun e' => e' = { N := 27, np := 1, nx := 1, sl := [(0, .pl (.one (.v (.sc (.string text))))), (4, .pl (.one (.v (.sc (.int .i64 (wk .i64 ((text.size : Int) - 4))))))), (13, .pl (.one (.v (.sc (.bool b)))))], ob := [] }) ?_ ?_
  · simp only [List.take_succ_cons, List.take_zero]
    refine quV_sp (fun hc' => ?_) (fun hc' => ?_)
    · replace gh0' := (ifF hc').symm.trans gh0'
      refine ops H' ?_
      obtain rfl := Option.some.inj gh0'
      refine quV_nil ?_
      exact ⟨rfl, shd [0, 4, 13] [] 1 rfl⟩
    · replace gh0' := (ifT hc').symm.trans gh0'
      refine ops H' ?_
      obtain rfl := Option.some.inj gh0'
      refine quV_nil ?_
      exact ⟨rfl, shd [0, 4, 13] [] 1 rfl⟩
  · rintro e' rfl
    simp only [List.drop_succ_cons, List.drop_zero]
    refine ops H' ?_
    obtain ⟨b_1, gh0', h0'⟩ := Option.bind_eq_some_iff.1 h0'
    refine quV_cut 9 (fun e' => e' = { N := 27, np := 1, nx := 1, sl := [(0, .pl (.one (.v (.sc (.string text))))), (4, .pl (.one (.v (.sc (.int .i64 (wk .i64 ((text.size : Int) - 4))))))), (23, .pl (.one (.v (.sc (.bool b_1)))))], ob := [] }) ?_ ?_
    · simp only [List.take_succ_cons, List.take_zero]
      refine quV_sp (fun hc' => ?_) (fun hc' => ?_)
      · replace gh0' := (ifF hc').symm.trans gh0'
        obtain ⟨x17, hv', gh0'⟩ := Option.bind_eq_some_iff.1 gh0'
        have H' := And.intro (subH_f hv') H'
        refine ops H' ?_
        obtain ⟨x18, hy', gh0'⟩ := Option.bind_eq_some_iff.1 gh0'
        refine callGQ H' (W_impl_sumText _ _ hy') ?_
        obtain ⟨x21, hv', gh0'⟩ := Option.bind_eq_some_iff.1 gh0'
        have H' := And.intro (subL_f hv') H'
        refine ops H' ?_
        obtain rfl := Option.some.inj gh0'
        refine quV_nil ?_
        exact ⟨rfl, shd [0, 4, 23] [] 1 rfl⟩
      · replace gh0' := (ifT hc').symm.trans gh0'
        refine ops H' ?_
        obtain rfl := Option.some.inj gh0'
        refine quV_nil ?_
        exact ⟨rfl, shd [0, 4, 23] [] 1 rfl⟩
    · rintro e' rfl
      simp only [List.drop_succ_cons, List.drop_zero]
      refine quN ?_
      refine wpV_split (fun hc' => ?_) (fun hc' => ?_)
      · replace h0' := (ifT hc').symm.trans h0'
        refine wpV_seq1 ?_
        refine wpV_region ?_
        refine ops H' ?_
        refine opsN ?_
        refine retN ?_
        obtain rfl := Option.some.inj h0'
        exact outG H' rfl rfl
      · replace h0' := (ifF hc').symm.trans h0'
        refine skipN ?_
        refine wpV_seq1 ?_
        refine wpV_region ?_
        obtain ⟨x26, hv', h0'⟩ := Option.bind_eq_some_iff.1 h0'
        have H' := And.intro (subH_f hv') H'
        refine ops H' ?_
        refine opsN ?_
        refine retN ?_
        obtain rfl := Option.some.inj h0'
        exact outG H' rfl rfl
theorem W_impl_scanner_take (s : T_impl_scanner) (n : Int) (r' : ByteArray × T_impl_scanner) (h0' : impl_scanner_take s n = some r') : Fn X 101 [.one (.box true [.sc (.string s.text), .sc (.int .i64 s.at_), .sc (.bool s.bad)]), .one (.sc (.int .i64 n))] [.one (.sc (.string r'.1))] [(0, .box true [.sc (.string r'.2.text), .sc (.int .i64 r'.2.at_), .sc (.bool r'.2.bad)])] := by
  have H' := And.intro t3 (And.intro t4 (And.intro t9 (t83)))
  unfold impl_scanner_take at h0'
  refine Fn.start (fn := f101) (N := 49) (res := [.tmp 4]) rfl rfl rfl rfl rfl (by simp) ?_
  refine enterG H' ?_
  refine wpV_seq1 ?_
  refine wpV_region ?_
  refine ops H' ?_
  refine opsN ?_
  refine wpV_seq1 ?_
  refine wpV_seq1 ?_
  refine regQ ?_
  refine ops H' ?_
  obtain ⟨b, gh0', h0'⟩ := Option.bind_eq_some_iff.1 h0'
  refine quV_cut 13 (fun e' => e' = { N := 49, np := 2, nx := 2, sl := [(0, .pl (.one (.ref 0 []))), (1, .pl (.one (.v (.sc (.int .i64 n))))), (22, .pl (.one (.v (.sc (.bool b)))))], ob := [(0, .box true [.sc (.string s.text), .sc (.int .i64 s.at_), .sc (.bool s.bad)])] }) ?_ ?_
  · simp only [List.take_succ_cons, List.take_zero]
    refine quV_sp (fun hc' => ?_) (fun hc' => ?_)
    · replace gh0' := (ifF hc').symm.trans gh0'
      refine ops H' ?_
      obtain rfl := Option.some.inj gh0'
      refine quV_nil ?_
      exact ⟨rfl, shd [0, 1, 22] [(0, 0)] 2 rfl⟩
    · replace gh0' := (ifT hc').symm.trans gh0'
      refine ops H' ?_
      obtain rfl := Option.some.inj gh0'
      refine quV_nil ?_
      exact ⟨rfl, shd [0, 1, 22] [(0, 0)] 2 rfl⟩
  · rintro e' rfl
    simp only [List.drop_succ_cons, List.drop_zero]
    refine quN ?_
    refine wpV_split (fun hc' => ?_) (fun hc' => ?_)
    · replace h0' := (ifT hc').symm.trans h0'
      refine wpV_seq1 ?_
      refine wpV_region ?_
      refine ops H' ?_
      refine opsN ?_
      refine wpV_seq1 ?_
      refine wpV_region ?_
      refine ops H' ?_
      refine opsN ?_
      refine retN ?_
      obtain rfl := Option.some.inj h0'
      exact outG H' rfl rfl
    · replace h0' := (ifF hc').symm.trans h0'
      refine skipN ?_
      refine wpV_seq1 ?_
      refine wpV_region ?_
      refine ops H' ?_
      refine opsN ?_
      refine wpV_seq1 ?_
      refine regQ ?_
      obtain ⟨x48, hv', h0'⟩ := Option.bind_eq_some_iff.1 h0'
      have H' := And.intro (sub2_f hv') H'
      refine ops H' ?_
      refine quN ?_
      refine retN ?_
      obtain rfl := Option.some.inj h0'
      exact outG H' rfl rfl
theorem W_impl_scanner_mark (s : T_impl_scanner) (mark : ByteArray) (r' : T_impl_scanner) (h0' : impl_scanner_mark s mark = some r') : Fn X 39 [.one (.box true [.sc (.string s.text), .sc (.int .i64 s.at_), .sc (.bool s.bad)]), .one (.sc (.string mark))] [] [(0, .box true [.sc (.string r'.text), .sc (.int .i64 r'.at_), .sc (.bool r'.bad)])] := by
  have H' := And.intro t4 (And.intro t9 (t83))
  unfold impl_scanner_mark at h0'
  refine Fn.start (fn := f39) (N := 13) (res := []) rfl rfl rfl rfl rfl (by simp) ?_
  refine enterG H' ?_
  refine wpV_seq1 ?_
  refine wpV_region ?_
  refine ops H' ?_
  obtain ⟨x7, hy', h0'⟩ := Option.bind_eq_some_iff.1 h0'
  refine callG H' (fun _ => [0]) (W_impl_scanner_take _ _ _ hy') ?_
  refine ops H' ?_
  refine opsN ?_
  refine wpV_split (fun hc' => ?_) (fun hc' => ?_)
  · replace h0' := (ifT hc').symm.trans h0'
    refine wpV_region ?_
    refine ops H' ?_
    refine opsN ?_
    obtain rfl := Option.some.inj h0'
    exact outN H' rfl rfl
  · replace h0' := (ifF hc').symm.trans h0'
    refine skipN ?_
    obtain rfl := Option.some.inj h0'
    exact outN H' rfl rfl
end Go.TV.KFnExactReadBundle
