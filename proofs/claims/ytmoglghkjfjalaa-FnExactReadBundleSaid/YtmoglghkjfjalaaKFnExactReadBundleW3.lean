/- Walks. -/
import Derived.Test.YtmoglghkjfjalaaKFnExactReadBundleE
import Derived.Test.YtmoglghkjfjalaaKFnExactReadBundleW2
set_option linter.unusedVariables false
set_option linter.unusedSimpArgs false
set_option maxHeartbeats 8000000
set_option maxRecDepth 100000
namespace Go.TV.KFnExactReadBundle
attribute [local irreducible] anyV wpV opsV Does thenV blockV RetL quV seqV
open Go.Proofs.Try Go.TV.F
theorem W_impl_ReadVar (text : ByteArray) (at_ : Int) (r' : Int × Int × Bool) (h0' : impl_ReadVar text at_ = some r') : Fn X 148 [.one (.sc (.string text)), .one (.sc (.int .i64 at_))] [.one (.sc (.int .i64 r'.1)), .one (.sc (.int .i64 r'.2.1)), .one (.sc (.bool r'.2.2))] [] := by
  have H' := And.intro t3 (And.intro t5 (t9))
  unfold impl_ReadVar at h0'
  refine Fn.start (fn := f148) (N := 62) (res := [.tmp 4, .tmp 5, .tmp 6]) rfl rfl rfl rfl rfl (by simp) ?_
  refine enterG H' ?_
  refine wpV_seq1 ?_
  refine wpV_region ?_
  refine ops H' ?_
  refine opsN ?_
  refine wpV_seq1 ?_
  refine wpV_seq1 ?_
  refine wpV_region ?_
  refine ops H' ?_
  obtain ⟨b, gh0', h0'⟩ := Option.bind_eq_some_iff.1 h0'
  refine opsV_cut 5 (fun e' => e' = { N := 62, np := 2, nx := 2, sl := [(0, .pl (.one (.v (.sc (.string text))))), (1, .pl (.one (.v (.sc (.int .i64 at_))))), (18, .pl (.one (.v (.sc (.bool b)))))], ob := [] }) ?_ ?_
  · simp only [List.take_succ_cons, List.take_zero]
    refine opsV_sp (fun hc' => ?_) (fun hc' => ?_)
    · replace gh0' := (ifF hc').symm.trans gh0'
      refine ops H' ?_
      obtain rfl := Option.some.inj gh0'
      refine opsV_nil ?_
      exact ⟨rfl, shd [0, 1, 18] [] 2 rfl⟩
    · replace gh0' := (ifT hc').symm.trans gh0'
      refine ops H' ?_
      obtain rfl := Option.some.inj gh0'
      refine opsV_nil ?_
      exact ⟨rfl, shd [0, 1, 18] [] 2 rfl⟩
  · rintro e' rfl
    simp only [List.drop_succ_cons, List.drop_zero]
    refine opsN ?_
    refine wpV_split (fun hc' => ?_) (fun hc' => ?_)
    · replace h0' := (ifT hc').symm.trans h0'
      refine wpV_seq1 ?_
      refine wpV_region ?_
      refine ops H' ?_
      refine opsN ?_
      refine retN ?_
      obtain rfl := Option.some.inj h0'
      exact outG H' rfl rfl
    · replace h0' := (ifF hc').symm.trans h0'
      refine skipN ?_
      refine wpV_seq1 ?_
      refine wpV_region ?_
      refine ops H' ?_
      refine opsN ?_
      refine wpV_seqJ (fun e' => impl_ReadVar_j1 = some r' ∧ e' = { N := 62, np := 2, nx := 2, sl := [], ob := [] }) ?_ ?_
      · refine wpV_seq1 ?_
        refine wpV_region ?_
        refine ops H' ?_
        refine opsN ?_
        obtain ⟨p, hl', h0'⟩ := Option.bind_eq_some_iff.1 h0'
        refine wpV_block ?_
        refine wpV_loopM (fun s' e' => ∃ n unit i, s' = (n, unit, i) ∧ e' = { N := 62, np := 2, nx := 2, sl := [(0, .pl (.one (.v (.sc (.string text))))), (1, .pl (.one (.v (.sc (.int .i64 at_))))), (7, .pl (.one (.v (.sc (.int .i64 n))))), (8, .pl (.one (.v (.sc (.int .i64 unit))))), (9, .pl (.one (.v (.sc (.int .i64 i)))))], ob := [] }) hl' (shd [0, 1, 7, 8, 9] [] 2 ⟨_, _, _, rfl, rfl⟩) ?_
        rintro s' y1' e' h1' ⟨n, unit, i, rfl, rfl⟩
        replace h1' : impl_ReadVar_l1 text at_ n unit i = some y1' := h1'
        unfold impl_ReadVar_l1 at h1'
        refine wpV_seq1 ?_
        refine wpV_seq1 ?_
        refine wpV_region ?_
        refine ops H' ?_
        obtain ⟨b_1, gh1', h1'⟩ := Option.bind_eq_some_iff.1 h1'
        refine opsV_cut 7 (fun e' => e' = { N := 62, np := 2, nx := 2, sl := [(0, .pl (.one (.v (.sc (.string text))))), (1, .pl (.one (.v (.sc (.int .i64 at_))))), (7, .pl (.one (.v (.sc (.int .i64 n))))), (8, .pl (.one (.v (.sc (.int .i64 unit))))), (9, .pl (.one (.v (.sc (.int .i64 i))))), (28, .pl (.one (.v (.sc (.bool b_1)))))], ob := [] }) ?_ ?_
        · simp only [List.take_succ_cons, List.take_zero]
          refine opsV_sp (fun hc' => ?_) (fun hc' => ?_)
          · replace gh1' := (ifT hc').symm.trans gh1'
            refine ops H' ?_
            obtain rfl := Option.some.inj gh1'
            refine opsV_nil ?_
            exact ⟨rfl, shd [0, 1, 7, 8, 9, 28] [] 2 rfl⟩
          · replace gh1' := (ifF hc').symm.trans gh1'
            refine ops H' ?_
            obtain rfl := Option.some.inj gh1'
            refine opsV_nil ?_
            exact ⟨rfl, shd [0, 1, 7, 8, 9, 28] [] 2 rfl⟩
        · rintro e' rfl
          simp only [List.drop_succ_cons, List.drop_zero]
          refine opsN ?_
          refine wpV_split (fun hc' => ?_) (fun hc' => ?_)
          · replace h1' := (ifT hc').symm.trans h1'
            refine skipN ?_
            refine wpV_seq1 ?_
            refine wpV_block ?_
            refine wpV_seq1 ?_
            refine wpV_region ?_
            obtain ⟨x35, hv', h1'⟩ := Option.bind_eq_some_iff.1 h1'
            have H' := And.intro (sidx_f hv') H'
            refine ops H' ?_
            refine opsN ?_
            refine wpV_seq1 ?_
            refine wpV_region ?_
            refine ops H' ?_
            refine opsN ?_
            refine wpV_seq1 ?_
            refine wpV_region ?_
            refine ops H' ?_
            refine opsN ?_
            refine wpV_seq1 ?_
            refine wpV_seq1 ?_
            refine wpV_region ?_
            refine ops H' ?_
            refine opsN ?_
            refine wpV_split (fun hc' => ?_) (fun hc' => ?_)
            · replace h1' := (ifT hc').symm.trans h1'
              refine exitN ?_
              refine wpV_region ?_
              refine ops H' ?_
              refine opsN ?_
              obtain rfl := Option.some.inj h1'
              exact shd [0, 1, 7, 8, 9] [] 2 ⟨_, rfl, _, _, _, rfl, rfl⟩
            · replace h1' := (ifF hc').symm.trans h1'
              refine skipN ?_
              refine wpV_seq1 ?_
              refine wpV_seq1 ?_
              refine wpV_region ?_
              refine ops H' ?_
              obtain ⟨b_2, gh1', h1'⟩ := Option.bind_eq_some_iff.1 h1'
              refine opsV_cut 3 (fun e' => e' = { N := 62, np := 2, nx := 2, sl := [(1, .pl (.one (.v (.sc (.int .i64 at_))))), (7, .pl (.one (.v (.sc (.int .i64 (wk .i64 (n + (wk .i64 (((wk .i64 x35).tmod 128) * unit))))))))), (9, .pl (.one (.v (.sc (.int .i64 i))))), (52, .pl (.one (.v (.sc (.bool b_2)))))], ob := [] }) ?_ ?_
              · simp only [List.take_succ_cons, List.take_zero]
                refine opsV_sp (fun hc' => ?_) (fun hc' => ?_)
                · replace gh1' := (ifT hc').symm.trans gh1'
                  refine ops H' ?_
                  obtain rfl := Option.some.inj gh1'
                  refine opsV_nil ?_
                  exact ⟨rfl, shd [1, 7, 9, 52] [] 2 rfl⟩
                · replace gh1' := (ifF hc').symm.trans gh1'
                  refine ops H' ?_
                  obtain rfl := Option.some.inj gh1'
                  refine opsV_nil ?_
                  exact ⟨rfl, shd [1, 7, 9, 52] [] 2 rfl⟩
              · rintro e' rfl
                simp only [List.drop_succ_cons, List.drop_zero]
                refine ops H' ?_
                obtain ⟨b_3, gh1', h1'⟩ := Option.bind_eq_some_iff.1 h1'
                refine opsV_cut 3 (fun e' => e' = { N := 62, np := 2, nx := 2, sl := [(1, .pl (.one (.v (.sc (.int .i64 at_))))), (7, .pl (.one (.v (.sc (.int .i64 (wk .i64 (n + (wk .i64 (((wk .i64 x35).tmod 128) * unit))))))))), (9, .pl (.one (.v (.sc (.int .i64 i))))), (56, .pl (.one (.v (.sc (.bool b_3)))))], ob := [] }) ?_ ?_
                · simp only [List.take_succ_cons, List.take_zero]
                  refine opsV_sp (fun hc' => ?_) (fun hc' => ?_)
                  · replace gh1' := (ifF hc').symm.trans gh1'
                    refine ops H' ?_
                    obtain rfl := Option.some.inj gh1'
                    refine opsV_nil ?_
                    exact ⟨rfl, shd [1, 7, 9, 56] [] 2 rfl⟩
                  · replace gh1' := (ifT hc').symm.trans gh1'
                    refine ops H' ?_
                    obtain rfl := Option.some.inj gh1'
                    refine opsV_nil ?_
                    exact ⟨rfl, shd [1, 7, 9, 56] [] 2 rfl⟩
                · rintro e' rfl
                  simp only [List.drop_succ_cons, List.drop_zero]
                  refine opsN ?_
                  refine wpV_split (fun hc' => ?_) (fun hc' => ?_)
                  · replace h1' := (ifT hc').symm.trans h1'
                    refine wpV_seq1 ?_
                    refine wpV_region ?_
                    refine ops H' ?_
                    refine opsN ?_
                    refine retN ?_
                    obtain rfl := Option.some.inj h1'
                    refine ⟨_, rfl, fun hr' => ?_⟩
                    subst hr'
                    obtain rfl := Option.some.inj h0'
                    exact outG H' rfl rfl
                  · replace h1' := (ifF hc').symm.trans h1'
                    refine skipN ?_
                    refine wpV_seq1 ?_
                    refine wpV_region ?_
                    refine ops H' ?_
                    refine opsN ?_
                    refine retN ?_
                    obtain rfl := Option.some.inj h1'
                    refine ⟨_, rfl, fun hr' => ?_⟩
                    subst hr'
                    obtain rfl := Option.some.inj h0'
                    exact outG H' rfl rfl
          · replace h1' := (ifF hc').symm.trans h1'
            refine exitN ?_
            obtain rfl := Option.some.inj h1'
            refine ⟨_, rfl, fun hr' => ?_⟩
            subst hr'
            exact shd [] [] 2 ⟨h0', rfl⟩
      · rintro e' ⟨h0', rfl⟩
        unfold impl_ReadVar_j1 at h0'
        refine wpV_seq1 ?_
        refine wpV_region ?_
        refine ops H' ?_
        refine opsN ?_
        refine retN ?_
        obtain rfl := Option.some.inj h0'
        exact outG H' rfl rfl
theorem W_impl_scanner_number (s : T_impl_scanner) (r' : Int × T_impl_scanner) (h0' : impl_scanner_number s = some r') : Fn X 102 [.one (.box true [.sc (.string s.text), .sc (.int .i64 s.at_), .sc (.bool s.bad)])] [.one (.sc (.int .i64 r'.1))] [(0, .box true [.sc (.string r'.2.text), .sc (.int .i64 r'.2.at_), .sc (.bool r'.2.bad)])] := by
  have H' := And.intro t3 (And.intro t4 (And.intro t9 (t83)))
  unfold impl_scanner_number at h0'
  refine Fn.start (fn := f102) (N := 35) (res := [.tmp 2]) rfl rfl rfl rfl rfl (by simp) ?_
  refine enterG H' ?_
  refine wpV_seq1 ?_
  refine wpV_region ?_
  refine ops H' ?_
  refine opsN ?_
  refine wpV_seq1 ?_
  refine regQ ?_
  refine ops H' ?_
  obtain ⟨x15, hy', h0'⟩ := Option.bind_eq_some_iff.1 h0'
  refine callGQT H' [(.int .i64 x15.1), (.int .i64 x15.2.1), (.bool x15.2.2)] (W_impl_ReadVar _ _ _ hy') ?_
  refine ops H' ?_
  refine quN ?_
  refine wpV_seq1 ?_
  refine wpV_seq1 ?_
  refine wpV_region ?_
  refine ops H' ?_
  obtain ⟨b, gh0', h0'⟩ := Option.bind_eq_some_iff.1 h0'
  refine opsV_cut 3 (fun e' => e' = { N := 35, np := 1, nx := 1, sl := [(0, .pl (.one (.ref 0 []))), (3, .pl (.one (.v (.sc (.int .i64 x15.1))))), (4, .pl (.one (.v (.sc (.int .i64 x15.2.1))))), (26, .pl (.one (.v (.sc (.bool b)))))], ob := [(0, .box true [.sc (.string s.text), .sc (.int .i64 s.at_), .sc (.bool s.bad)])] }) ?_ ?_
  · simp only [List.take_succ_cons, List.take_zero]
    refine opsV_sp (fun hc' => ?_) (fun hc' => ?_)
    · replace gh0' := (ifF hc').symm.trans gh0'
      refine ops H' ?_
      obtain rfl := Option.some.inj gh0'
      refine opsV_nil ?_
      exact ⟨rfl, shd [0, 3, 4, 26] [(0, 0)] 1 rfl⟩
    · replace gh0' := (ifT hc').symm.trans gh0'
      refine ops H' ?_
      obtain rfl := Option.some.inj gh0'
      refine opsV_nil ?_
      exact ⟨rfl, shd [0, 3, 4, 26] [(0, 0)] 1 rfl⟩
  · rintro e' rfl
    simp only [List.drop_succ_cons, List.drop_zero]
    refine opsN ?_
    refine wpV_split (fun hc' => ?_) (fun hc' => ?_)
    · replace h0' := (ifT hc').symm.trans h0'
      refine wpV_seq1 ?_
      refine wpV_region ?_
      refine ops H' ?_
      refine opsN ?_
      refine wpV_seq1 ?_
      refine wpV_region ?_
      refine ops H' ?_
      refine opsN ?_
      refine retN ?_
      obtain rfl := Option.some.inj h0'
      exact outG H' rfl rfl
    · replace h0' := (ifF hc').symm.trans h0'
      refine skipN ?_
      refine wpV_seq1 ?_
      refine wpV_region ?_
      refine ops H' ?_
      refine opsN ?_
      refine wpV_seq1 ?_
      refine wpV_region ?_
      refine ops H' ?_
      refine opsN ?_
      refine retN ?_
      obtain rfl := Option.some.inj h0'
      exact outG H' rfl rfl
theorem W_impl_scanner_count (s : T_impl_scanner) (most : Int) (r' : Int × T_impl_scanner) (h0' : impl_scanner_count s most = some r') : Fn X 40 [.one (.box true [.sc (.string s.text), .sc (.int .i64 s.at_), .sc (.bool s.bad)]), .one (.sc (.int .i64 most))] [.one (.sc (.int .i64 r'.1))] [(0, .box true [.sc (.string r'.2.text), .sc (.int .i64 r'.2.at_), .sc (.bool r'.2.bad)])] := by
  have H' := And.intro t3 (And.intro t4 (t83))
  unfold impl_scanner_count at h0'
  refine Fn.start (fn := f40) (N := 15) (res := [.tmp 4]) rfl rfl rfl rfl rfl (by simp) ?_
  refine enterG H' ?_
  refine wpV_seq1 ?_
  refine wpV_region ?_
  refine ops H' ?_
  refine opsN ?_
  refine wpV_seq1 ?_
  refine wpV_region ?_
  refine ops H' ?_
  obtain ⟨x7, hy', h0'⟩ := Option.bind_eq_some_iff.1 h0'
  refine callG H' (fun _ => [0]) (W_impl_scanner_number _ _ hy') ?_
  refine ops H' ?_
  refine opsN ?_
  refine wpV_seq1 ?_
  refine wpV_seq1 ?_
  refine wpV_region ?_
  refine ops H' ?_
  refine opsN ?_
  refine wpV_split (fun hc' => ?_) (fun hc' => ?_)
  · replace h0' := (ifT hc').symm.trans h0'
    refine wpV_seq1 ?_
    refine wpV_region ?_
    refine ops H' ?_
    refine opsN ?_
    refine wpV_seq1 ?_
    refine wpV_region ?_
    refine ops H' ?_
    refine opsN ?_
    refine retN ?_
    obtain rfl := Option.some.inj h0'
    exact outG H' rfl rfl
  · replace h0' := (ifF hc').symm.trans h0'
    refine skipN ?_
    refine wpV_seq1 ?_
    refine wpV_region ?_
    refine ops H' ?_
    refine opsN ?_
    refine retN ?_
    obtain rfl := Option.some.inj h0'
    exact outG H' rfl rfl
theorem W_impl_scanner_numbers (s : T_impl_scanner) (most : Int) (r' : (List Int) × T_impl_scanner) (h0' : impl_scanner_numbers s most = some r') : Fn X 41 [.one (.box true [.sc (.string s.text), .sc (.int .i64 s.at_), .sc (.bool s.bad)]), .one (.sc (.int .i64 most))] [.one (.list true 1 (List.map (rK .i64) r'.1))] [(0, .box true [.sc (.string r'.2.text), .sc (.int .i64 r'.2.at_), .sc (.bool r'.2.bad)])] := by
  have H' := And.intro t3 (And.intro t43 (R_i64))
  unfold impl_scanner_numbers at h0'
  refine Fn.start (fn := f41) (N := 20) (res := [.tmp 4]) rfl rfl rfl rfl rfl (by simp) ?_
  refine enterG H' ?_
  refine wpV_seq1 ?_
  refine wpV_region ?_
  refine ops H' ?_
  refine opsN ?_
  refine wpV_seq1 ?_
  refine wpV_region ?_
  refine ops H' ?_
  refine opsN ?_
  refine wpV_seqJ (fun e' => ∃ s_1 s_2 s_3 out_, impl_scanner_numbers_j1 s_1 s_2 s_3 out_ = some r' ∧ e' = { N := 20, np := 2, nx := 3, sl := [(5, .pl (.one (.ref 2 [])))], ob := [(0, .box true [.sc (.string s_1), .sc (.int .i64 s_2), .sc (.bool s_3)]), (2, .list true 1 (List.map (rK .i64) out_))] }) ?_ ?_
  · refine wpV_seq1 ?_
    refine wpV_region ?_
    refine ops H' ?_
    obtain ⟨x9, hy', h0'⟩ := Option.bind_eq_some_iff.1 h0'
    refine callG H' (fun _ => [0]) (W_impl_scanner_count _ _ _ hy') ?_
    refine ops H' ?_
    refine opsN ?_
    obtain ⟨p, hl', h0'⟩ := Option.bind_eq_some_iff.1 h0'
    refine wpV_block ?_
    refine wpV_loopM (fun s' e' => ∃ x10 s_4 s_5 s_6 out__1, s' = (x10, s_4, s_5, s_6, out__1) ∧ e' = { N := 20, np := 2, nx := 3, sl := [(0, .pl (.one (.ref 0 []))), (5, .pl (.one (.ref 2 []))), (9, .pl (.one (.v (.sc (.int .i64 x9.1))))), (10, .pl (.one (.v (.sc (.int .i64 x10)))))], ob := [(0, .box true [.sc (.string s_4), .sc (.int .i64 s_5), .sc (.bool s_6)]), (2, .list true 1 (List.map (rK .i64) out__1))] }) hl' (shd [0, 5, 9, 10] [(0, 0), (3, 2)] 3 ⟨_, _, _, _, _, rfl, rfl⟩) ?_
    rintro s' y1' e' h1' ⟨x10, s_4, s_5, s_6, out__1, rfl, rfl⟩
    replace h1' : impl_scanner_numbers_l1 x9 x10 s_4 s_5 s_6 out__1 = some y1' := h1'
    unfold impl_scanner_numbers_l1 at h1'
    refine wpV_seq1 ?_
    refine wpV_region ?_
    refine ops H' ?_
    refine opsN ?_
    refine wpV_seq1 ?_
    refine wpV_split (fun hc' => ?_) (fun hc' => ?_)
    · replace h1' := (ifT hc').symm.trans h1'
      refine skipN ?_
      refine wpV_seq1 ?_
      refine wpV_block ?_
      refine wpV_seq1 ?_
      refine wpV_region ?_
      refine ops H' ?_
      obtain ⟨x13, hy', h1'⟩ := Option.bind_eq_some_iff.1 h1'
      refine callG H' (fun _ => [0]) (W_impl_scanner_number _ _ hy') ?_
      refine ops H' ?_
      refine opsN ?_
      refine wpV_region ?_
      obtain ⟨l, hv', h1'⟩ := Option.bind_eq_some_iff.1 h1'
      have H' := And.intro (app1_f hv') H'
      refine ops H' ?_
      refine opsN ?_
      refine wpV_region ?_
      refine ops H' ?_
      refine opsN ?_
      obtain rfl := Option.some.inj h1'
      exact shd [0, 5, 9, 10] [(0, 0), (2, 2)] 3 ⟨_, rfl, _, _, _, _, _, rfl, rfl⟩
    · replace h1' := (ifF hc').symm.trans h1'
      refine exitN ?_
      obtain rfl := Option.some.inj h1'
      refine ⟨_, rfl, fun hr' => ?_⟩
      subst hr'
      exact shd [5] [(0, 0), (2, 2)] 3 ⟨_, _, _, _, h0', rfl⟩
  · rintro e' ⟨s_1, s_2, s_3, out_, h0', rfl⟩
    unfold impl_scanner_numbers_j1 at h0'
    refine wpV_seq1 ?_
    refine wpV_region ?_
    refine ops H' ?_
    refine opsN ?_
    refine retN ?_
    obtain rfl := Option.some.inj h0'
    exact outG H' rfl rfl
theorem W_impl_scanner_short (s : T_impl_scanner) (r' : ByteArray × T_impl_scanner) (h0' : impl_scanner_short s = some r') : Fn X 42 [.one (.box true [.sc (.string s.text), .sc (.int .i64 s.at_), .sc (.bool s.bad)])] [.one (.sc (.string r'.1))] [(0, .box true [.sc (.string r'.2.text), .sc (.int .i64 r'.2.at_), .sc (.bool r'.2.bad)])] := by
  have H' := And.intro t3 (And.intro t4 (t83))
  unfold impl_scanner_short at h0'
  refine Fn.start (fn := f42) (N := 14) (res := [.tmp 2]) rfl rfl rfl rfl rfl (by simp) ?_
  refine enterG H' ?_
  refine wpV_seq1 ?_
  refine wpV_region ?_
  refine ops H' ?_
  refine opsN ?_
  refine wpV_seq1 ?_
  refine wpV_region ?_
  refine ops H' ?_
  obtain ⟨x5, hy', h0'⟩ := Option.bind_eq_some_iff.1 h0'
  refine callG H' (fun _ => [0]) (W_impl_scanner_number _ _ hy') ?_
  refine ops H' ?_
  refine opsN ?_
  refine wpV_seqJ (fun e' => ∃ s_1, impl_scanner_short_j1 x5 s_1 = some r' ∧ e' = { N := 14, np := 1, nx := 1, sl := [(0, .pl (.one (.ref 0 []))), (3, .pl (.one (.v (.sc (.int .i64 x5.1)))))], ob := [(0, .box true [.sc (.string x5.2.text), .sc (.int .i64 x5.2.at_), .sc (.bool s_1)])] }) ?_ ?_
  · refine wpV_seq1 ?_
    refine wpV_region ?_
    refine ops H' ?_
    refine opsN ?_
    refine wpV_split (fun hc' => ?_) (fun hc' => ?_)
    · replace h0' := (ifT hc').symm.trans h0'
      refine wpV_region ?_
      refine ops H' ?_
      refine opsN ?_
      exact shd [0, 3] [(0, 0)] 1 ⟨_, h0', rfl⟩
    · replace h0' := (ifF hc').symm.trans h0'
      refine skipN ?_
      exact shd [0, 3] [(0, 0)] 1 ⟨_, h0', rfl⟩
  · rintro e' ⟨s_1, h0', rfl⟩
    unfold impl_scanner_short_j1 at h0'
    refine wpV_seq1 ?_
    refine wpV_region ?_
    refine ops H' ?_
    obtain ⟨x13, hy', h0'⟩ := Option.bind_eq_some_iff.1 h0'
    refine callG H' (fun _ => [0]) (W_impl_scanner_take _ _ _ hy') ?_
    refine ops H' ?_
    refine opsN ?_
    refine retN ?_
    obtain rfl := Option.some.inj h0'
    exact outG H' rfl rfl
theorem W_impl_scanner_octet (s : T_impl_scanner) (r' : Int × T_impl_scanner) (h0' : impl_scanner_octet s = some r') : Fn X 103 [.one (.box true [.sc (.string s.text), .sc (.int .i64 s.at_), .sc (.bool s.bad)])] [.one (.sc (.int .i64 r'.1))] [(0, .box true [.sc (.string r'.2.text), .sc (.int .i64 r'.2.at_), .sc (.bool r'.2.bad)])] := by
  have H' := And.intro t3 (And.intro t5 (t9))
  unfold impl_scanner_octet at h0'
  refine Fn.start (fn := f103) (N := 11) (res := [.tmp 2]) rfl rfl rfl rfl rfl (by simp) ?_
  refine enterG H' ?_
  refine wpV_seq1 ?_
  refine wpV_region ?_
  refine ops H' ?_
  refine opsN ?_
  refine wpV_seq1 ?_
  refine wpV_region ?_
  refine ops H' ?_
  obtain ⟨x5, hy', h0'⟩ := Option.bind_eq_some_iff.1 h0'
  refine callG H' (fun _ => [0]) (W_impl_scanner_take _ _ _ hy') ?_
  refine ops H' ?_
  refine opsN ?_
  refine wpV_seq1 ?_
  refine wpV_seq1 ?_
  refine wpV_region ?_
  refine ops H' ?_
  refine opsN ?_
  refine wpV_split (fun hc' => ?_) (fun hc' => ?_)
  · replace h0' := (ifT hc').symm.trans h0'
    refine wpV_seq1 ?_
    refine wpV_region ?_
    refine ops H' ?_
    refine opsN ?_
    refine retN ?_
    obtain rfl := Option.some.inj h0'
    exact outG H' rfl rfl
  · replace h0' := (ifF hc').symm.trans h0'
    refine skipN ?_
    refine wpV_seq1 ?_
    refine wpV_region ?_
    obtain ⟨x9, hv', h0'⟩ := Option.bind_eq_some_iff.1 h0'
    have H' := And.intro (sidx_f hv') H'
    refine ops H' ?_
    refine opsN ?_
    refine retN ?_
    obtain rfl := Option.some.inj h0'
    exact outG H' rfl rfl
theorem W_impl_scanner_change (s : T_impl_scanner) (r' : T_impl_Change × T_impl_scanner) (h0' : impl_scanner_change s = some r') : Fn X 43 [.one (.box true [.sc (.string s.text), .sc (.int .i64 s.at_), .sc (.bool s.bad)])] [.agg [.sc (.int .i64 r'.1.Kind), .sc (.string r'.1.Path), .sc (.string r'.1.To), .list true 1 (List.map rS r'.1.Lines)]] [(0, .box true [.sc (.string r'.2.text), .sc (.int .i64 r'.2.at_), .sc (.bool r'.2.bad)])] := by
  have H' := And.intro t3 (And.intro t9 (And.intro t36 (And.intro t80 (R_s))))
  unfold impl_scanner_change at h0'
  refine Fn.start (fn := f43) (N := 28) (res := [.cell 2 80]) rfl rfl rfl rfl rfl (by simp) ?_
  refine enterG H' ?_
  refine wpV_seq1 ?_
  refine wpV_region ?_
  refine ops H' ?_
  refine opsN ?_
  refine wpV_seq1 ?_
  refine wpV_region ?_
  refine ops H' ?_
  obtain ⟨x6, hy', h0'⟩ := Option.bind_eq_some_iff.1 h0'
  refine callG H' (fun _ => [0]) (W_impl_scanner_octet _ _ hy') ?_
  refine ops H' ?_
  refine opsN ?_
  refine wpV_seq1 ?_
  refine wpV_region ?_
  refine ops H' ?_
  obtain ⟨x9, hy', h0'⟩ := Option.bind_eq_some_iff.1 h0'
  refine callG H' (fun _ => [0]) (W_impl_scanner_short _ _ hy') ?_
  refine ops H' ?_
  refine opsN ?_
  refine wpV_seq1 ?_
  refine wpV_region ?_
  refine ops H' ?_
  obtain ⟨x12, hy', h0'⟩ := Option.bind_eq_some_iff.1 h0'
  refine callG H' (fun _ => [0]) (W_impl_scanner_short _ _ hy') ?_
  refine ops H' ?_
  refine opsN ?_
  refine wpV_seqJ (fun e' => ∃ s_1 s_2 s_3 c, impl_scanner_change_j1 x6 x9 x12 s_1 s_2 s_3 c = some r' ∧ e' = { N := 28, np := 1, nx := 3, sl := [(2, .pl (.one (.ref 1 []))), (3, .pl (.one (.ref 2 [])))], ob := [(0, .box true [.sc (.string s_1), .sc (.int .i64 s_2), .sc (.bool s_3)]), (1, .box true [.sc (.int .i64 0), .sc (.string (ByteArray.mk #[])), .sc (.string (ByteArray.mk #[])), .list true 1 (List.map rS [])]), (2, .box true [.sc (.int .i64 x6.1), .sc (.string x9.1), .sc (.string x12.1), .list true 1 (List.map rS c)])] }) ?_ ?_
  · refine wpV_seq1 ?_
    refine wpV_region ?_
    refine ops H' ?_
    obtain ⟨x15, hy', h0'⟩ := Option.bind_eq_some_iff.1 h0'
    refine callG H' (fun _ => [0]) (W_impl_scanner_count _ _ _ hy') ?_
    refine ops H' ?_
    refine opsN ?_
    obtain ⟨p, hl', h0'⟩ := Option.bind_eq_some_iff.1 h0'
    refine wpV_block ?_
    refine wpV_loopM (fun s' e' => ∃ x16 s_4 s_5 s_6 c_1, s' = (x16, s_4, s_5, s_6, c_1) ∧ e' = { N := 28, np := 1, nx := 3, sl := [(0, .pl (.one (.ref 0 []))), (2, .pl (.one (.ref 1 []))), (3, .pl (.one (.ref 2 []))), (15, .pl (.one (.v (.sc (.int .i64 x15.1))))), (16, .pl (.one (.v (.sc (.int .i64 x16)))))], ob := [(0, .box true [.sc (.string s_4), .sc (.int .i64 s_5), .sc (.bool s_6)]), (1, .box true [.sc (.int .i64 0), .sc (.string (ByteArray.mk #[])), .sc (.string (ByteArray.mk #[])), .list true 1 (List.map rS [])]), (2, .box true [.sc (.int .i64 x6.1), .sc (.string x9.1), .sc (.string x12.1), .list true 1 (List.map rS c_1)])] }) hl' (shd [0, 2, 3, 15, 16] [(0, 0), (1, 1), (3, 2)] 3 ⟨_, _, _, _, _, rfl, rfl⟩) ?_
    rintro s' y1' e' h1' ⟨x16, s_4, s_5, s_6, c_1, rfl, rfl⟩
    replace h1' : impl_scanner_change_l1 x15 x16 s_4 s_5 s_6 c_1 = some y1' := h1'
    unfold impl_scanner_change_l1 at h1'
    refine wpV_seq1 ?_
    refine wpV_region ?_
    refine ops H' ?_
    refine opsN ?_
    refine wpV_seq1 ?_
    refine wpV_split (fun hc' => ?_) (fun hc' => ?_)
    · replace h1' := (ifT hc').symm.trans h1'
      refine skipN ?_
      refine wpV_seq1 ?_
      refine wpV_block ?_
      refine wpV_seq1 ?_
      refine wpV_region ?_
      refine ops H' ?_
      obtain ⟨x19, hy', h1'⟩ := Option.bind_eq_some_iff.1 h1'
      refine callG H' (fun _ => [0]) (W_impl_scanner_short _ _ hy') ?_
      refine ops H' ?_
      refine opsN ?_
      refine wpV_region ?_
      obtain ⟨l, hv', h1'⟩ := Option.bind_eq_some_iff.1 h1'
      have H' := And.intro (app1_f hv') H'
      refine ops H' ?_
      refine opsN ?_
      refine wpV_region ?_
      refine ops H' ?_
      refine opsN ?_
      obtain rfl := Option.some.inj h1'
      exact shd [0, 2, 3, 15, 16] [(0, 0), (1, 1), (2, 2)] 3 ⟨_, rfl, _, _, _, _, _, rfl, rfl⟩
    · replace h1' := (ifF hc').symm.trans h1'
      refine exitN ?_
      obtain rfl := Option.some.inj h1'
      refine ⟨_, rfl, fun hr' => ?_⟩
      subst hr'
      exact shd [2, 3] [(0, 0), (1, 1), (2, 2)] 3 ⟨_, _, _, _, h0', rfl⟩
  · rintro e' ⟨s_1, s_2, s_3, c, h0', rfl⟩
    unfold impl_scanner_change_j1 at h0'
    refine wpV_seq1 ?_
    refine wpV_region ?_
    refine ops H' ?_
    refine opsN ?_
    refine retN ?_
    obtain rfl := Option.some.inj h0'
    exact outC H' rfl rfl
theorem W_impl_inRange (n : Int) (least : Int) (most : Int) (r' : Bool) (h0' : impl_inRange n least most = some r') : Fn X 105 [.one (.sc (.int .i64 n)), .one (.sc (.int .i64 least)), .one (.sc (.int .i64 most))] [.one (.sc (.bool r'))] [] := by
  have H' := t3
  unfold impl_inRange at h0'
  refine Fn.start (fn := f105) (N := 15) (res := [.tmp 6]) rfl rfl rfl rfl rfl (by simp) ?_
  refine enterG H' ?_
  refine wpV_seq1 ?_
  refine wpV_region ?_
  refine ops H' ?_
  refine opsN ?_
  refine wpV_seq1 ?_
  refine wpV_region ?_
  refine ops H' ?_
  obtain ⟨b, gh0', h0'⟩ := Option.bind_eq_some_iff.1 h0'
  refine opsV_cut 4 (fun e' => e' = { N := 15, np := 3, nx := 3, sl := [(14, .pl (.one (.v (.sc (.bool b)))))], ob := [] }) ?_ ?_
  · simp only [List.take_succ_cons, List.take_zero]
    refine opsV_sp (fun hc' => ?_) (fun hc' => ?_)
    · replace gh0' := (ifT hc').symm.trans gh0'
      refine ops H' ?_
      obtain rfl := Option.some.inj gh0'
      refine opsV_nil ?_
      exact ⟨rfl, shd [14] [] 3 rfl⟩
    · replace gh0' := (ifF hc').symm.trans gh0'
      refine ops H' ?_
      obtain rfl := Option.some.inj gh0'
      refine opsV_nil ?_
      exact ⟨rfl, shd [14] [] 3 rfl⟩
  · rintro e' rfl
    simp only [List.drop_succ_cons, List.drop_zero]
    refine ops H' ?_
    refine opsN ?_
    refine retN ?_
    obtain rfl := Option.some.inj h0'
    exact outG H' rfl rfl
theorem W_impl_numbersOk (list_ : List Int) (r' : Bool) (h0' : impl_numbersOk list_ = some r') : Fn X 104 [.one (.list false 1 (List.map (rK .i64) list_))] [.one (.sc (.bool r'))] [] := by
  have H' := And.intro t3 (And.intro t43 (R_i64))
  unfold impl_numbersOk at h0'
  refine Fn.start (fn := f104) (N := 15) (res := [.tmp 2]) rfl rfl rfl rfl rfl (by simp) ?_
  refine enterG H' ?_
  refine wpV_seq1 ?_
  refine wpV_region ?_
  refine ops H' ?_
  refine opsN ?_
  refine wpV_seqJ (fun e' => impl_numbersOk_j1 = some r' ∧ e' = { N := 15, np := 1, nx := 1, sl := [], ob := [] }) ?_ ?_
  · refine wpV_seq1 ?_
    refine wpV_region ?_
    refine ops H' ?_
    refine opsN ?_
    obtain ⟨p, hl', h0'⟩ := Option.bind_eq_some_iff.1 h0'
    refine wpV_block ?_
    refine wpV_loopM (fun x7 e' => e' = { N := 15, np := 1, nx := 1, sl := [(5, .pl (.one (.v (.list false 1 (List.map (rK .i64) list_))))), (6, .pl (.one (.v (.sc (.int .i64 (list_.length : Int)))))), (7, .pl (.one (.v (.sc (.int .i64 x7)))))], ob := [] }) hl' (shd [5, 6, 7] [] 1 rfl) ?_
    rintro x7 y1' e' h1' rfl
    replace h1' : impl_numbersOk_l1 list_ x7 = some y1' := h1'
    unfold impl_numbersOk_l1 at h1'
    refine wpV_seq1 ?_
    refine wpV_region ?_
    refine ops H' ?_
    refine opsN ?_
    refine wpV_seq1 ?_
    refine wpV_split (fun hc' => ?_) (fun hc' => ?_)
    · replace h1' := (ifT hc').symm.trans h1'
      refine skipN ?_
      refine wpV_seq1 ?_
      refine wpV_block ?_
      refine wpV_seq1 ?_
      refine wpV_region ?_
      obtain ⟨x, hv', h1'⟩ := Option.bind_eq_some_iff.1 h1'
      have H' := And.intro (geti_f hv') H'
      refine ops H' ?_
      refine opsN ?_
      refine wpV_seq1 ?_
      refine wpV_region ?_
      refine ops H' ?_
      obtain ⟨x12, hy', h1'⟩ := Option.bind_eq_some_iff.1 h1'
      refine callG H' (fun _ => []) (W_impl_inRange _ _ _ _ hy') ?_
      refine ops H' ?_
      refine opsN ?_
      refine wpV_split (fun hc' => ?_) (fun hc' => ?_)
      · replace h1' := (ifT hc').symm.trans h1'
        refine wpV_seq1 ?_
        refine wpV_region ?_
        refine ops H' ?_
        refine opsN ?_
        refine retN ?_
        obtain rfl := Option.some.inj h1'
        refine ⟨_, rfl, fun hr' => ?_⟩
        subst hr'
        obtain rfl := Option.some.inj h0'
        exact outG H' rfl rfl
      · replace h1' := (ifF hc').symm.trans h1'
        refine skipN ?_
        refine wpV_region ?_
        refine ops H' ?_
        refine opsN ?_
        obtain rfl := Option.some.inj h1'
        exact shd [5, 6, 7] [] 1 ⟨_, rfl, rfl⟩
    · replace h1' := (ifF hc').symm.trans h1'
      refine exitN ?_
      obtain rfl := Option.some.inj h1'
      refine ⟨_, rfl, fun hr' => ?_⟩
      subst hr'
      exact shd [] [] 1 ⟨h0', rfl⟩
  · rintro e' ⟨h0', rfl⟩
    unfold impl_numbersOk_j1 at h0'
    refine wpV_seq1 ?_
    refine wpV_region ?_
    refine ops H' ?_
    refine opsN ?_
    refine retN ?_
    obtain rfl := Option.some.inj h0'
    exact outG H' rfl rfl
theorem W_strings_Contains (s : ByteArray) (x : ByteArray) (r' : Bool) (h0' : strings_Contains s x = some r') : Fn X 181 [.one (.sc (.string s)), .one (.sc (.string x))] [.one (.sc (.bool r'))] [] := by
  unfold strings_Contains at h0'
  split at h0'
  case isFalse => cases h0'
  rename_i hs
  obtain rfl := Option.some.inj h0'
  exact Fn_pureB ⟨_, Go.Proofs.Try.func181, rfl, rfl⟩ (fun w hg => by
    obtain ⟨y, hy, hy2⟩ := hg _ _ (by rfl : X.G (Go.Proofs.Try.lays144_ren.g 1) = some isNum)
    obtain ⟨m, hm⟩ := isNum_cell hy hy2
    exact Go.Proofs.Any.strings_Contains { Go.Proofs.Try.lays144 with } s x m w hs hm)
theorem W_impl_LineOk (line : ByteArray) (r' : Bool) (h0' : impl_LineOk line = some r') : Fn X 155 [.one (.sc (.string line))] [.one (.sc (.bool r'))] [] := by
  have H' := And.intro t3 (t9)
  unfold impl_LineOk at h0'
  refine Fn.start (fn := f155) (N := 11) (res := [.tmp 2]) rfl rfl rfl rfl rfl (by simp) ?_
  refine enterG H' ?_
  refine wpV_seq1 ?_
  refine wpV_region ?_
  refine ops H' ?_
  refine opsN ?_
  refine wpV_seq1 ?_
  refine wpV_region ?_
  refine ops H' ?_
  obtain ⟨b, gh0', h0'⟩ := Option.bind_eq_some_iff.1 h0'
  refine opsV_cut 4 (fun e' => e' = { N := 11, np := 1, nx := 1, sl := [(10, .pl (.one (.v (.sc (.bool b)))))], ob := [] }) ?_ ?_
  · simp only [List.take_succ_cons, List.take_zero]
    refine opsV_sp (fun hc' => ?_) (fun hc' => ?_)
    · replace gh0' := (ifT hc').symm.trans gh0'
      refine ops H' ?_
      obtain ⟨x8, hy', gh0'⟩ := Option.bind_eq_some_iff.1 gh0'
      refine callG H' (fun _ => []) (W_strings_Contains _ _ _ hy') ?_
      refine ops H' ?_
      obtain rfl := Option.some.inj gh0'
      refine opsV_nil ?_
      exact ⟨rfl, shd [10] [] 1 rfl⟩
    · replace gh0' := (ifF hc').symm.trans gh0'
      refine ops H' ?_
      obtain rfl := Option.some.inj gh0'
      refine opsV_nil ?_
      exact ⟨rfl, shd [10] [] 1 rfl⟩
  · rintro e' rfl
    simp only [List.drop_succ_cons, List.drop_zero]
    refine ops H' ?_
    refine opsN ?_
    refine retN ?_
    obtain rfl := Option.some.inj h0'
    exact outG H' rfl rfl
theorem W_impl_areLines (list_ : List ByteArray) (r' : Bool) (h0' : impl_areLines list_ = some r') : Fn X 149 [.one (.list false 1 (List.map rS list_))] [.one (.sc (.bool r'))] [] := by
  have H' := And.intro t3 (And.intro t9 (And.intro t36 (R_s)))
  unfold impl_areLines at h0'
  refine Fn.start (fn := f149) (N := 15) (res := [.tmp 2]) rfl rfl rfl rfl rfl (by simp) ?_
  refine enterG H' ?_
  refine wpV_seq1 ?_
  refine wpV_region ?_
  refine ops H' ?_
  refine opsN ?_
  refine wpV_seqJ (fun e' => impl_areLines_j1 = some r' ∧ e' = { N := 15, np := 1, nx := 1, sl := [], ob := [] }) ?_ ?_
  · refine wpV_seq1 ?_
    refine wpV_region ?_
    refine ops H' ?_
    refine opsN ?_
    obtain ⟨p, hl', h0'⟩ := Option.bind_eq_some_iff.1 h0'
    refine wpV_block ?_
    refine wpV_loopM (fun x7 e' => e' = { N := 15, np := 1, nx := 1, sl := [(5, .pl (.one (.v (.list false 1 (List.map rS list_))))), (6, .pl (.one (.v (.sc (.int .i64 (list_.length : Int)))))), (7, .pl (.one (.v (.sc (.int .i64 x7)))))], ob := [] }) hl' (shd [5, 6, 7] [] 1 rfl) ?_
    rintro x7 y1' e' h1' rfl
    replace h1' : impl_areLines_l1 list_ x7 = some y1' := h1'
    unfold impl_areLines_l1 at h1'
    refine wpV_seq1 ?_
    refine wpV_region ?_
    refine ops H' ?_
    refine opsN ?_
    refine wpV_seq1 ?_
    refine wpV_split (fun hc' => ?_) (fun hc' => ?_)
    · replace h1' := (ifT hc').symm.trans h1'
      refine skipN ?_
      refine wpV_seq1 ?_
      refine wpV_block ?_
      refine wpV_seq1 ?_
      refine wpV_region ?_
      obtain ⟨x, hv', h1'⟩ := Option.bind_eq_some_iff.1 h1'
      have H' := And.intro (geti_f hv') H'
      refine ops H' ?_
      refine opsN ?_
      refine wpV_seq1 ?_
      refine wpV_region ?_
      refine ops H' ?_
      obtain ⟨x12, hy', h1'⟩ := Option.bind_eq_some_iff.1 h1'
      refine callG H' (fun _ => []) (W_impl_LineOk _ _ hy') ?_
      refine ops H' ?_
      refine opsN ?_
      refine wpV_split (fun hc' => ?_) (fun hc' => ?_)
      · replace h1' := (ifT hc').symm.trans h1'
        refine wpV_seq1 ?_
        refine wpV_region ?_
        refine ops H' ?_
        refine opsN ?_
        refine retN ?_
        obtain rfl := Option.some.inj h1'
        refine ⟨_, rfl, fun hr' => ?_⟩
        subst hr'
        obtain rfl := Option.some.inj h0'
        exact outG H' rfl rfl
      · replace h1' := (ifF hc').symm.trans h1'
        refine skipN ?_
        refine wpV_region ?_
        refine ops H' ?_
        refine opsN ?_
        obtain rfl := Option.some.inj h1'
        exact shd [5, 6, 7] [] 1 ⟨_, rfl, rfl⟩
    · replace h1' := (ifF hc').symm.trans h1'
      refine exitN ?_
      obtain rfl := Option.some.inj h1'
      refine ⟨_, rfl, fun hr' => ?_⟩
      subst hr'
      exact shd [] [] 1 ⟨h0', rfl⟩
  · rintro e' ⟨h0', rfl⟩
    unfold impl_areLines_j1 at h0'
    refine wpV_seq1 ?_
    refine wpV_region ?_
    refine ops H' ?_
    refine opsN ?_
    refine retN ?_
    obtain rfl := Option.some.inj h0'
    exact outG H' rfl rfl
theorem W_impl_LinesOk (list_ : List ByteArray) (r' : Bool) (h0' : impl_LinesOk list_ = some r') : Fn X 106 [.one (.list false 1 (List.map rS list_))] [.one (.sc (.bool r'))] [] := by
  have H' := And.intro t3 (And.intro t36 (R_s))
  unfold impl_LinesOk at h0'
  refine Fn.start (fn := f106) (N := 10) (res := [.tmp 2]) rfl rfl rfl rfl rfl (by simp) ?_
  refine enterG H' ?_
  refine wpV_seq1 ?_
  refine wpV_region ?_
  refine ops H' ?_
  refine opsN ?_
  refine wpV_seq1 ?_
  refine wpV_region ?_
  refine ops H' ?_
  obtain ⟨b, gh0', h0'⟩ := Option.bind_eq_some_iff.1 h0'
  refine opsV_cut 3 (fun e' => e' = { N := 10, np := 1, nx := 1, sl := [(9, .pl (.one (.v (.sc (.bool b)))))], ob := [] }) ?_ ?_
  · simp only [List.take_succ_cons, List.take_zero]
    refine opsV_sp (fun hc' => ?_) (fun hc' => ?_)
    · replace gh0' := (ifT hc').symm.trans gh0'
      refine ops H' ?_
      obtain ⟨x8, hy', gh0'⟩ := Option.bind_eq_some_iff.1 gh0'
      refine callG H' (fun _ => []) (W_impl_areLines _ _ hy') ?_
      refine ops H' ?_
      obtain rfl := Option.some.inj gh0'
      refine opsV_nil ?_
      exact ⟨rfl, shd [9] [] 1 rfl⟩
    · replace gh0' := (ifF hc').symm.trans gh0'
      refine ops H' ?_
      obtain rfl := Option.some.inj gh0'
      refine opsV_nil ?_
      exact ⟨rfl, shd [9] [] 1 rfl⟩
  · rintro e' rfl
    simp only [List.drop_succ_cons, List.drop_zero]
    refine ops H' ?_
    refine opsN ?_
    refine retN ?_
    obtain rfl := Option.some.inj h0'
    exact outG H' rfl rfl
theorem W_impl_stepOk (x : T_impl_Step) (r' : Bool) (h0' : impl_stepOk x = some r') : Fn X 44 [.agg [.list false 1 (List.map (rK .i64) x.Parents), .sc (.string x.Note), .list false 4 (List.map (r_T_impl_Change false) x.Changes)]] [.one (.sc (.bool r'))] [] := by
  have H' := And.intro t3 (And.intro t9 (And.intro t36 (And.intro t43 (And.intro t75 (And.intro t77 (And.intro t80 (And.intro R_T_impl_Change (And.intro R_i64 (R_s)))))))))
  unfold impl_stepOk at h0'
  refine Fn.start (fn := f44) (N := 57) (res := [.tmp 2]) rfl rfl rfl rfl rfl (by simp) ?_
  refine enterG H' ?_
  refine wpV_seq1 ?_
  refine wpV_region ?_
  refine ops H' ?_
  refine opsN ?_
  refine wpV_seq1 ?_
  refine wpV_seq1 ?_
  refine wpV_region ?_
  refine ops H' ?_
  obtain ⟨b, gh0', h0'⟩ := Option.bind_eq_some_iff.1 h0'
  refine opsV_cut 5 (fun e' => e' = { N := 57, np := 3, nx := 4, sl := [(1, .pl (.one (.ref 3 []))), (14, .pl (.one (.v (.sc (.bool b)))))], ob := [(3, .box true [.list false 1 (List.map (rK .i64) x.Parents), .sc (.string x.Note), .list false 4 (List.map (r_T_impl_Change false) x.Changes)])] }) ?_ ?_
  · simp only [List.take_succ_cons, List.take_zero]
    refine opsV_sp (fun hc' => ?_) (fun hc' => ?_)
    · replace gh0' := (ifF hc').symm.trans gh0'
      refine ops H' ?_
      obtain ⟨x12, hy', gh0'⟩ := Option.bind_eq_some_iff.1 gh0'
      refine callG H' (fun _ => []) (W_impl_numbersOk _ _ hy') ?_
      refine ops H' ?_
      obtain rfl := Option.some.inj gh0'
      refine opsV_nil ?_
      exact ⟨rfl, shd [1, 14] [(3, 3)] 4 rfl⟩
    · replace gh0' := (ifT hc').symm.trans gh0'
      refine ops H' ?_
      obtain rfl := Option.some.inj gh0'
      refine opsV_nil ?_
      exact ⟨rfl, shd [1, 14] [(3, 3)] 4 rfl⟩
  · rintro e' rfl
    simp only [List.drop_succ_cons, List.drop_zero]
    refine ops H' ?_
    obtain ⟨b_1, gh0', h0'⟩ := Option.bind_eq_some_iff.1 h0'
    refine opsV_cut 5 (fun e' => e' = { N := 57, np := 3, nx := 4, sl := [(1, .pl (.one (.ref 3 []))), (20, .pl (.one (.v (.sc (.bool b_1)))))], ob := [(3, .box true [.list false 1 (List.map (rK .i64) x.Parents), .sc (.string x.Note), .list false 4 (List.map (r_T_impl_Change false) x.Changes)])] }) ?_ ?_
    · simp only [List.take_succ_cons, List.take_zero]
      refine opsV_sp (fun hc' => ?_) (fun hc' => ?_)
      · replace gh0' := (ifF hc').symm.trans gh0'
        refine ops H' ?_
        obtain rfl := Option.some.inj gh0'
        refine opsV_nil ?_
        exact ⟨rfl, shd [1, 20] [(3, 3)] 4 rfl⟩
      · replace gh0' := (ifT hc').symm.trans gh0'
        refine ops H' ?_
        obtain rfl := Option.some.inj gh0'
        refine opsV_nil ?_
        exact ⟨rfl, shd [1, 20] [(3, 3)] 4 rfl⟩
    · rintro e' rfl
      simp only [List.drop_succ_cons, List.drop_zero]
      refine ops H' ?_
      obtain ⟨b_2, gh0', h0'⟩ := Option.bind_eq_some_iff.1 h0'
      refine opsV_cut 5 (fun e' => e' = { N := 57, np := 3, nx := 4, sl := [(1, .pl (.one (.ref 3 []))), (26, .pl (.one (.v (.sc (.bool b_2)))))], ob := [(3, .box true [.list false 1 (List.map (rK .i64) x.Parents), .sc (.string x.Note), .list false 4 (List.map (r_T_impl_Change false) x.Changes)])] }) ?_ ?_
      · simp only [List.take_succ_cons, List.take_zero]
        refine opsV_sp (fun hc' => ?_) (fun hc' => ?_)
        · replace gh0' := (ifF hc').symm.trans gh0'
          refine ops H' ?_
          obtain rfl := Option.some.inj gh0'
          refine opsV_nil ?_
          exact ⟨rfl, shd [1, 26] [(3, 3)] 4 rfl⟩
        · replace gh0' := (ifT hc').symm.trans gh0'
          refine ops H' ?_
          obtain rfl := Option.some.inj gh0'
          refine opsV_nil ?_
          exact ⟨rfl, shd [1, 26] [(3, 3)] 4 rfl⟩
      · rintro e' rfl
        simp only [List.drop_succ_cons, List.drop_zero]
        refine opsN ?_
        refine wpV_split (fun hc' => ?_) (fun hc' => ?_)
        · replace h0' := (ifT hc').symm.trans h0'
          refine wpV_seq1 ?_
          refine wpV_region ?_
          refine ops H' ?_
          refine opsN ?_
          refine retN ?_
          obtain rfl := Option.some.inj h0'
          exact outG H' rfl rfl
        · replace h0' := (ifF hc').symm.trans h0'
          refine skipN ?_
          refine wpV_seqJ (fun e' => impl_stepOk_j1 = some r' ∧ e' = { N := 57, np := 3, nx := 3, sl := [], ob := [] }) ?_ ?_
          · refine wpV_seq1 ?_
            refine wpV_region ?_
            refine ops H' ?_
            refine opsN ?_
            obtain ⟨p, hl', h0'⟩ := Option.bind_eq_some_iff.1 h0'
            refine wpV_block ?_
            refine wpV_loopM (fun x30 e' => e' = { N := 57, np := 3, nx := 3, sl := [(28, .pl (.one (.v (.list false 4 (List.map (r_T_impl_Change false) x.Changes))))), (29, .pl (.one (.v (.sc (.int .i64 (x.Changes.length : Int)))))), (30, .pl (.one (.v (.sc (.int .i64 x30)))))], ob := [] }) hl' (shd [28, 29, 30] [] 3 rfl) ?_
            rintro x30 y1' e' h1' rfl
            replace h1' : impl_stepOk_l1 x x30 = some y1' := h1'
            unfold impl_stepOk_l1 at h1'
            refine wpV_seq1 ?_
            refine wpV_region ?_
            refine ops H' ?_
            refine opsN ?_
            refine wpV_seq1 ?_
            refine wpV_split (fun hc' => ?_) (fun hc' => ?_)
            · replace h1' := (ifT hc').symm.trans h1'
              refine skipN ?_
              refine wpV_seq1 ?_
              refine wpV_block ?_
              refine wpV_seq1 ?_
              refine wpV_region ?_
              obtain ⟨x_1, hv', h1'⟩ := Option.bind_eq_some_iff.1 h1'
              have H' := And.intro (geti_f hv') H'
              refine ops H' ?_
              refine opsN ?_
              refine wpV_seq1 ?_
              refine wpV_region ?_
              refine ops H' ?_
              obtain ⟨x36, hy', h1'⟩ := Option.bind_eq_some_iff.1 h1'
              refine callG H' (fun _ => []) (W_impl_inRange _ _ _ _ hy') ?_
              refine ops H' ?_
              obtain ⟨b_3, gh1', h1'⟩ := Option.bind_eq_some_iff.1 h1'
              refine opsV_cut 5 (fun e' => e' = { N := 57, np := 3, nx := 4, sl := [(4, .pl (.one (.ref 3 []))), (28, .pl (.one (.v (.list false 4 (List.map (r_T_impl_Change false) x.Changes))))), (29, .pl (.one (.v (.sc (.int .i64 (x.Changes.length : Int)))))), (30, .pl (.one (.v (.sc (.int .i64 x30))))), (43, .pl (.one (.v (.sc (.bool b_3)))))], ob := [(3, .box true [.sc (.int .i64 x_1.Kind), .sc (.string x_1.Path), .sc (.string x_1.To), .list false 1 (List.map rS x_1.Lines)])] }) ?_ ?_
              · simp only [List.take_succ_cons, List.take_zero]
                refine opsV_sp (fun hc' => ?_) (fun hc' => ?_)
                · replace gh1' := (ifF hc').symm.trans gh1'
                  refine ops H' ?_
                  obtain rfl := Option.some.inj gh1'
                  refine opsV_nil ?_
                  exact ⟨rfl, shd [4, 28, 29, 30, 43] [(3, 3)] 4 rfl⟩
                · replace gh1' := (ifT hc').symm.trans gh1'
                  refine ops H' ?_
                  obtain rfl := Option.some.inj gh1'
                  refine opsV_nil ?_
                  exact ⟨rfl, shd [4, 28, 29, 30, 43] [(3, 3)] 4 rfl⟩
              · rintro e' rfl
                simp only [List.drop_succ_cons, List.drop_zero]
                refine ops H' ?_
                obtain ⟨b_4, gh1', h1'⟩ := Option.bind_eq_some_iff.1 h1'
                refine opsV_cut 5 (fun e' => e' = { N := 57, np := 3, nx := 4, sl := [(4, .pl (.one (.ref 3 []))), (28, .pl (.one (.v (.list false 4 (List.map (r_T_impl_Change false) x.Changes))))), (29, .pl (.one (.v (.sc (.int .i64 (x.Changes.length : Int)))))), (30, .pl (.one (.v (.sc (.int .i64 x30))))), (49, .pl (.one (.v (.sc (.bool b_4)))))], ob := [(3, .box true [.sc (.int .i64 x_1.Kind), .sc (.string x_1.Path), .sc (.string x_1.To), .list false 1 (List.map rS x_1.Lines)])] }) ?_ ?_
                · simp only [List.take_succ_cons, List.take_zero]
                  refine opsV_sp (fun hc' => ?_) (fun hc' => ?_)
                  · replace gh1' := (ifF hc').symm.trans gh1'
                    refine ops H' ?_
                    obtain rfl := Option.some.inj gh1'
                    refine opsV_nil ?_
                    exact ⟨rfl, shd [4, 28, 29, 30, 49] [(3, 3)] 4 rfl⟩
                  · replace gh1' := (ifT hc').symm.trans gh1'
                    refine ops H' ?_
                    obtain rfl := Option.some.inj gh1'
                    refine opsV_nil ?_
                    exact ⟨rfl, shd [4, 28, 29, 30, 49] [(3, 3)] 4 rfl⟩
                · rintro e' rfl
                  simp only [List.drop_succ_cons, List.drop_zero]
                  refine ops H' ?_
                  obtain ⟨b_5, gh1', h1'⟩ := Option.bind_eq_some_iff.1 h1'
                  refine opsV_cut 5 (fun e' => e' = { N := 57, np := 3, nx := 3, sl := [(28, .pl (.one (.v (.list false 4 (List.map (r_T_impl_Change false) x.Changes))))), (29, .pl (.one (.v (.sc (.int .i64 (x.Changes.length : Int)))))), (30, .pl (.one (.v (.sc (.int .i64 x30))))), (55, .pl (.one (.v (.sc (.bool b_5)))))], ob := [] }) ?_ ?_
                  · simp only [List.take_succ_cons, List.take_zero]
                    refine opsV_sp (fun hc' => ?_) (fun hc' => ?_)
                    · replace gh1' := (ifF hc').symm.trans gh1'
                      refine ops H' ?_
                      obtain ⟨x53, hy', gh1'⟩ := Option.bind_eq_some_iff.1 gh1'
                      refine callG H' (fun _ => []) (W_impl_LinesOk _ _ hy') ?_
                      refine ops H' ?_
                      obtain rfl := Option.some.inj gh1'
                      refine opsV_nil ?_
                      exact ⟨rfl, shd [28, 29, 30, 55] [] 3 rfl⟩
                    · replace gh1' := (ifT hc').symm.trans gh1'
                      refine ops H' ?_
                      obtain rfl := Option.some.inj gh1'
                      refine opsV_nil ?_
                      exact ⟨rfl, shd [28, 29, 30, 55] [] 3 rfl⟩
                  · rintro e' rfl
                    simp only [List.drop_succ_cons, List.drop_zero]
                    refine opsN ?_
                    refine wpV_split (fun hc' => ?_) (fun hc' => ?_)
                    · replace h1' := (ifT hc').symm.trans h1'
                      refine wpV_seq1 ?_
                      refine wpV_region ?_
                      refine ops H' ?_
                      refine opsN ?_
                      refine retN ?_
                      obtain rfl := Option.some.inj h1'
                      refine ⟨_, rfl, fun hr' => ?_⟩
                      subst hr'
                      obtain rfl := Option.some.inj h0'
                      exact outG H' rfl rfl
                    · replace h1' := (ifF hc').symm.trans h1'
                      refine skipN ?_
                      refine wpV_region ?_
                      refine ops H' ?_
                      refine opsN ?_
                      obtain rfl := Option.some.inj h1'
                      exact shd [28, 29, 30] [] 3 ⟨_, rfl, rfl⟩
            · replace h1' := (ifF hc').symm.trans h1'
              refine exitN ?_
              obtain rfl := Option.some.inj h1'
              refine ⟨_, rfl, fun hr' => ?_⟩
              subst hr'
              exact shd [] [] 3 ⟨h0', rfl⟩
          · rintro e' ⟨h0', rfl⟩
            unfold impl_stepOk_j1 at h0'
            refine wpV_seq1 ?_
            refine wpV_region ?_
            refine ops H' ?_
            refine opsN ?_
            refine retN ?_
            obtain rfl := Option.some.inj h0'
            exact outG H' rfl rfl
theorem W_impl_scanner_done (s : T_impl_scanner) (r' : Bool) (h0' : impl_scanner_done s = some r') : Fn X 45 [.one (.box false [.sc (.string s.text), .sc (.int .i64 s.at_), .sc (.bool s.bad)])] [.one (.sc (.bool r'))] [] := by
  have H' := And.intro t3 (And.intro t4 (And.intro t9 (t83)))
  unfold impl_scanner_done at h0'
  refine Fn.start (fn := f45) (N := 20) (res := [.tmp 2]) rfl rfl rfl rfl rfl (by simp) ?_
  refine enterG H' ?_
  refine wpV_seq1 ?_
  refine wpV_region ?_
  refine ops H' ?_
  refine opsN ?_
  refine wpV_seq1 ?_
  refine regQ ?_
  refine ops H' ?_
  obtain ⟨b, gh0', h0'⟩ := Option.bind_eq_some_iff.1 h0'
  refine quV_cut 11 (fun e' => e' = { N := 20, np := 1, nx := 1, sl := [(19, .pl (.one (.v (.sc (.bool b)))))], ob := [] }) ?_ ?_
  · simp only [List.take_succ_cons, List.take_zero]
    refine quV_sp (fun hc' => ?_) (fun hc' => ?_)
    · replace gh0' := (ifT hc').symm.trans gh0'
      refine ops H' ?_
      obtain rfl := Option.some.inj gh0'
      refine quV_nil ?_
      exact ⟨rfl, shd [19] [] 1 rfl⟩
    · replace gh0' := (ifF hc').symm.trans gh0'
      refine ops H' ?_
      obtain rfl := Option.some.inj gh0'
      refine quV_nil ?_
      exact ⟨rfl, shd [19] [] 1 rfl⟩
  · rintro e' rfl
    simp only [List.drop_succ_cons, List.drop_zero]
    refine ops H' ?_
    refine quN ?_
    refine retN ?_
    obtain rfl := Option.some.inj h0'
    exact outG H' rfl rfl
theorem W_impl_ReadBundle (text : ByteArray) (r' : (List T_impl_Step) × Bool) (h0' : impl_ReadBundle text = some r') : Fn X 8 [.one (.sc (.string text))] [.one (.list true 3 (List.map (r_T_impl_Step true) r'.1)), .one (.sc (.bool r'.2))] [] := by
  have H' := And.intro t3 (And.intro t4 (And.intro t9 (And.intro t22 (And.intro t43 (And.intro t75 (And.intro t77 (And.intro t80 (And.intro t83 (And.intro R_T_impl_Change (And.intro R_T_impl_Step (And.intro R_i64 (R_s))))))))))))
  unfold impl_ReadBundle at h0'
  refine Fn.start (fn := f8) (N := 54) (res := [.tmp 2, .tmp 3]) rfl rfl rfl rfl rfl (by simp) ?_
  refine enterG H' ?_
  refine wpV_seq1 ?_
  refine wpV_region ?_
  refine opsV_nilA H' 3 ?_
  refine ops H' ?_
  refine opsN ?_
  refine wpV_seq1 ?_
  refine wpV_region ?_
  refine ops H' ?_
  obtain ⟨x12, hy', h0'⟩ := Option.bind_eq_some_iff.1 h0'
  refine callG H' (fun _ => []) (W_impl_Unsealed _ _ hy') ?_
  refine ops H' ?_
  refine opsN ?_
  refine wpV_seq1 ?_
  refine wpV_region ?_
  refine ops H' ?_
  refine opsN ?_
  refine wpV_seq1 ?_
  refine wpV_region ?_
  obtain ⟨x19, hy', h0'⟩ := Option.bind_eq_some_iff.1 h0'
  refine callG H' (fun _ => [0]) (W_impl_scanner_mark _ _ _ hy') ?_
  refine opsN ?_
  refine wpV_seq1 ?_
  refine wpV_region ?_
  refine opsV_nilA H' 3 ?_
  refine opsN ?_
  refine wpV_seqJ (fun e' => ∃ s s_1 s_2 list_, impl_ReadBundle_j1 s s_1 s_2 list_ = some r' ∧ e' = { N := 54, np := 1, nx := 3, sl := [(6, .pl (.one (.ref 1 []))), (7, .pl (.one (.ref 2 [])))], ob := [(1, .box true [.sc (.string s), .sc (.int .i64 s_1), .sc (.bool s_2)]), (2, .list true 3 (List.map (r_T_impl_Step true) list_))] }) ?_ ?_
  · refine wpV_seq1 ?_
    refine wpV_region ?_
    obtain ⟨x20, hy', h0'⟩ := Option.bind_eq_some_iff.1 h0'
    refine callG H' (fun _ => [0]) (W_impl_scanner_count _ _ _ hy') ?_
    refine ops H' ?_
    refine opsN ?_
    obtain ⟨p, hl', h0'⟩ := Option.bind_eq_some_iff.1 h0'
    refine wpV_block ?_
    refine wpV_loopM (fun s' e' => ∃ x21 s_3 s_4 s_5 list__1, s' = (x21, s_3, s_4, s_5, list__1) ∧ e' = { N := 54, np := 1, nx := 3, sl := [(6, .pl (.one (.ref 1 []))), (7, .pl (.one (.ref 2 []))), (20, .pl (.one (.v (.sc (.int .i64 x20.1))))), (21, .pl (.one (.v (.sc (.int .i64 x21)))))], ob := [(1, .box true [.sc (.string s_3), .sc (.int .i64 s_4), .sc (.bool s_5)]), (2, .list true 3 (List.map (r_T_impl_Step true) list__1))] }) hl' (shd [6, 7, 20, 21] [(4, 1), (5, 2)] 3 ⟨_, _, _, _, _, rfl, rfl⟩) ?_
    rintro s' y1' e' h1' ⟨x21, s_3, s_4, s_5, list__1, rfl, rfl⟩
    replace h1' : impl_ReadBundle_l1 x20 x21 s_3 s_4 s_5 list__1 = some y1' := h1'
    unfold impl_ReadBundle_l1 at h1'
    refine wpV_seq1 ?_
    refine wpV_region ?_
    refine ops H' ?_
    refine opsN ?_
    refine wpV_seq1 ?_
    refine wpV_split (fun hc' => ?_) (fun hc' => ?_)
    · replace h1' := (ifT hc').symm.trans h1'
      refine skipN ?_
      refine wpV_seqJ (fun e' => ∃ s_6 s_7 s_8 list__2, impl_ReadBundle_j2 x21 s_6 s_7 s_8 list__2 = some y1' ∧ e' = { N := 54, np := 1, nx := 3, sl := [(6, .pl (.one (.ref 1 []))), (7, .pl (.one (.ref 2 []))), (20, .pl (.one (.v (.sc (.int .i64 x20.1))))), (21, .pl (.one (.v (.sc (.int .i64 x21)))))], ob := [(1, .box true [.sc (.string s_6), .sc (.int .i64 s_7), .sc (.bool s_8)]), (2, .list true 3 (List.map (r_T_impl_Step true) list__2))] }) ?_ ?_
      · refine wpV_block ?_
        refine wpV_seq1 ?_
        refine wpV_region ?_
        obtain ⟨x23, hy', h1'⟩ := Option.bind_eq_some_iff.1 h1'
        refine callG H' (fun _ => [0]) (W_impl_scanner_numbers _ _ _ hy') ?_
        refine ops H' ?_
        refine opsN ?_
        refine wpV_seq1 ?_
        refine wpV_region ?_
        obtain ⟨x25, hy', h1'⟩ := Option.bind_eq_some_iff.1 h1'
        refine callG H' (fun _ => [0]) (W_impl_scanner_short _ _ hy') ?_
        refine ops H' ?_
        refine opsN ?_
        refine wpV_seqJ (fun e' => ∃ s_9 s_10 s_11 x, impl_ReadBundle_j3 x21 list__1 x23 x25 s_9 s_10 s_11 x = some y1' ∧ e' = { N := 54, np := 1, nx := 4, sl := [(6, .pl (.one (.ref 1 []))), (7, .pl (.one (.ref 2 []))), (8, .pl (.one (.ref 3 []))), (20, .pl (.one (.v (.sc (.int .i64 x20.1))))), (21, .pl (.one (.v (.sc (.int .i64 x21)))))], ob := [(1, .box true [.sc (.string s_9), .sc (.int .i64 s_10), .sc (.bool s_11)]), (2, .list true 3 (List.map (r_T_impl_Step true) list__1)), (3, .box true [.list true 1 (List.map (rK .i64) x23.1), .sc (.string x25.1), .list true 4 (List.map (r_T_impl_Change true) x)])] }) ?_ ?_
        · refine wpV_seq1 ?_
          refine wpV_region ?_
          obtain ⟨x27, hy', h1'⟩ := Option.bind_eq_some_iff.1 h1'
          refine callG H' (fun _ => [0]) (W_impl_scanner_count _ _ _ hy') ?_
          refine ops H' ?_
          refine opsN ?_
          obtain ⟨p_1, hl', h1'⟩ := Option.bind_eq_some_iff.1 h1'
          refine wpV_block ?_
          refine wpV_loopM (fun s' e' => ∃ x28 s_12 s_13 s_14 x_1, s' = (x28, s_12, s_13, s_14, x_1) ∧ e' = { N := 54, np := 1, nx := 4, sl := [(6, .pl (.one (.ref 1 []))), (7, .pl (.one (.ref 2 []))), (8, .pl (.one (.ref 3 []))), (20, .pl (.one (.v (.sc (.int .i64 x20.1))))), (21, .pl (.one (.v (.sc (.int .i64 x21))))), (27, .pl (.one (.v (.sc (.int .i64 x27.1))))), (28, .pl (.one (.v (.sc (.int .i64 x28)))))], ob := [(1, .box true [.sc (.string s_12), .sc (.int .i64 s_13), .sc (.bool s_14)]), (2, .list true 3 (List.map (r_T_impl_Step true) list__1)), (3, .box true [.list true 1 (List.map (rK .i64) x23.1), .sc (.string x25.1), .list true 4 (List.map (r_T_impl_Change true) x_1)])] }) hl' (shd [6, 7, 8, 20, 21, 27, 28] [(1, 1), (2, 2), (4, 3)] 4 ⟨_, _, _, _, _, rfl, rfl⟩) ?_
          rintro s' y2' e' h2' ⟨x28, s_12, s_13, s_14, x_1, rfl, rfl⟩
          replace h2' : impl_ReadBundle_l2 x27 x28 s_12 s_13 s_14 x_1 = some y2' := h2'
          unfold impl_ReadBundle_l2 at h2'
          refine wpV_seq1 ?_
          refine wpV_region ?_
          refine ops H' ?_
          refine opsN ?_
          refine wpV_seq1 ?_
          refine wpV_split (fun hc' => ?_) (fun hc' => ?_)
          · replace h2' := (ifT hc').symm.trans h2'
            refine skipN ?_
            refine wpV_seq1 ?_
            refine wpV_block ?_
            refine wpV_seq1 ?_
            refine wpV_region ?_
            obtain ⟨x30, hy', h2'⟩ := Option.bind_eq_some_iff.1 h2'
            refine callG H' (fun _ => [0]) (W_impl_scanner_change _ _ hy') ?_
            refine ops H' ?_
            refine opsN ?_
            refine wpV_region ?_
            obtain ⟨l_1, hv', h2'⟩ := Option.bind_eq_some_iff.1 h2'
            have H' := And.intro (app1_f hv') H'
            refine ops H' ?_
            refine opsN ?_
            refine wpV_region ?_
            refine ops H' ?_
            refine opsN ?_
            obtain rfl := Option.some.inj h2'
            exact shd [6, 7, 8, 20, 21, 27, 28] [(1, 1), (2, 2), (3, 3)] 4 ⟨_, rfl, _, _, _, _, _, rfl, rfl⟩
          · replace h2' := (ifF hc').symm.trans h2'
            refine exitN ?_
            obtain rfl := Option.some.inj h2'
            refine ⟨_, rfl, fun hr' => ?_⟩
            subst hr'
            exact shd [6, 7, 8, 20, 21] [(1, 1), (2, 2), (3, 3)] 4 ⟨_, _, _, _, h1', rfl⟩
        · rintro e' ⟨s_9, s_10, s_11, x, h1', rfl⟩
          unfold impl_ReadBundle_j3 at h1'
          refine wpV_seq1 ?_
          refine wpV_region ?_
          refine ops H' ?_
          obtain ⟨b, gh1', h1'⟩ := Option.bind_eq_some_iff.1 h1'
          refine opsV_cut 4 (fun e' => e' = { N := 54, np := 1, nx := 4, sl := [(6, .pl (.one (.ref 1 []))), (7, .pl (.one (.ref 2 []))), (8, .pl (.one (.ref 3 []))), (20, .pl (.one (.v (.sc (.int .i64 x20.1))))), (21, .pl (.one (.v (.sc (.int .i64 x21))))), (44, .pl (.one (.v (.sc (.bool b)))))], ob := [(1, .box true [.sc (.string s_9), .sc (.int .i64 s_10), .sc (.bool s_11)]), (2, .list true 3 (List.map (r_T_impl_Step true) list__1)), (3, .box true [.list true 1 (List.map (rK .i64) x23.1), .sc (.string x25.1), .list true 4 (List.map (r_T_impl_Change true) x)])] }) ?_ ?_
          · simp only [List.take_succ_cons, List.take_zero]
            refine opsV_sp (fun hc' => ?_) (fun hc' => ?_)
            · replace gh1' := (ifF hc').symm.trans gh1'
              refine ops H' ?_
              obtain ⟨x42, hy', gh1'⟩ := Option.bind_eq_some_iff.1 gh1'
              refine callG H' (fun _ => []) (W_impl_stepOk _ _ hy') ?_
              refine ops H' ?_
              obtain rfl := Option.some.inj gh1'
              refine opsV_nil ?_
              exact ⟨rfl, shd [6, 7, 8, 20, 21, 44] [(1, 1), (2, 2), (3, 3)] 4 rfl⟩
            · replace gh1' := (ifT hc').symm.trans gh1'
              refine ops H' ?_
              obtain rfl := Option.some.inj gh1'
              refine opsV_nil ?_
              exact ⟨rfl, shd [6, 7, 8, 20, 21, 44] [(1, 1), (2, 2), (3, 3)] 4 rfl⟩
          · rintro e' rfl
            simp only [List.drop_succ_cons, List.drop_zero]
            refine ops H' ?_
            refine opsN ?_
            refine wpV_region ?_
            obtain ⟨l, hv', h1'⟩ := Option.bind_eq_some_iff.1 h1'
            have H' := And.intro (app1_f hv') H'
            refine ops H' ?_
            refine opsN ?_
            exact shd [6, 7, 20, 21] [(1, 1), (2, 2)] 3 ⟨_, _, _, _, h1', rfl⟩
      · rintro e' ⟨s_6, s_7, s_8, list__2, h1', rfl⟩
        unfold impl_ReadBundle_j2 at h1'
        refine wpV_region ?_
        refine ops H' ?_
        refine opsN ?_
        obtain rfl := Option.some.inj h1'
        exact shd [6, 7, 20, 21] [(1, 1), (2, 2)] 3 ⟨_, rfl, _, _, _, _, _, rfl, rfl⟩
    · replace h1' := (ifF hc').symm.trans h1'
      refine exitN ?_
      obtain rfl := Option.some.inj h1'
      refine ⟨_, rfl, fun hr' => ?_⟩
      subst hr'
      exact shd [6, 7] [(1, 1), (2, 2)] 3 ⟨_, _, _, _, h0', rfl⟩
  · rintro e' ⟨s, s_1, s_2, list_, h0', rfl⟩
    unfold impl_ReadBundle_j1 at h0'
    refine wpV_seq1 ?_
    refine wpV_seq1 ?_
    refine wpV_region ?_
    obtain ⟨x51, hy', h0'⟩ := Option.bind_eq_some_iff.1 h0'
    refine callG H' (fun _ => []) (W_impl_scanner_done _ _ hy') ?_
    refine ops H' ?_
    refine opsN ?_
    refine wpV_split (fun hc' => ?_) (fun hc' => ?_)
    · replace h0' := (ifT hc').symm.trans h0'
      refine wpV_seq1 ?_
      refine wpV_region ?_
      refine opsV_nilA H' 3 ?_
      refine ops H' ?_
      refine opsN ?_
      refine retN ?_
      obtain rfl := Option.some.inj h0'
      exact outG H' rfl rfl
    · replace h0' := (ifF hc').symm.trans h0'
      refine skipN ?_
      refine wpV_seq1 ?_
      refine wpV_region ?_
      refine ops H' ?_
      refine opsN ?_
      refine retN ?_
      obtain rfl := Option.some.inj h0'
      exact outG H' rfl rfl
theorem W_laws_eqIntS (a : List Int) (b : List Int) (r' : Bool) (h0' : laws_eqIntS a b = some r') : Fn X 107 [.one (.list false 1 (List.map (rK .i64) a)), .one (.list false 1 (List.map (rK .i64) b))] [.one (.sc (.bool r'))] [] := by
  have H' := And.intro t3 (And.intro t43 (R_i64))
  unfold laws_eqIntS at h0'
  refine Fn.start (fn := f107) (N := 26) (res := [.tmp 4]) rfl rfl rfl rfl rfl (by simp) ?_
  refine enterG H' ?_
  refine wpV_seq1 ?_
  refine wpV_region ?_
  refine ops H' ?_
  refine opsN ?_
  refine wpV_seq1 ?_
  refine wpV_seq1 ?_
  refine wpV_region ?_
  refine ops H' ?_
  refine opsN ?_
  refine wpV_split (fun hc' => ?_) (fun hc' => ?_)
  · replace h0' := (ifT hc').symm.trans h0'
    refine wpV_seq1 ?_
    refine wpV_region ?_
    refine ops H' ?_
    refine opsN ?_
    refine retN ?_
    obtain rfl := Option.some.inj h0'
    exact outG H' rfl rfl
  · replace h0' := (ifF hc').symm.trans h0'
    refine skipN ?_
    refine wpV_seqJ (fun e' => laws_eqIntS_j1 = some r' ∧ e' = { N := 26, np := 2, nx := 2, sl := [], ob := [] }) ?_ ?_
    · refine wpV_seq1 ?_
      refine wpV_region ?_
      refine ops H' ?_
      refine opsN ?_
      obtain ⟨p, hl', h0'⟩ := Option.bind_eq_some_iff.1 h0'
      refine wpV_block ?_
      refine wpV_loopM (fun i e' => e' = { N := 26, np := 2, nx := 2, sl := [(0, .pl (.one (.v (.list false 1 (List.map (rK .i64) a))))), (1, .pl (.one (.v (.list false 1 (List.map (rK .i64) b))))), (5, .pl (.one (.v (.sc (.int .i64 i)))))], ob := [] }) hl' (shd [0, 1, 5] [] 2 rfl) ?_
      rintro i y1' e' h1' rfl
      replace h1' : laws_eqIntS_l1 a b i = some y1' := h1'
      unfold laws_eqIntS_l1 at h1'
      refine wpV_seq1 ?_
      refine wpV_seq1 ?_
      refine wpV_region ?_
      refine ops H' ?_
      refine opsN ?_
      refine wpV_split (fun hc' => ?_) (fun hc' => ?_)
      · replace h1' := (ifT hc').symm.trans h1'
        refine skipN ?_
        refine wpV_seq1 ?_
        refine wpV_block ?_
        refine wpV_seq1 ?_
        refine regQ ?_
        obtain ⟨x, hv', h1'⟩ := Option.bind_eq_some_iff.1 h1'
        have H' := And.intro (geti_f hv') H'
        obtain ⟨x_1, hv', h1'⟩ := Option.bind_eq_some_iff.1 h1'
        have H' := And.intro (geti_f hv') H'
        refine ops H' ?_
        refine quN ?_
        refine wpV_split (fun hc' => ?_) (fun hc' => ?_)
        · replace h1' := (ifT hc').symm.trans h1'
          refine wpV_seq1 ?_
          refine wpV_region ?_
          refine ops H' ?_
          refine opsN ?_
          refine retN ?_
          obtain rfl := Option.some.inj h1'
          refine ⟨_, rfl, fun hr' => ?_⟩
          subst hr'
          obtain rfl := Option.some.inj h0'
          exact outG H' rfl rfl
        · replace h1' := (ifF hc').symm.trans h1'
          refine skipN ?_
          refine wpV_region ?_
          refine ops H' ?_
          refine opsN ?_
          obtain rfl := Option.some.inj h1'
          exact shd [0, 1, 5] [] 2 ⟨_, rfl, rfl⟩
      · replace h1' := (ifF hc').symm.trans h1'
        refine exitN ?_
        obtain rfl := Option.some.inj h1'
        refine ⟨_, rfl, fun hr' => ?_⟩
        subst hr'
        exact shd [] [] 2 ⟨h0', rfl⟩
    · rintro e' ⟨h0', rfl⟩
      unfold laws_eqIntS_j1 at h0'
      refine wpV_seq1 ?_
      refine wpV_region ?_
      refine ops H' ?_
      refine opsN ?_
      refine retN ?_
      obtain rfl := Option.some.inj h0'
      exact outG H' rfl rfl
theorem W_laws_eqStringS (a : List ByteArray) (b : List ByteArray) (r' : Bool) (h0' : laws_eqStringS a b = some r') : Fn X 177 [.one (.list false 1 (List.map rS a)), .one (.list false 1 (List.map rS b))] [.one (.sc (.bool r'))] [] := by
  have H' := And.intro t3 (And.intro t9 (And.intro t36 (R_s)))
  unfold laws_eqStringS at h0'
  refine Fn.start (fn := f177) (N := 26) (res := [.tmp 4]) rfl rfl rfl rfl rfl (by simp) ?_
  refine enterG H' ?_
  refine wpV_seq1 ?_
  refine wpV_region ?_
  refine ops H' ?_
  refine opsN ?_
  refine wpV_seq1 ?_
  refine wpV_seq1 ?_
  refine wpV_region ?_
  refine ops H' ?_
  refine opsN ?_
  refine wpV_split (fun hc' => ?_) (fun hc' => ?_)
  · replace h0' := (ifT hc').symm.trans h0'
    refine wpV_seq1 ?_
    refine wpV_region ?_
    refine ops H' ?_
    refine opsN ?_
    refine retN ?_
    obtain rfl := Option.some.inj h0'
    exact outG H' rfl rfl
  · replace h0' := (ifF hc').symm.trans h0'
    refine skipN ?_
    refine wpV_seqJ (fun e' => laws_eqStringS_j1 = some r' ∧ e' = { N := 26, np := 2, nx := 2, sl := [], ob := [] }) ?_ ?_
    · refine wpV_seq1 ?_
      refine wpV_region ?_
      refine ops H' ?_
      refine opsN ?_
      obtain ⟨p, hl', h0'⟩ := Option.bind_eq_some_iff.1 h0'
      refine wpV_block ?_
      refine wpV_loopM (fun i e' => e' = { N := 26, np := 2, nx := 2, sl := [(0, .pl (.one (.v (.list false 1 (List.map rS a))))), (1, .pl (.one (.v (.list false 1 (List.map rS b))))), (5, .pl (.one (.v (.sc (.int .i64 i)))))], ob := [] }) hl' (shd [0, 1, 5] [] 2 rfl) ?_
      rintro i y1' e' h1' rfl
      replace h1' : laws_eqStringS_l1 a b i = some y1' := h1'
      unfold laws_eqStringS_l1 at h1'
      refine wpV_seq1 ?_
      refine wpV_seq1 ?_
      refine wpV_region ?_
      refine ops H' ?_
      refine opsN ?_
      refine wpV_split (fun hc' => ?_) (fun hc' => ?_)
      · replace h1' := (ifT hc').symm.trans h1'
        refine skipN ?_
        refine wpV_seq1 ?_
        refine wpV_block ?_
        refine wpV_seq1 ?_
        refine regQ ?_
        obtain ⟨x, hv', h1'⟩ := Option.bind_eq_some_iff.1 h1'
        have H' := And.intro (geti_f hv') H'
        obtain ⟨x_1, hv', h1'⟩ := Option.bind_eq_some_iff.1 h1'
        have H' := And.intro (geti_f hv') H'
        refine ops H' ?_
        refine quN ?_
        refine wpV_split (fun hc' => ?_) (fun hc' => ?_)
        · replace h1' := (ifT hc').symm.trans h1'
          refine wpV_seq1 ?_
          refine wpV_region ?_
          refine ops H' ?_
          refine opsN ?_
          refine retN ?_
          obtain rfl := Option.some.inj h1'
          refine ⟨_, rfl, fun hr' => ?_⟩
          subst hr'
          obtain rfl := Option.some.inj h0'
          exact outG H' rfl rfl
        · replace h1' := (ifF hc').symm.trans h1'
          refine skipN ?_
          refine wpV_region ?_
          refine ops H' ?_
          refine opsN ?_
          obtain rfl := Option.some.inj h1'
          exact shd [0, 1, 5] [] 2 ⟨_, rfl, rfl⟩
      · replace h1' := (ifF hc').symm.trans h1'
        refine exitN ?_
        obtain rfl := Option.some.inj h1'
        refine ⟨_, rfl, fun hr' => ?_⟩
        subst hr'
        exact shd [] [] 2 ⟨h0', rfl⟩
    · rintro e' ⟨h0', rfl⟩
      unfold laws_eqStringS_j1 at h0'
      refine wpV_seq1 ?_
      refine wpV_region ?_
      refine ops H' ?_
      refine opsN ?_
      refine retN ?_
      obtain rfl := Option.some.inj h0'
      exact outG H' rfl rfl
theorem W_laws_eqChange (a : T_impl_Change) (b : T_impl_Change) (r' : Bool) (h0' : laws_eqChange a b = some r') : Fn X 150 [.agg [.sc (.int .i64 a.Kind), .sc (.string a.Path), .sc (.string a.To), .list false 1 (List.map rS a.Lines)], .agg [.sc (.int .i64 b.Kind), .sc (.string b.Path), .sc (.string b.To), .list false 1 (List.map rS b.Lines)]] [.one (.sc (.bool r'))] [] := by
  have H' := And.intro t3 (And.intro t9 (And.intro t36 (And.intro t80 (R_s))))
  unfold laws_eqChange at h0'
  refine Fn.start (fn := f150) (N := 26) (res := [.tmp 4]) rfl rfl rfl rfl rfl (by simp) ?_
  refine enterG H' ?_
  refine wpV_seq1 ?_
  refine wpV_region ?_
  refine ops H' ?_
  refine opsN ?_
  refine wpV_seq1 ?_
  refine wpV_seq1 ?_
  refine wpV_region ?_
  refine ops H' ?_
  refine opsN ?_
  refine wpV_split (fun hc' => ?_) (fun hc' => ?_)
  · replace h0' := (ifT hc').symm.trans h0'
    refine wpV_seq1 ?_
    refine wpV_region ?_
    refine ops H' ?_
    refine opsN ?_
    refine retN ?_
    obtain rfl := Option.some.inj h0'
    exact outG H' rfl rfl
  · replace h0' := (ifF hc').symm.trans h0'
    refine skipN ?_
    refine wpV_seq1 ?_
    refine wpV_seq1 ?_
    refine wpV_region ?_
    refine ops H' ?_
    refine opsN ?_
    refine wpV_split (fun hc' => ?_) (fun hc' => ?_)
    · replace h0' := (ifT hc').symm.trans h0'
      refine wpV_seq1 ?_
      refine wpV_region ?_
      refine ops H' ?_
      refine opsN ?_
      refine retN ?_
      obtain rfl := Option.some.inj h0'
      exact outG H' rfl rfl
    · replace h0' := (ifF hc').symm.trans h0'
      refine skipN ?_
      refine wpV_seq1 ?_
      refine wpV_seq1 ?_
      refine wpV_region ?_
      refine ops H' ?_
      refine opsN ?_
      refine wpV_split (fun hc' => ?_) (fun hc' => ?_)
      · replace h0' := (ifT hc').symm.trans h0'
        refine wpV_seq1 ?_
        refine wpV_region ?_
        refine ops H' ?_
        refine opsN ?_
        refine retN ?_
        obtain rfl := Option.some.inj h0'
        exact outG H' rfl rfl
      · replace h0' := (ifF hc').symm.trans h0'
        refine skipN ?_
        refine wpV_seq1 ?_
        refine wpV_seq1 ?_
        refine wpV_region ?_
        refine ops H' ?_
        obtain ⟨x24, hy', h0'⟩ := Option.bind_eq_some_iff.1 h0'
        refine callG H' (fun _ => []) (W_laws_eqStringS _ _ _ hy') ?_
        refine ops H' ?_
        refine opsN ?_
        refine wpV_split (fun hc' => ?_) (fun hc' => ?_)
        · replace h0' := (ifT hc').symm.trans h0'
          refine wpV_seq1 ?_
          refine wpV_region ?_
          refine ops H' ?_
          refine opsN ?_
          refine retN ?_
          obtain rfl := Option.some.inj h0'
          exact outG H' rfl rfl
        · replace h0' := (ifF hc').symm.trans h0'
          refine skipN ?_
          refine wpV_seq1 ?_
          refine wpV_region ?_
          refine ops H' ?_
          refine opsN ?_
          refine retN ?_
          obtain rfl := Option.some.inj h0'
          exact outG H' rfl rfl
theorem W_laws_eqChangeS (a : List T_impl_Change) (b : List T_impl_Change) (r' : Bool) (h0' : laws_eqChangeS a b = some r') : Fn X 108 [.one (.list false 4 (List.map (r_T_impl_Change false) a)), .one (.list false 4 (List.map (r_T_impl_Change false) b))] [.one (.sc (.bool r'))] [] := by
  have H' := And.intro t3 (And.intro t75 (And.intro t80 (And.intro R_T_impl_Change (R_s))))
  unfold laws_eqChangeS at h0'
  refine Fn.start (fn := f108) (N := 27) (res := [.tmp 4]) rfl rfl rfl rfl rfl (by simp) ?_
  refine enterG H' ?_
  refine wpV_seq1 ?_
  refine wpV_region ?_
  refine ops H' ?_
  refine opsN ?_
  refine wpV_seq1 ?_
  refine wpV_seq1 ?_
  refine wpV_region ?_
  refine ops H' ?_
  refine opsN ?_
  refine wpV_split (fun hc' => ?_) (fun hc' => ?_)
  · replace h0' := (ifT hc').symm.trans h0'
    refine wpV_seq1 ?_
    refine wpV_region ?_
    refine ops H' ?_
    refine opsN ?_
    refine retN ?_
    obtain rfl := Option.some.inj h0'
    exact outG H' rfl rfl
  · replace h0' := (ifF hc').symm.trans h0'
    refine skipN ?_
    refine wpV_seqJ (fun e' => laws_eqChangeS_j1 = some r' ∧ e' = { N := 27, np := 2, nx := 2, sl := [], ob := [] }) ?_ ?_
    · refine wpV_seq1 ?_
      refine wpV_region ?_
      refine ops H' ?_
      refine opsN ?_
      obtain ⟨p, hl', h0'⟩ := Option.bind_eq_some_iff.1 h0'
      refine wpV_block ?_
      refine wpV_loopM (fun i e' => e' = { N := 27, np := 2, nx := 2, sl := [(0, .pl (.one (.v (.list false 4 (List.map (r_T_impl_Change false) a))))), (1, .pl (.one (.v (.list false 4 (List.map (r_T_impl_Change false) b))))), (5, .pl (.one (.v (.sc (.int .i64 i)))))], ob := [] }) hl' (shd [0, 1, 5] [] 2 rfl) ?_
      rintro i y1' e' h1' rfl
      replace h1' : laws_eqChangeS_l1 a b i = some y1' := h1'
      unfold laws_eqChangeS_l1 at h1'
      refine wpV_seq1 ?_
      refine wpV_seq1 ?_
      refine wpV_region ?_
      refine ops H' ?_
      refine opsN ?_
      refine wpV_split (fun hc' => ?_) (fun hc' => ?_)
      · replace h1' := (ifT hc').symm.trans h1'
        refine skipN ?_
        refine wpV_seq1 ?_
        refine wpV_block ?_
        refine wpV_seq1 ?_
        refine regQ ?_
        obtain ⟨x, hv', h1'⟩ := Option.bind_eq_some_iff.1 h1'
        have H' := And.intro (geti_f hv') H'
        obtain ⟨x_1, hv', h1'⟩ := Option.bind_eq_some_iff.1 h1'
        have H' := And.intro (geti_f hv') H'
        refine ops H' ?_
        obtain ⟨x25, hy', h1'⟩ := Option.bind_eq_some_iff.1 h1'
        refine callGQ H' (W_laws_eqChange _ _ _ hy') ?_
        refine ops H' ?_
        refine quN ?_
        refine wpV_split (fun hc' => ?_) (fun hc' => ?_)
        · replace h1' := (ifT hc').symm.trans h1'
          refine wpV_seq1 ?_
          refine wpV_region ?_
          refine ops H' ?_
          refine opsN ?_
          refine retN ?_
          obtain rfl := Option.some.inj h1'
          refine ⟨_, rfl, fun hr' => ?_⟩
          subst hr'
          obtain rfl := Option.some.inj h0'
          exact outG H' rfl rfl
        · replace h1' := (ifF hc').symm.trans h1'
          refine skipN ?_
          refine wpV_region ?_
          refine ops H' ?_
          refine opsN ?_
          obtain rfl := Option.some.inj h1'
          exact shd [0, 1, 5] [] 2 ⟨_, rfl, rfl⟩
      · replace h1' := (ifF hc').symm.trans h1'
        refine exitN ?_
        obtain rfl := Option.some.inj h1'
        refine ⟨_, rfl, fun hr' => ?_⟩
        subst hr'
        exact shd [] [] 2 ⟨h0', rfl⟩
    · rintro e' ⟨h0', rfl⟩
      unfold laws_eqChangeS_j1 at h0'
      refine wpV_seq1 ?_
      refine wpV_region ?_
      refine ops H' ?_
      refine opsN ?_
      refine retN ?_
      obtain rfl := Option.some.inj h0'
      exact outG H' rfl rfl
theorem W_laws_eqStep (a : T_impl_Step) (b : T_impl_Step) (r' : Bool) (h0' : laws_eqStep a b = some r') : Fn X 46 [.agg [.list false 1 (List.map (rK .i64) a.Parents), .sc (.string a.Note), .list false 4 (List.map (r_T_impl_Change false) a.Changes)], .agg [.list false 1 (List.map (rK .i64) b.Parents), .sc (.string b.Note), .list false 4 (List.map (r_T_impl_Change false) b.Changes)]] [.one (.sc (.bool r'))] [] := by
  have H' := And.intro t9 (And.intro t43 (And.intro t75 (And.intro t77 (And.intro R_T_impl_Change (And.intro R_i64 (R_s))))))
  unfold laws_eqStep at h0'
  refine Fn.start (fn := f46) (N := 22) (res := [.tmp 4]) rfl rfl rfl rfl rfl (by simp) ?_
  refine enterG H' ?_
  refine wpV_seq1 ?_
  refine wpV_region ?_
  refine ops H' ?_
  refine opsN ?_
  refine wpV_seq1 ?_
  refine wpV_seq1 ?_
  refine wpV_region ?_
  refine ops H' ?_
  obtain ⟨x9, hy', h0'⟩ := Option.bind_eq_some_iff.1 h0'
  refine callG H' (fun _ => []) (W_laws_eqIntS _ _ _ hy') ?_
  refine ops H' ?_
  refine opsN ?_
  refine wpV_split (fun hc' => ?_) (fun hc' => ?_)
  · replace h0' := (ifT hc').symm.trans h0'
    refine wpV_seq1 ?_
    refine wpV_region ?_
    refine ops H' ?_
    refine opsN ?_
    refine retN ?_
    obtain rfl := Option.some.inj h0'
    exact outG H' rfl rfl
  · replace h0' := (ifF hc').symm.trans h0'
    refine skipN ?_
    refine wpV_seq1 ?_
    refine wpV_seq1 ?_
    refine wpV_region ?_
    refine ops H' ?_
    refine opsN ?_
    refine wpV_split (fun hc' => ?_) (fun hc' => ?_)
    · replace h0' := (ifT hc').symm.trans h0'
      refine wpV_seq1 ?_
      refine wpV_region ?_
      refine ops H' ?_
      refine opsN ?_
      refine retN ?_
      obtain rfl := Option.some.inj h0'
      exact outG H' rfl rfl
    · replace h0' := (ifF hc').symm.trans h0'
      refine skipN ?_
      refine wpV_seq1 ?_
      refine wpV_seq1 ?_
      refine wpV_region ?_
      refine ops H' ?_
      obtain ⟨x20, hy', h0'⟩ := Option.bind_eq_some_iff.1 h0'
      refine callG H' (fun _ => []) (W_laws_eqChangeS _ _ _ hy') ?_
      refine ops H' ?_
      refine opsN ?_
      refine wpV_split (fun hc' => ?_) (fun hc' => ?_)
      · replace h0' := (ifT hc').symm.trans h0'
        refine wpV_seq1 ?_
        refine wpV_region ?_
        refine ops H' ?_
        refine opsN ?_
        refine retN ?_
        obtain rfl := Option.some.inj h0'
        exact outG H' rfl rfl
      · replace h0' := (ifF hc').symm.trans h0'
        refine skipN ?_
        refine wpV_seq1 ?_
        refine wpV_region ?_
        refine ops H' ?_
        refine opsN ?_
        refine retN ?_
        obtain rfl := Option.some.inj h0'
        exact outG H' rfl rfl
theorem W_laws_eqStepS (a : List T_impl_Step) (b : List T_impl_Step) (r' : Bool) (h0' : laws_eqStepS a b = some r') : Fn X 9 [.one (.list false 3 (List.map (r_T_impl_Step false) a)), .one (.list false 3 (List.map (r_T_impl_Step false) b))] [.one (.sc (.bool r'))] [] := by
  have H' := And.intro t3 (And.intro t22 (And.intro t77 (And.intro R_T_impl_Change (And.intro R_T_impl_Step (And.intro R_i64 (R_s))))))
  unfold laws_eqStepS at h0'
  refine Fn.start (fn := f9) (N := 27) (res := [.tmp 4]) rfl rfl rfl rfl rfl (by simp) ?_
  refine enterG H' ?_
  refine wpV_seq1 ?_
  refine wpV_region ?_
  refine ops H' ?_
  refine opsN ?_
  refine wpV_seq1 ?_
  refine wpV_seq1 ?_
  refine wpV_region ?_
  refine ops H' ?_
  refine opsN ?_
  refine wpV_split (fun hc' => ?_) (fun hc' => ?_)
  · replace h0' := (ifT hc').symm.trans h0'
    refine wpV_seq1 ?_
    refine wpV_region ?_
    refine ops H' ?_
    refine opsN ?_
    refine retN ?_
    obtain rfl := Option.some.inj h0'
    exact outG H' rfl rfl
  · replace h0' := (ifF hc').symm.trans h0'
    refine skipN ?_
    refine wpV_seqJ (fun e' => laws_eqStepS_j1 = some r' ∧ e' = { N := 27, np := 2, nx := 2, sl := [], ob := [] }) ?_ ?_
    · refine wpV_seq1 ?_
      refine wpV_region ?_
      refine ops H' ?_
      refine opsN ?_
      obtain ⟨p, hl', h0'⟩ := Option.bind_eq_some_iff.1 h0'
      refine wpV_block ?_
      refine wpV_loopM (fun i e' => e' = { N := 27, np := 2, nx := 2, sl := [(0, .pl (.one (.v (.list false 3 (List.map (r_T_impl_Step false) a))))), (1, .pl (.one (.v (.list false 3 (List.map (r_T_impl_Step false) b))))), (5, .pl (.one (.v (.sc (.int .i64 i)))))], ob := [] }) hl' (shd [0, 1, 5] [] 2 rfl) ?_
      rintro i y1' e' h1' rfl
      replace h1' : laws_eqStepS_l1 a b i = some y1' := h1'
      unfold laws_eqStepS_l1 at h1'
      refine wpV_seq1 ?_
      refine wpV_seq1 ?_
      refine wpV_region ?_
      refine ops H' ?_
      refine opsN ?_
      refine wpV_split (fun hc' => ?_) (fun hc' => ?_)
      · replace h1' := (ifT hc').symm.trans h1'
        refine skipN ?_
        refine wpV_seq1 ?_
        refine wpV_block ?_
        refine wpV_seq1 ?_
        refine regQ ?_
        obtain ⟨x, hv', h1'⟩ := Option.bind_eq_some_iff.1 h1'
        have H' := And.intro (geti_f hv') H'
        obtain ⟨x_1, hv', h1'⟩ := Option.bind_eq_some_iff.1 h1'
        have H' := And.intro (geti_f hv') H'
        refine ops H' ?_
        obtain ⟨x25, hy', h1'⟩ := Option.bind_eq_some_iff.1 h1'
        refine callGQ H' (W_laws_eqStep _ _ _ hy') ?_
        refine ops H' ?_
        refine quN ?_
        refine wpV_split (fun hc' => ?_) (fun hc' => ?_)
        · replace h1' := (ifT hc').symm.trans h1'
          refine wpV_seq1 ?_
          refine wpV_region ?_
          refine ops H' ?_
          refine opsN ?_
          refine retN ?_
          obtain rfl := Option.some.inj h1'
          refine ⟨_, rfl, fun hr' => ?_⟩
          subst hr'
          obtain rfl := Option.some.inj h0'
          exact outG H' rfl rfl
        · replace h1' := (ifF hc').symm.trans h1'
          refine skipN ?_
          refine wpV_region ?_
          refine ops H' ?_
          refine opsN ?_
          obtain rfl := Option.some.inj h1'
          exact shd [0, 1, 5] [] 2 ⟨_, rfl, rfl⟩
      · replace h1' := (ifF hc').symm.trans h1'
        refine exitN ?_
        obtain rfl := Option.some.inj h1'
        refine ⟨_, rfl, fun hr' => ?_⟩
        subst hr'
        exact shd [] [] 2 ⟨h0', rfl⟩
    · rintro e' ⟨h0', rfl⟩
      unfold laws_eqStepS_j1 at h0'
      refine wpV_seq1 ?_
      refine wpV_region ?_
      refine ops H' ?_
      refine opsN ?_
      refine retN ?_
      obtain rfl := Option.some.inj h0'
      exact outG H' rfl rfl
theorem W_laws_markIntS (a : List Int) (k : Int) (r' : Int × (List Int)) (h0' : laws_markIntS a k = some r') : Fn X 47 [.one (.list true 1 (List.map (rK .i64) a)), .one (.sc (.int .i64 k))] [.one (.sc (.int .i64 r'.1))] [(0, .list true 1 (List.map (rK .i64) r'.2))] := by
  have H' := And.intro t3 (And.intro t43 (R_i64))
  unfold laws_markIntS at h0'
  refine Fn.start (fn := f47) (N := 19) (res := [.tmp 4]) rfl rfl rfl rfl rfl (by simp) ?_
  refine enterG H' ?_
  refine wpV_seq1 ?_
  refine wpV_region ?_
  refine ops H' ?_
  refine opsN ?_
  refine wpV_seqJ (fun e' => ∃ k_1 a_1, laws_markIntS_j1 k_1 a_1 = some r' ∧ e' = { N := 19, np := 2, nx := 2, sl := [(1, .pl (.one (.v (.sc (.int .i64 k_1)))))], ob := [(0, .list true 1 (List.map (rK .i64) a_1))] }) ?_ ?_
  · refine wpV_seq1 ?_
    refine wpV_region ?_
    refine ops H' ?_
    refine opsN ?_
    obtain ⟨p, hl', h0'⟩ := Option.bind_eq_some_iff.1 h0'
    refine wpV_block ?_
    refine wpV_loopM (fun s' e' => ∃ k_2 i a_2, s' = (k_2, i, a_2) ∧ e' = { N := 19, np := 2, nx := 2, sl := [(0, .pl (.one (.ref 0 []))), (1, .pl (.one (.v (.sc (.int .i64 k_2))))), (5, .pl (.one (.v (.sc (.int .i64 i)))))], ob := [(0, .list true 1 (List.map (rK .i64) a_2))] }) hl' (shd [0, 1, 5] [(0, 0)] 2 ⟨_, _, _, rfl, rfl⟩) ?_
    rintro s' y1' e' h1' ⟨k_2, i, a_2, rfl, rfl⟩
    replace h1' : laws_markIntS_l1 k_2 i a_2 = some y1' := h1'
    unfold laws_markIntS_l1 at h1'
    refine wpV_seq1 ?_
    refine wpV_seq1 ?_
    refine wpV_region ?_
    refine ops H' ?_
    refine opsN ?_
    refine wpV_split (fun hc' => ?_) (fun hc' => ?_)
    · replace h1' := (ifT hc').symm.trans h1'
      refine skipN ?_
      refine wpV_seq1 ?_
      refine wpV_block ?_
      refine wpV_seq1 ?_
      refine wpV_region ?_
      obtain ⟨x, hv', h1'⟩ := Option.bind_eq_some_iff.1 h1'
      have H' := And.intro (geti_f hv') H'
      refine ops H' ?_
      refine opsN ?_
      refine wpV_region ?_
      refine ops H' ?_
      refine opsN ?_
      refine wpV_region ?_
      refine ops H' ?_
      refine opsN ?_
      obtain rfl := Option.some.inj h1'
      exact shd [0, 1, 5] [(0, 0)] 2 ⟨_, rfl, _, _, _, rfl, rfl⟩
    · replace h1' := (ifF hc').symm.trans h1'
      refine exitN ?_
      obtain rfl := Option.some.inj h1'
      refine ⟨_, rfl, fun hr' => ?_⟩
      subst hr'
      exact shd [1] [(0, 0)] 2 ⟨_, _, h0', rfl⟩
  · rintro e' ⟨k_1, a_1, h0', rfl⟩
    unfold laws_markIntS_j1 at h0'
    refine wpV_seq1 ?_
    refine wpV_region ?_
    refine ops H' ?_
    refine opsN ?_
    refine retN ?_
    obtain rfl := Option.some.inj h0'
    exact outG H' rfl rfl
theorem W_laws_markText (k : Int) (r' : ByteArray) (h0' : laws_markText k = some r') : Fn X 48 [.one (.sc (.int .i64 k))] [.one (.sc (.string r'))] [] := by
  have H' := And.intro t3 (And.intro t5 (And.intro t9 (t28)))
  unfold laws_markText at h0'
  refine Fn.start (fn := f48) (N := 20) (res := [.tmp 2]) rfl rfl rfl rfl rfl (by simp) ?_
  refine enterG H' ?_
  refine wpV_seq1 ?_
  refine wpV_region ?_
  refine ops H' ?_
  refine opsN ?_
  refine wpV_seq1 ?_
  refine wpV_seq1 ?_
  refine wpV_region ?_
  refine ops H' ?_
  refine opsN ?_
  refine wpV_split (fun hc' => ?_) (fun hc' => ?_)
  · replace h0' := (ifT hc').symm.trans h0'
    refine wpV_seq1 ?_
    refine wpV_region ?_
    refine ops H' ?_
    refine opsN ?_
    refine retN ?_
    obtain rfl := Option.some.inj h0'
    exact outG H' rfl rfl
  · replace h0' := (ifF hc').symm.trans h0'
    refine skipN ?_
    refine wpV_seq1 ?_
    refine wpV_region ?_
    refine ops H' ?_
    refine opsN ?_
    refine wpV_seqJ (fun e' => ∃ out_, laws_markText_j1 out_ = some r' ∧ e' = { N := 20, np := 1, nx := 1, sl := [(3, .pl (.one (.v (.sc (.string out_)))))], ob := [] }) ?_ ?_
    · obtain ⟨p, hl', h0'⟩ := Option.bind_eq_some_iff.1 h0'
      refine wpV_block ?_
      refine wpV_loopM (fun s' e' => ∃ k_1 out__1, s' = (k_1, out__1) ∧ e' = { N := 20, np := 1, nx := 1, sl := [(0, .pl (.one (.v (.sc (.int .i64 k_1))))), (3, .pl (.one (.v (.sc (.string out__1)))))], ob := [] }) hl' (shd [0, 3] [] 1 ⟨_, _, rfl, rfl⟩) ?_
      rintro s' y1' e' h1' ⟨k_1, out__1, rfl, rfl⟩
      replace h1' : laws_markText_l1 k_1 out__1 = some y1' := h1'
      unfold laws_markText_l1 at h1'
      refine wpV_seq1 ?_
      refine wpV_seq1 ?_
      refine wpV_region ?_
      refine ops H' ?_
      refine opsN ?_
      refine wpV_split (fun hc' => ?_) (fun hc' => ?_)
      · replace h1' := (ifT hc').symm.trans h1'
        refine skipN ?_
        refine wpV_block ?_
        refine wpV_seq1 ?_
        refine wpV_region ?_
        have H' := And.intro (show bytesOf [[V.sc (.int .u8 (wk .u8 (wk .i64 (48 + (k_1.tmod 10)))))]] = some [(wk .u8 (wk .i64 (48 + (k_1.tmod 10))))] from bytesOf_rK [(wk .u8 (wk .i64 (48 + (k_1.tmod 10))))]) H'
        obtain ⟨t_1, hv', h1'⟩ := Option.bind_eq_some_iff.1 h1'
        have H' := And.intro (sapp_f hv') H'
        refine ops H' ?_
        refine opsN ?_
        refine wpV_region ?_
        refine ops H' ?_
        refine opsN ?_
        obtain rfl := Option.some.inj h1'
        exact shd [0, 3] [] 1 ⟨_, rfl, _, _, rfl, rfl⟩
      · replace h1' := (ifF hc').symm.trans h1'
        refine exitN ?_
        obtain rfl := Option.some.inj h1'
        refine ⟨_, rfl, fun hr' => ?_⟩
        subst hr'
        exact shd [3] [] 1 ⟨_, h0', rfl⟩
    · rintro e' ⟨out_, h0', rfl⟩
      unfold laws_markText_j1 at h0'
      refine wpV_seq1 ?_
      refine wpV_region ?_
      obtain ⟨t, hv', h0'⟩ := Option.bind_eq_some_iff.1 h0'
      have H' := And.intro (sapp_f hv') H'
      refine ops H' ?_
      refine opsN ?_
      refine retN ?_
      obtain rfl := Option.some.inj h0'
      exact outG H' rfl rfl
theorem W_laws_markStringS (a : List ByteArray) (k : Int) (r' : Int × (List ByteArray)) (h0' : laws_markStringS a k = some r') : Fn X 109 [.one (.list true 1 (List.map rS a)), .one (.sc (.int .i64 k))] [.one (.sc (.int .i64 r'.1))] [(0, .list true 1 (List.map rS r'.2))] := by
  have H' := And.intro t3 (And.intro t9 (And.intro t36 (R_s)))
  unfold laws_markStringS at h0'
  refine Fn.start (fn := f109) (N := 20) (res := [.tmp 4]) rfl rfl rfl rfl rfl (by simp) ?_
  refine enterG H' ?_
  refine wpV_seq1 ?_
  refine wpV_region ?_
  refine ops H' ?_
  refine opsN ?_
  refine wpV_seqJ (fun e' => ∃ k_1 a_1, laws_markStringS_j1 k_1 a_1 = some r' ∧ e' = { N := 20, np := 2, nx := 2, sl := [(1, .pl (.one (.v (.sc (.int .i64 k_1)))))], ob := [(0, .list true 1 (List.map rS a_1))] }) ?_ ?_
  · refine wpV_seq1 ?_
    refine wpV_region ?_
    refine ops H' ?_
    refine opsN ?_
    obtain ⟨p, hl', h0'⟩ := Option.bind_eq_some_iff.1 h0'
    refine wpV_block ?_
    refine wpV_loopM (fun s' e' => ∃ k_2 i a_2, s' = (k_2, i, a_2) ∧ e' = { N := 20, np := 2, nx := 2, sl := [(0, .pl (.one (.ref 0 []))), (1, .pl (.one (.v (.sc (.int .i64 k_2))))), (5, .pl (.one (.v (.sc (.int .i64 i)))))], ob := [(0, .list true 1 (List.map rS a_2))] }) hl' (shd [0, 1, 5] [(0, 0)] 2 ⟨_, _, _, rfl, rfl⟩) ?_
    rintro s' y1' e' h1' ⟨k_2, i, a_2, rfl, rfl⟩
    replace h1' : laws_markStringS_l1 k_2 i a_2 = some y1' := h1'
    unfold laws_markStringS_l1 at h1'
    refine wpV_seq1 ?_
    refine wpV_seq1 ?_
    refine wpV_region ?_
    refine ops H' ?_
    refine opsN ?_
    refine wpV_split (fun hc' => ?_) (fun hc' => ?_)
    · replace h1' := (ifT hc').symm.trans h1'
      refine skipN ?_
      refine wpV_seq1 ?_
      refine wpV_block ?_
      refine wpV_seq1 ?_
      refine wpV_region ?_
      refine ops H' ?_
      obtain ⟨x15, hy', h1'⟩ := Option.bind_eq_some_iff.1 h1'
      refine callG H' (fun _ => []) (W_laws_markText _ _ hy') ?_
      obtain ⟨x, hv', h1'⟩ := Option.bind_eq_some_iff.1 h1'
      have H' := And.intro (geti_f hv') H'
      refine ops H' ?_
      refine opsN ?_
      refine wpV_region ?_
      refine ops H' ?_
      refine opsN ?_
      refine wpV_region ?_
      refine ops H' ?_
      refine opsN ?_
      obtain rfl := Option.some.inj h1'
      exact shd [0, 1, 5] [(0, 0)] 2 ⟨_, rfl, _, _, _, rfl, rfl⟩
    · replace h1' := (ifF hc').symm.trans h1'
      refine exitN ?_
      obtain rfl := Option.some.inj h1'
      refine ⟨_, rfl, fun hr' => ?_⟩
      subst hr'
      exact shd [1] [(0, 0)] 2 ⟨_, _, h0', rfl⟩
  · rintro e' ⟨k_1, a_1, h0', rfl⟩
    unfold laws_markStringS_j1 at h0'
    refine wpV_seq1 ?_
    refine wpV_region ?_
    refine ops H' ?_
    refine opsN ?_
    refine retN ?_
    obtain rfl := Option.some.inj h0'
    exact outG H' rfl rfl
end Go.TV.KFnExactReadBundle
