/- Walks. -/
import Derived.Test.YthfhiepgdeghpaaKFnExactReadCommitsE
import Derived.Test.YthfhiepgdeghpaaKFnExactReadCommitsW0
set_option linter.unusedVariables false
set_option linter.unusedSimpArgs false
set_option maxHeartbeats 8000000
set_option maxRecDepth 100000
namespace Go.TV.KFnExactReadCommits
attribute [local irreducible] anyV wpV opsV Does thenV blockV RetL quV seqV
open Go.Proofs.Try Go.TV.F
theorem W_impl_scanner_count (s : T_impl_scanner) (most : Int) (r' : Int × T_impl_scanner) (h0' : impl_scanner_count s most = some r') : Fn X 62 [.one (.box true [.sc (.string s.text), .sc (.int .i64 s.at_), .sc (.bool s.bad)]), .one (.sc (.int .i64 most))] [.one (.sc (.int .i64 r'.1))] [(0, .box true [.sc (.string r'.2.text), .sc (.int .i64 r'.2.at_), .sc (.bool r'.2.bad)])] := by
  have H' := And.intro t3 (And.intro t4 (t90))
  unfold impl_scanner_count at h0'
  refine Fn.start (fn := f62) (N := 15) (res := [.tmp 4]) rfl rfl rfl rfl rfl (by simp) ?_
  refine enterG H' ?_
  refine wpV_seq1 ?_
  refine wpV_region ?_
  refine ops H' ?_
  refine opsN ?_
  refine wpV_seq1 ?_
  refine wpV_region ?_
  refine ops H' ?_
  obtain ⟨x7, hy', h0'⟩ := Option.bind_eq_some_iff.1 h0'
  refine callG H' (fun _ => [0]) (W_impl_scanner_number _ _ hy') ?_
  refine ops H' ?_
  refine opsN ?_
  refine wpV_seq1 ?_
  refine wpV_seq1 ?_
  refine wpV_region ?_
  refine ops H' ?_
  refine opsN ?_
  refine wpV_split (fun hc' => ?_) (fun hc' => ?_)
  · replace h0' := (ifT hc').symm.trans h0'
    refine wpV_seq1 ?_
    refine wpV_region ?_
    refine ops H' ?_
    refine opsN ?_
    refine wpV_seq1 ?_
    refine wpV_region ?_
    refine ops H' ?_
    refine opsN ?_
    refine retN ?_
    obtain rfl := Option.some.inj h0'
    exact outG H' rfl rfl
  · replace h0' := (ifF hc').symm.trans h0'
    refine skipN ?_
    refine wpV_seq1 ?_
    refine wpV_region ?_
    refine ops H' ?_
    refine opsN ?_
    refine retN ?_
    obtain rfl := Option.some.inj h0'
    exact outG H' rfl rfl
theorem W_impl_scanner_numbers (s : T_impl_scanner) (most : Int) (r' : (List Int) × T_impl_scanner) (h0' : impl_scanner_numbers s most = some r') : Fn X 146 [.one (.box true [.sc (.string s.text), .sc (.int .i64 s.at_), .sc (.bool s.bad)]), .one (.sc (.int .i64 most))] [.one (.list true 1 (List.map (rK .i64) r'.1))] [(0, .box true [.sc (.string r'.2.text), .sc (.int .i64 r'.2.at_), .sc (.bool r'.2.bad)])] := by
  have H' := And.intro t3 (And.intro t44 (R_i64))
  unfold impl_scanner_numbers at h0'
  refine Fn.start (fn := f146) (N := 20) (res := [.tmp 4]) rfl rfl rfl rfl rfl (by simp) ?_
  refine enterG H' ?_
  refine wpV_seq1 ?_
  refine wpV_region ?_
  refine ops H' ?_
  refine opsN ?_
  refine wpV_seq1 ?_
  refine wpV_region ?_
  refine ops H' ?_
  refine opsN ?_
  refine wpV_seqJ (fun e' => ∃ s_1 s_2 s_3 out_, impl_scanner_numbers_j1 s_1 s_2 s_3 out_ = some r' ∧ e' = { N := 20, np := 2, nx := 3, sl := [(5, .pl (.one (.ref 2 [])))], ob := [(0, .box true [.sc (.string s_1), .sc (.int .i64 s_2), .sc (.bool s_3)]), (2, .list true 1 (List.map (rK .i64) out_))] }) ?_ ?_
  · refine wpV_seq1 ?_
    refine wpV_region ?_
    refine ops H' ?_
    obtain ⟨x9, hy', h0'⟩ := Option.bind_eq_some_iff.1 h0'
    refine callG H' (fun _ => [0]) (W_impl_scanner_count _ _ _ hy') ?_
    refine ops H' ?_
    refine opsN ?_
    obtain ⟨p, hl', h0'⟩ := Option.bind_eq_some_iff.1 h0'
    refine wpV_block ?_
    refine wpV_loopM (fun s' e' => ∃ x10 s_4 s_5 s_6 out__1, s' = (x10, s_4, s_5, s_6, out__1) ∧ e' = { N := 20, np := 2, nx := 3, sl := [(0, .pl (.one (.ref 0 []))), (5, .pl (.one (.ref 2 []))), (9, .pl (.one (.v (.sc (.int .i64 x9.1))))), (10, .pl (.one (.v (.sc (.int .i64 x10)))))], ob := [(0, .box true [.sc (.string s_4), .sc (.int .i64 s_5), .sc (.bool s_6)]), (2, .list true 1 (List.map (rK .i64) out__1))] }) hl' (shd [0, 5, 9, 10] [(0, 0), (3, 2)] 3 ⟨_, _, _, _, _, rfl, rfl⟩) ?_
    rintro s' y1' e' h1' ⟨x10, s_4, s_5, s_6, out__1, rfl, rfl⟩
    replace h1' : impl_scanner_numbers_l1 x9 x10 s_4 s_5 s_6 out__1 = some y1' := h1'
    unfold impl_scanner_numbers_l1 at h1'
    refine wpV_seq1 ?_
    refine wpV_region ?_
    refine ops H' ?_
    refine opsN ?_
    refine wpV_seq1 ?_
    refine wpV_split (fun hc' => ?_) (fun hc' => ?_)
    · replace h1' := (ifT hc').symm.trans h1'
      refine skipN ?_
      refine wpV_seq1 ?_
      refine wpV_block ?_
      refine wpV_seq1 ?_
      refine wpV_region ?_
      refine ops H' ?_
      obtain ⟨x13, hy', h1'⟩ := Option.bind_eq_some_iff.1 h1'
      refine callG H' (fun _ => [0]) (W_impl_scanner_number _ _ hy') ?_
      refine ops H' ?_
      refine opsN ?_
      refine wpV_region ?_
      obtain ⟨l, hv', h1'⟩ := Option.bind_eq_some_iff.1 h1'
      have H' := And.intro (app1_f hv') H'
      refine ops H' ?_
      refine opsN ?_
      refine wpV_region ?_
      refine ops H' ?_
      refine opsN ?_
      obtain rfl := Option.some.inj h1'
      exact shd [0, 5, 9, 10] [(0, 0), (2, 2)] 3 ⟨_, rfl, _, _, _, _, _, rfl, rfl⟩
    · replace h1' := (ifF hc').symm.trans h1'
      refine exitN ?_
      obtain rfl := Option.some.inj h1'
      refine ⟨_, rfl, fun hr' => ?_⟩
      subst hr'
      exact shd [5] [(0, 0), (2, 2)] 3 ⟨_, _, _, _, h0', rfl⟩
  · rintro e' ⟨s_1, s_2, s_3, out_, h0', rfl⟩
    unfold impl_scanner_numbers_j1 at h0'
    refine wpV_seq1 ?_
    refine wpV_region ?_
    refine ops H' ?_
    refine opsN ?_
    refine retN ?_
    obtain rfl := Option.some.inj h0'
    exact outG H' rfl rfl
theorem W_impl_scanner_short (s : T_impl_scanner) (r' : ByteArray × T_impl_scanner) (h0' : impl_scanner_short s = some r') : Fn X 147 [.one (.box true [.sc (.string s.text), .sc (.int .i64 s.at_), .sc (.bool s.bad)])] [.one (.sc (.string r'.1))] [(0, .box true [.sc (.string r'.2.text), .sc (.int .i64 r'.2.at_), .sc (.bool r'.2.bad)])] := by
  have H' := And.intro t3 (And.intro t4 (t90))
  unfold impl_scanner_short at h0'
  refine Fn.start (fn := f147) (N := 14) (res := [.tmp 2]) rfl rfl rfl rfl rfl (by simp) ?_
  refine enterG H' ?_
  refine wpV_seq1 ?_
  refine wpV_region ?_
  refine ops H' ?_
  refine opsN ?_
  refine wpV_seq1 ?_
  refine wpV_region ?_
  refine ops H' ?_
  obtain ⟨x5, hy', h0'⟩ := Option.bind_eq_some_iff.1 h0'
  refine callG H' (fun _ => [0]) (W_impl_scanner_number _ _ hy') ?_
  refine ops H' ?_
  refine opsN ?_
  refine wpV_seqJ (fun e' => ∃ s_1, impl_scanner_short_j1 x5 s_1 = some r' ∧ e' = { N := 14, np := 1, nx := 1, sl := [(0, .pl (.one (.ref 0 []))), (3, .pl (.one (.v (.sc (.int .i64 x5.1)))))], ob := [(0, .box true [.sc (.string x5.2.text), .sc (.int .i64 x5.2.at_), .sc (.bool s_1)])] }) ?_ ?_
  · refine wpV_seq1 ?_
    refine wpV_region ?_
    refine ops H' ?_
    refine opsN ?_
    refine wpV_split (fun hc' => ?_) (fun hc' => ?_)
    · replace h0' := (ifT hc').symm.trans h0'
      refine wpV_region ?_
      refine ops H' ?_
      refine opsN ?_
      exact shd [0, 3] [(0, 0)] 1 ⟨_, h0', rfl⟩
    · replace h0' := (ifF hc').symm.trans h0'
      refine skipN ?_
      exact shd [0, 3] [(0, 0)] 1 ⟨_, h0', rfl⟩
  · rintro e' ⟨s_1, h0', rfl⟩
    unfold impl_scanner_short_j1 at h0'
    refine wpV_seq1 ?_
    refine wpV_region ?_
    refine ops H' ?_
    obtain ⟨x13, hy', h0'⟩ := Option.bind_eq_some_iff.1 h0'
    refine callG H' (fun _ => [0]) (W_impl_scanner_take _ _ _ hy') ?_
    refine ops H' ?_
    refine opsN ?_
    refine retN ?_
    obtain rfl := Option.some.inj h0'
    exact outG H' rfl rfl
theorem W_impl_scanner_commit (s : T_impl_scanner) (r' : T_impl_Commit × T_impl_scanner) (h0' : impl_scanner_commit s = some r') : Fn X 63 [.one (.box true [.sc (.string s.text), .sc (.int .i64 s.at_), .sc (.bool s.bad)])] [.agg [.list true 1 (List.map (rK .i64) r'.1.Parents), .sc (.string r'.1.Note), .list true 3 (List.map (r_T_impl_Name true) r'.1.Names)]] [(0, .box true [.sc (.string r'.2.text), .sc (.int .i64 r'.2.at_), .sc (.bool r'.2.bad)])] := by
  have H' := And.intro t3 (And.intro t9 (And.intro t44 (And.intro t83 (And.intro t85 (And.intro t88 (And.intro R_T_impl_Name (R_i64)))))))
  unfold impl_scanner_commit at h0'
  refine Fn.start (fn := f63) (N := 32) (res := [.cell 2 85]) rfl rfl rfl rfl rfl (by simp) ?_
  refine enterG H' ?_
  refine wpV_seq1 ?_
  refine wpV_region ?_
  refine ops H' ?_
  refine opsN ?_
  refine wpV_seq1 ?_
  refine wpV_region ?_
  refine ops H' ?_
  obtain ⟨x6, hy', h0'⟩ := Option.bind_eq_some_iff.1 h0'
  refine callG H' (fun _ => [0]) (W_impl_scanner_numbers _ _ _ hy') ?_
  refine ops H' ?_
  refine opsN ?_
  refine wpV_seq1 ?_
  refine wpV_region ?_
  refine ops H' ?_
  obtain ⟨x9, hy', h0'⟩ := Option.bind_eq_some_iff.1 h0'
  refine callG H' (fun _ => [0]) (W_impl_scanner_short _ _ hy') ?_
  refine ops H' ?_
  refine opsN ?_
  refine wpV_seqJ (fun e' => ∃ s_1 s_2 s_3 c, impl_scanner_commit_j1 x6 x9 s_1 s_2 s_3 c = some r' ∧ e' = { N := 32, np := 1, nx := 3, sl := [(2, .pl (.one (.ref 1 []))), (3, .pl (.one (.ref 2 [])))], ob := [(0, .box true [.sc (.string s_1), .sc (.int .i64 s_2), .sc (.bool s_3)]), (1, .box true [.list true 1 (List.map (rK .i64) []), .sc (.string (ByteArray.mk #[])), .list true 3 (List.map (r_T_impl_Name true) [])]), (2, .box true [.list true 1 (List.map (rK .i64) x6.1), .sc (.string x9.1), .list true 3 (List.map (r_T_impl_Name true) c)])] }) ?_ ?_
  · refine wpV_seq1 ?_
    refine wpV_region ?_
    refine ops H' ?_
    obtain ⟨x12, hy', h0'⟩ := Option.bind_eq_some_iff.1 h0'
    refine callG H' (fun _ => [0]) (W_impl_scanner_count _ _ _ hy') ?_
    refine ops H' ?_
    refine opsN ?_
    obtain ⟨p, hl', h0'⟩ := Option.bind_eq_some_iff.1 h0'
    refine wpV_block ?_
    refine wpV_loopM (fun s' e' => ∃ x13 s_4 s_5 s_6 c_1, s' = (x13, s_4, s_5, s_6, c_1) ∧ e' = { N := 32, np := 1, nx := 3, sl := [(0, .pl (.one (.ref 0 []))), (2, .pl (.one (.ref 1 []))), (3, .pl (.one (.ref 2 []))), (12, .pl (.one (.v (.sc (.int .i64 x12.1))))), (13, .pl (.one (.v (.sc (.int .i64 x13)))))], ob := [(0, .box true [.sc (.string s_4), .sc (.int .i64 s_5), .sc (.bool s_6)]), (1, .box true [.list true 1 (List.map (rK .i64) []), .sc (.string (ByteArray.mk #[])), .list true 3 (List.map (r_T_impl_Name true) [])]), (2, .box true [.list true 1 (List.map (rK .i64) x6.1), .sc (.string x9.1), .list true 3 (List.map (r_T_impl_Name true) c_1)])] }) hl' (shd [0, 2, 3, 12, 13] [(0, 0), (1, 1), (3, 2)] 3 ⟨_, _, _, _, _, rfl, rfl⟩) ?_
    rintro s' y1' e' h1' ⟨x13, s_4, s_5, s_6, c_1, rfl, rfl⟩
    replace h1' : impl_scanner_commit_l1 x12 x13 s_4 s_5 s_6 c_1 = some y1' := h1'
    unfold impl_scanner_commit_l1 at h1'
    refine wpV_seq1 ?_
    refine wpV_region ?_
    refine ops H' ?_
    refine opsN ?_
    refine wpV_seq1 ?_
    refine wpV_split (fun hc' => ?_) (fun hc' => ?_)
    · replace h1' := (ifT hc').symm.trans h1'
      refine skipN ?_
      refine wpV_seq1 ?_
      refine wpV_block ?_
      refine wpV_seq1 ?_
      refine wpV_region ?_
      refine ops H' ?_
      obtain ⟨x16, hy', h1'⟩ := Option.bind_eq_some_iff.1 h1'
      refine callG H' (fun _ => [0]) (W_impl_scanner_short _ _ hy') ?_
      refine ops H' ?_
      refine opsN ?_
      refine wpV_seq1 ?_
      refine wpV_region ?_
      refine ops H' ?_
      obtain ⟨x19, hy', h1'⟩ := Option.bind_eq_some_iff.1 h1'
      refine callG H' (fun _ => [0]) (W_impl_scanner_number _ _ hy') ?_
      refine ops H' ?_
      refine opsN ?_
      refine wpV_seq1 ?_
      refine wpV_region ?_
      refine ops H' ?_
      obtain ⟨x22, hy', h1'⟩ := Option.bind_eq_some_iff.1 h1'
      refine callG H' (fun _ => [0]) (W_impl_scanner_number _ _ hy') ?_
      refine ops H' ?_
      refine opsN ?_
      refine wpV_region ?_
      obtain ⟨l, hv', h1'⟩ := Option.bind_eq_some_iff.1 h1'
      have H' := And.intro (app1_f hv') H'
      refine ops H' ?_
      refine opsN ?_
      refine wpV_region ?_
      refine ops H' ?_
      refine opsN ?_
      obtain rfl := Option.some.inj h1'
      exact shd [0, 2, 3, 12, 13] [(0, 0), (1, 1), (2, 2)] 3 ⟨_, rfl, _, _, _, _, _, rfl, rfl⟩
    · replace h1' := (ifF hc').symm.trans h1'
      refine exitN ?_
      obtain rfl := Option.some.inj h1'
      refine ⟨_, rfl, fun hr' => ?_⟩
      subst hr'
      exact shd [2, 3] [(0, 0), (1, 1), (2, 2)] 3 ⟨_, _, _, _, h0', rfl⟩
  · rintro e' ⟨s_1, s_2, s_3, c, h0', rfl⟩
    unfold impl_scanner_commit_j1 at h0'
    refine wpV_seq1 ?_
    refine wpV_region ?_
    refine ops H' ?_
    refine opsN ?_
    refine retN ?_
    obtain rfl := Option.some.inj h0'
    exact outC H' rfl rfl
theorem W_impl_scanner_done (s : T_impl_scanner) (r' : Bool) (h0' : impl_scanner_done s = some r') : Fn X 64 [.one (.box false [.sc (.string s.text), .sc (.int .i64 s.at_), .sc (.bool s.bad)])] [.one (.sc (.bool r'))] [] := by
  have H' := And.intro t3 (And.intro t4 (And.intro t9 (t90)))
  unfold impl_scanner_done at h0'
  refine Fn.start (fn := f64) (N := 20) (res := [.tmp 2]) rfl rfl rfl rfl rfl (by simp) ?_
  refine enterG H' ?_
  refine wpV_seq1 ?_
  refine wpV_region ?_
  refine ops H' ?_
  refine opsN ?_
  refine wpV_seq1 ?_
  refine regQ ?_
  refine ops H' ?_
  obtain ⟨b, gh0', h0'⟩ := Option.bind_eq_some_iff.1 h0'
  refine quV_cut 11 (fun e' => e' = { N := 20, np := 1, nx := 1, sl := [(19, .pl (.one (.v (.sc (.bool b)))))], ob := [] }) ?_ ?_
  · simp only [List.take_succ_cons, List.take_zero]
    refine quV_sp (fun hc' => ?_) (fun hc' => ?_)
    · replace gh0' := (ifT hc').symm.trans gh0'
      refine ops H' ?_
      obtain rfl := Option.some.inj gh0'
      refine quV_nil ?_
      exact ⟨rfl, shd [19] [] 1 rfl⟩
    · replace gh0' := (ifF hc').symm.trans gh0'
      refine ops H' ?_
      obtain rfl := Option.some.inj gh0'
      refine quV_nil ?_
      exact ⟨rfl, shd [19] [] 1 rfl⟩
  · rintro e' rfl
    simp only [List.drop_succ_cons, List.drop_zero]
    refine ops H' ?_
    refine quN ?_
    refine retN ?_
    obtain rfl := Option.some.inj h0'
    exact outG H' rfl rfl
theorem W_impl_ReadCommits (text : ByteArray) (r' : (List T_impl_Commit) × Bool) (h0' : impl_ReadCommits text = some r') : Fn X 13 [.one (.sc (.string text))] [.one (.list true 3 (List.map (r_T_impl_Commit true) r'.1)), .one (.sc (.bool r'.2))] [] := by
  have H' := And.intro t3 (And.intro t4 (And.intro t9 (And.intro t22 (And.intro t85 (And.intro t90 (And.intro R_T_impl_Commit (And.intro R_T_impl_Name (R_i64))))))))
  unfold impl_ReadCommits at h0'
  refine Fn.start (fn := f13) (N := 31) (res := [.tmp 2, .tmp 3]) rfl rfl rfl rfl rfl (by simp) ?_
  refine enterG H' ?_
  refine wpV_seq1 ?_
  refine wpV_region ?_
  refine opsV_nilA H' 3 ?_
  refine ops H' ?_
  refine opsN ?_
  refine wpV_seq1 ?_
  refine wpV_region ?_
  refine ops H' ?_
  obtain ⟨x11, hy', h0'⟩ := Option.bind_eq_some_iff.1 h0'
  refine callG H' (fun _ => []) (W_impl_Unsealed _ _ hy') ?_
  refine ops H' ?_
  refine opsN ?_
  refine wpV_seq1 ?_
  refine wpV_region ?_
  refine ops H' ?_
  refine opsN ?_
  refine wpV_seq1 ?_
  refine wpV_region ?_
  obtain ⟨x18, hy', h0'⟩ := Option.bind_eq_some_iff.1 h0'
  refine callG H' (fun _ => [0]) (W_impl_scanner_mark _ _ _ hy') ?_
  refine opsN ?_
  refine wpV_seq1 ?_
  refine wpV_region ?_
  refine opsV_nilA H' 3 ?_
  refine opsN ?_
  refine wpV_seqJ (fun e' => ∃ s s_1 s_2 list_, impl_ReadCommits_j1 s s_1 s_2 list_ = some r' ∧ e' = { N := 31, np := 1, nx := 3, sl := [(6, .pl (.one (.ref 1 []))), (7, .pl (.one (.ref 2 [])))], ob := [(1, .box true [.sc (.string s), .sc (.int .i64 s_1), .sc (.bool s_2)]), (2, .list true 3 (List.map (r_T_impl_Commit true) list_))] }) ?_ ?_
  · refine wpV_seq1 ?_
    refine wpV_region ?_
    obtain ⟨x19, hy', h0'⟩ := Option.bind_eq_some_iff.1 h0'
    refine callG H' (fun _ => [0]) (W_impl_scanner_count _ _ _ hy') ?_
    refine ops H' ?_
    refine opsN ?_
    obtain ⟨p, hl', h0'⟩ := Option.bind_eq_some_iff.1 h0'
    refine wpV_block ?_
    refine wpV_loopM (fun s' e' => ∃ x20 s_3 s_4 s_5 list__1, s' = (x20, s_3, s_4, s_5, list__1) ∧ e' = { N := 31, np := 1, nx := 3, sl := [(6, .pl (.one (.ref 1 []))), (7, .pl (.one (.ref 2 []))), (19, .pl (.one (.v (.sc (.int .i64 x19.1))))), (20, .pl (.one (.v (.sc (.int .i64 x20)))))], ob := [(1, .box true [.sc (.string s_3), .sc (.int .i64 s_4), .sc (.bool s_5)]), (2, .list true 3 (List.map (r_T_impl_Commit true) list__1))] }) hl' (shd [6, 7, 19, 20] [(4, 1), (5, 2)] 3 ⟨_, _, _, _, _, rfl, rfl⟩) ?_
    rintro s' y1' e' h1' ⟨x20, s_3, s_4, s_5, list__1, rfl, rfl⟩
    replace h1' : impl_ReadCommits_l1 x19 x20 s_3 s_4 s_5 list__1 = some y1' := h1'
    unfold impl_ReadCommits_l1 at h1'
    refine wpV_seq1 ?_
    refine wpV_region ?_
    refine ops H' ?_
    refine opsN ?_
    refine wpV_seq1 ?_
    refine wpV_split (fun hc' => ?_) (fun hc' => ?_)
    · replace h1' := (ifT hc').symm.trans h1'
      refine skipN ?_
      refine wpV_seq1 ?_
      refine wpV_block ?_
      refine wpV_seq1 ?_
      refine wpV_region ?_
      obtain ⟨x22, hy', h1'⟩ := Option.bind_eq_some_iff.1 h1'
      refine callG H' (fun _ => [0]) (W_impl_scanner_commit _ _ hy') ?_
      refine ops H' ?_
      refine opsN ?_
      refine wpV_region ?_
      obtain ⟨l, hv', h1'⟩ := Option.bind_eq_some_iff.1 h1'
      have H' := And.intro (app1_f hv') H'
      refine ops H' ?_
      refine opsN ?_
      refine wpV_region ?_
      refine ops H' ?_
      refine opsN ?_
      obtain rfl := Option.some.inj h1'
      exact shd [6, 7, 19, 20] [(1, 1), (2, 2)] 3 ⟨_, rfl, _, _, _, _, _, rfl, rfl⟩
    · replace h1' := (ifF hc').symm.trans h1'
      refine exitN ?_
      obtain rfl := Option.some.inj h1'
      refine ⟨_, rfl, fun hr' => ?_⟩
      subst hr'
      exact shd [6, 7] [(1, 1), (2, 2)] 3 ⟨_, _, _, _, h0', rfl⟩
  · rintro e' ⟨s, s_1, s_2, list_, h0', rfl⟩
    unfold impl_ReadCommits_j1 at h0'
    refine wpV_seq1 ?_
    refine wpV_seq1 ?_
    refine wpV_region ?_
    obtain ⟨x28, hy', h0'⟩ := Option.bind_eq_some_iff.1 h0'
    refine callG H' (fun _ => []) (W_impl_scanner_done _ _ hy') ?_
    refine ops H' ?_
    refine opsN ?_
    refine wpV_split (fun hc' => ?_) (fun hc' => ?_)
    · replace h0' := (ifT hc').symm.trans h0'
      refine wpV_seq1 ?_
      refine wpV_region ?_
      refine opsV_nilA H' 3 ?_
      refine ops H' ?_
      refine opsN ?_
      refine retN ?_
      obtain rfl := Option.some.inj h0'
      exact outG H' rfl rfl
    · replace h0' := (ifF hc').symm.trans h0'
      refine skipN ?_
      refine wpV_seq1 ?_
      refine wpV_region ?_
      refine ops H' ?_
      refine opsN ?_
      refine retN ?_
      obtain rfl := Option.some.inj h0'
      exact outG H' rfl rfl
theorem W_laws_eqIntS (a : List Int) (b : List Int) (r' : Bool) (h0' : laws_eqIntS a b = some r') : Fn X 37 [.one (.list false 1 (List.map (rK .i64) a)), .one (.list false 1 (List.map (rK .i64) b))] [.one (.sc (.bool r'))] [] := by
  have H' := And.intro t3 (And.intro t44 (R_i64))
  unfold laws_eqIntS at h0'
  refine Fn.start (fn := f37) (N := 26) (res := [.tmp 4]) rfl rfl rfl rfl rfl (by simp) ?_
  refine enterG H' ?_
  refine wpV_seq1 ?_
  refine wpV_region ?_
  refine ops H' ?_
  refine opsN ?_
  refine wpV_seq1 ?_
  refine wpV_seq1 ?_
  refine wpV_region ?_
  refine ops H' ?_
  refine opsN ?_
  refine wpV_split (fun hc' => ?_) (fun hc' => ?_)
  · replace h0' := (ifT hc').symm.trans h0'
    refine wpV_seq1 ?_
    refine wpV_region ?_
    refine ops H' ?_
    refine opsN ?_
    refine retN ?_
    obtain rfl := Option.some.inj h0'
    exact outG H' rfl rfl
  · replace h0' := (ifF hc').symm.trans h0'
    refine skipN ?_
    refine wpV_seqJ (fun e' => laws_eqIntS_j1 = some r' ∧ e' = { N := 26, np := 2, nx := 2, sl := [], ob := [] }) ?_ ?_
    · refine wpV_seq1 ?_
      refine wpV_region ?_
      refine ops H' ?_
      refine opsN ?_
      obtain ⟨p, hl', h0'⟩ := Option.bind_eq_some_iff.1 h0'
      refine wpV_block ?_
      refine wpV_loopM (fun i e' => e' = { N := 26, np := 2, nx := 2, sl := [(0, .pl (.one (.v (.list false 1 (List.map (rK .i64) a))))), (1, .pl (.one (.v (.list false 1 (List.map (rK .i64) b))))), (5, .pl (.one (.v (.sc (.int .i64 i)))))], ob := [] }) hl' (shd [0, 1, 5] [] 2 rfl) ?_
      rintro i y1' e' h1' rfl
      replace h1' : laws_eqIntS_l1 a b i = some y1' := h1'
      unfold laws_eqIntS_l1 at h1'
      refine wpV_seq1 ?_
      refine wpV_seq1 ?_
      refine wpV_region ?_
      refine ops H' ?_
      refine opsN ?_
      refine wpV_split (fun hc' => ?_) (fun hc' => ?_)
      · replace h1' := (ifT hc').symm.trans h1'
        refine skipN ?_
        refine wpV_seq1 ?_
        refine wpV_block ?_
        refine wpV_seq1 ?_
        refine regQ ?_
        obtain ⟨x, hv', h1'⟩ := Option.bind_eq_some_iff.1 h1'
        have H' := And.intro (geti_f hv') H'
        obtain ⟨x_1, hv', h1'⟩ := Option.bind_eq_some_iff.1 h1'
        have H' := And.intro (geti_f hv') H'
        refine ops H' ?_
        refine quN ?_
        refine wpV_split (fun hc' => ?_) (fun hc' => ?_)
        · replace h1' := (ifT hc').symm.trans h1'
          refine wpV_seq1 ?_
          refine wpV_region ?_
          refine ops H' ?_
          refine opsN ?_
          refine retN ?_
          obtain rfl := Option.some.inj h1'
          refine ⟨_, rfl, fun hr' => ?_⟩
          subst hr'
          obtain rfl := Option.some.inj h0'
          exact outG H' rfl rfl
        · replace h1' := (ifF hc').symm.trans h1'
          refine skipN ?_
          refine wpV_region ?_
          refine ops H' ?_
          refine opsN ?_
          obtain rfl := Option.some.inj h1'
          exact shd [0, 1, 5] [] 2 ⟨_, rfl, rfl⟩
      · replace h1' := (ifF hc').symm.trans h1'
        refine exitN ?_
        obtain rfl := Option.some.inj h1'
        refine ⟨_, rfl, fun hr' => ?_⟩
        subst hr'
        exact shd [] [] 2 ⟨h0', rfl⟩
    · rintro e' ⟨h0', rfl⟩
      unfold laws_eqIntS_j1 at h0'
      refine wpV_seq1 ?_
      refine wpV_region ?_
      refine ops H' ?_
      refine opsN ?_
      refine retN ?_
      obtain rfl := Option.some.inj h0'
      exact outG H' rfl rfl
theorem W_laws_eqName (a : T_impl_Name) (b : T_impl_Name) (r' : Bool) (h0' : laws_eqName a b = some r') : Fn X 185 [.agg [.sc (.string a.Path), .sc (.int .i64 a.Id), .sc (.int .i64 a.Version)], .agg [.sc (.string b.Path), .sc (.int .i64 b.Id), .sc (.int .i64 b.Version)]] [.one (.sc (.bool r'))] [] := by
  have H' := And.intro t3 (And.intro t9 (t88))
  unfold laws_eqName at h0'
  refine Fn.start (fn := f185) (N := 20) (res := [.tmp 4]) rfl rfl rfl rfl rfl (by simp) ?_
  refine enterG H' ?_
  refine wpV_seq1 ?_
  refine wpV_region ?_
  refine ops H' ?_
  refine opsN ?_
  refine wpV_seq1 ?_
  refine wpV_seq1 ?_
  refine wpV_region ?_
  refine ops H' ?_
  refine opsN ?_
  refine wpV_split (fun hc' => ?_) (fun hc' => ?_)
  · replace h0' := (ifT hc').symm.trans h0'
    refine wpV_seq1 ?_
    refine wpV_region ?_
    refine ops H' ?_
    refine opsN ?_
    refine retN ?_
    obtain rfl := Option.some.inj h0'
    exact outG H' rfl rfl
  · replace h0' := (ifF hc').symm.trans h0'
    refine skipN ?_
    refine wpV_seq1 ?_
    refine wpV_seq1 ?_
    refine wpV_region ?_
    refine ops H' ?_
    refine opsN ?_
    refine wpV_split (fun hc' => ?_) (fun hc' => ?_)
    · replace h0' := (ifT hc').symm.trans h0'
      refine wpV_seq1 ?_
      refine wpV_region ?_
      refine ops H' ?_
      refine opsN ?_
      refine retN ?_
      obtain rfl := Option.some.inj h0'
      exact outG H' rfl rfl
    · replace h0' := (ifF hc').symm.trans h0'
      refine skipN ?_
      refine wpV_seq1 ?_
      refine wpV_seq1 ?_
      refine wpV_region ?_
      refine ops H' ?_
      refine opsN ?_
      refine wpV_split (fun hc' => ?_) (fun hc' => ?_)
      · replace h0' := (ifT hc').symm.trans h0'
        refine wpV_seq1 ?_
        refine wpV_region ?_
        refine ops H' ?_
        refine opsN ?_
        refine retN ?_
        obtain rfl := Option.some.inj h0'
        exact outG H' rfl rfl
      · replace h0' := (ifF hc').symm.trans h0'
        refine skipN ?_
        refine wpV_seq1 ?_
        refine wpV_region ?_
        refine ops H' ?_
        refine opsN ?_
        refine retN ?_
        obtain rfl := Option.some.inj h0'
        exact outG H' rfl rfl
theorem W_laws_eqNameS (a : List T_impl_Name) (b : List T_impl_Name) (r' : Bool) (h0' : laws_eqNameS a b = some r') : Fn X 148 [.one (.list false 3 (List.map (r_T_impl_Name false) a)), .one (.list false 3 (List.map (r_T_impl_Name false) b))] [.one (.sc (.bool r'))] [] := by
  have H' := And.intro t3 (And.intro t83 (And.intro t88 (R_T_impl_Name)))
  unfold laws_eqNameS at h0'
  refine Fn.start (fn := f148) (N := 27) (res := [.tmp 4]) rfl rfl rfl rfl rfl (by simp) ?_
  refine enterG H' ?_
  refine wpV_seq1 ?_
  refine wpV_region ?_
  refine ops H' ?_
  refine opsN ?_
  refine wpV_seq1 ?_
  refine wpV_seq1 ?_
  refine wpV_region ?_
  refine ops H' ?_
  refine opsN ?_
  refine wpV_split (fun hc' => ?_) (fun hc' => ?_)
  · replace h0' := (ifT hc').symm.trans h0'
    refine wpV_seq1 ?_
    refine wpV_region ?_
    refine ops H' ?_
    refine opsN ?_
    refine retN ?_
    obtain rfl := Option.some.inj h0'
    exact outG H' rfl rfl
  · replace h0' := (ifF hc').symm.trans h0'
    refine skipN ?_
    refine wpV_seqJ (fun e' => laws_eqNameS_j1 = some r' ∧ e' = { N := 27, np := 2, nx := 2, sl := [], ob := [] }) ?_ ?_
    · refine wpV_seq1 ?_
      refine wpV_region ?_
      refine ops H' ?_
      refine opsN ?_
      obtain ⟨p, hl', h0'⟩ := Option.bind_eq_some_iff.1 h0'
      refine wpV_block ?_
      refine wpV_loopM (fun i e' => e' = { N := 27, np := 2, nx := 2, sl := [(0, .pl (.one (.v (.list false 3 (List.map (r_T_impl_Name false) a))))), (1, .pl (.one (.v (.list false 3 (List.map (r_T_impl_Name false) b))))), (5, .pl (.one (.v (.sc (.int .i64 i)))))], ob := [] }) hl' (shd [0, 1, 5] [] 2 rfl) ?_
      rintro i y1' e' h1' rfl
      replace h1' : laws_eqNameS_l1 a b i = some y1' := h1'
      unfold laws_eqNameS_l1 at h1'
      refine wpV_seq1 ?_
      refine wpV_seq1 ?_
      refine wpV_region ?_
      refine ops H' ?_
      refine opsN ?_
      refine wpV_split (fun hc' => ?_) (fun hc' => ?_)
      · replace h1' := (ifT hc').symm.trans h1'
        refine skipN ?_
        refine wpV_seq1 ?_
        refine wpV_block ?_
        refine wpV_seq1 ?_
        refine regQ ?_
        obtain ⟨x, hv', h1'⟩ := Option.bind_eq_some_iff.1 h1'
        have H' := And.intro (geti_f hv') H'
        obtain ⟨x_1, hv', h1'⟩ := Option.bind_eq_some_iff.1 h1'
        have H' := And.intro (geti_f hv') H'
        refine ops H' ?_
        obtain ⟨x25, hy', h1'⟩ := Option.bind_eq_some_iff.1 h1'
        refine callGQ H' (W_laws_eqName _ _ _ hy') ?_
        refine ops H' ?_
        refine quN ?_
        refine wpV_split (fun hc' => ?_) (fun hc' => ?_)
        · replace h1' := (ifT hc').symm.trans h1'
          refine wpV_seq1 ?_
          refine wpV_region ?_
          refine ops H' ?_
          refine opsN ?_
          refine retN ?_
          obtain rfl := Option.some.inj h1'
          refine ⟨_, rfl, fun hr' => ?_⟩
          subst hr'
          obtain rfl := Option.some.inj h0'
          exact outG H' rfl rfl
        · replace h1' := (ifF hc').symm.trans h1'
          refine skipN ?_
          refine wpV_region ?_
          refine ops H' ?_
          refine opsN ?_
          obtain rfl := Option.some.inj h1'
          exact shd [0, 1, 5] [] 2 ⟨_, rfl, rfl⟩
      · replace h1' := (ifF hc').symm.trans h1'
        refine exitN ?_
        obtain rfl := Option.some.inj h1'
        refine ⟨_, rfl, fun hr' => ?_⟩
        subst hr'
        exact shd [] [] 2 ⟨h0', rfl⟩
    · rintro e' ⟨h0', rfl⟩
      unfold laws_eqNameS_j1 at h0'
      refine wpV_seq1 ?_
      refine wpV_region ?_
      refine ops H' ?_
      refine opsN ?_
      refine retN ?_
      obtain rfl := Option.some.inj h0'
      exact outG H' rfl rfl
theorem W_laws_eqCommit (a : T_impl_Commit) (b : T_impl_Commit) (r' : Bool) (h0' : laws_eqCommit a b = some r') : Fn X 65 [.agg [.list false 1 (List.map (rK .i64) a.Parents), .sc (.string a.Note), .list false 3 (List.map (r_T_impl_Name false) a.Names)], .agg [.list false 1 (List.map (rK .i64) b.Parents), .sc (.string b.Note), .list false 3 (List.map (r_T_impl_Name false) b.Names)]] [.one (.sc (.bool r'))] [] := by
  have H' := And.intro t9 (And.intro t44 (And.intro t83 (And.intro t85 (And.intro R_T_impl_Name (R_i64)))))
  unfold laws_eqCommit at h0'
  refine Fn.start (fn := f65) (N := 22) (res := [.tmp 4]) rfl rfl rfl rfl rfl (by simp) ?_
  refine enterG H' ?_
  refine wpV_seq1 ?_
  refine wpV_region ?_
  refine ops H' ?_
  refine opsN ?_
  refine wpV_seq1 ?_
  refine wpV_seq1 ?_
  refine wpV_region ?_
  refine ops H' ?_
  obtain ⟨x9, hy', h0'⟩ := Option.bind_eq_some_iff.1 h0'
  refine callG H' (fun _ => []) (W_laws_eqIntS _ _ _ hy') ?_
  refine ops H' ?_
  refine opsN ?_
  refine wpV_split (fun hc' => ?_) (fun hc' => ?_)
  · replace h0' := (ifT hc').symm.trans h0'
    refine wpV_seq1 ?_
    refine wpV_region ?_
    refine ops H' ?_
    refine opsN ?_
    refine retN ?_
    obtain rfl := Option.some.inj h0'
    exact outG H' rfl rfl
  · replace h0' := (ifF hc').symm.trans h0'
    refine skipN ?_
    refine wpV_seq1 ?_
    refine wpV_seq1 ?_
    refine wpV_region ?_
    refine ops H' ?_
    refine opsN ?_
    refine wpV_split (fun hc' => ?_) (fun hc' => ?_)
    · replace h0' := (ifT hc').symm.trans h0'
      refine wpV_seq1 ?_
      refine wpV_region ?_
      refine ops H' ?_
      refine opsN ?_
      refine retN ?_
      obtain rfl := Option.some.inj h0'
      exact outG H' rfl rfl
    · replace h0' := (ifF hc').symm.trans h0'
      refine skipN ?_
      refine wpV_seq1 ?_
      refine wpV_seq1 ?_
      refine wpV_region ?_
      refine ops H' ?_
      obtain ⟨x20, hy', h0'⟩ := Option.bind_eq_some_iff.1 h0'
      refine callG H' (fun _ => []) (W_laws_eqNameS _ _ _ hy') ?_
      refine ops H' ?_
      refine opsN ?_
      refine wpV_split (fun hc' => ?_) (fun hc' => ?_)
      · replace h0' := (ifT hc').symm.trans h0'
        refine wpV_seq1 ?_
        refine wpV_region ?_
        refine ops H' ?_
        refine opsN ?_
        refine retN ?_
        obtain rfl := Option.some.inj h0'
        exact outG H' rfl rfl
      · replace h0' := (ifF hc').symm.trans h0'
        refine skipN ?_
        refine wpV_seq1 ?_
        refine wpV_region ?_
        refine ops H' ?_
        refine opsN ?_
        refine retN ?_
        obtain rfl := Option.some.inj h0'
        exact outG H' rfl rfl
theorem W_laws_eqCommitS (a : List T_impl_Commit) (b : List T_impl_Commit) (r' : Bool) (h0' : laws_eqCommitS a b = some r') : Fn X 14 [.one (.list false 3 (List.map (r_T_impl_Commit false) a)), .one (.list false 3 (List.map (r_T_impl_Commit false) b))] [.one (.sc (.bool r'))] [] := by
  have H' := And.intro t3 (And.intro t22 (And.intro t85 (And.intro R_T_impl_Commit (And.intro R_T_impl_Name (R_i64)))))
  unfold laws_eqCommitS at h0'
  refine Fn.start (fn := f14) (N := 27) (res := [.tmp 4]) rfl rfl rfl rfl rfl (by simp) ?_
  refine enterG H' ?_
  refine wpV_seq1 ?_
  refine wpV_region ?_
  refine ops H' ?_
  refine opsN ?_
  refine wpV_seq1 ?_
  refine wpV_seq1 ?_
  refine wpV_region ?_
  refine ops H' ?_
  refine opsN ?_
  refine wpV_split (fun hc' => ?_) (fun hc' => ?_)
  · replace h0' := (ifT hc').symm.trans h0'
    refine wpV_seq1 ?_
    refine wpV_region ?_
    refine ops H' ?_
    refine opsN ?_
    refine retN ?_
    obtain rfl := Option.some.inj h0'
    exact outG H' rfl rfl
  · replace h0' := (ifF hc').symm.trans h0'
    refine skipN ?_
    refine wpV_seqJ (fun e' => laws_eqCommitS_j1 = some r' ∧ e' = { N := 27, np := 2, nx := 2, sl := [], ob := [] }) ?_ ?_
    · refine wpV_seq1 ?_
      refine wpV_region ?_
      refine ops H' ?_
      refine opsN ?_
      obtain ⟨p, hl', h0'⟩ := Option.bind_eq_some_iff.1 h0'
      refine wpV_block ?_
      refine wpV_loopM (fun i e' => e' = { N := 27, np := 2, nx := 2, sl := [(0, .pl (.one (.v (.list false 3 (List.map (r_T_impl_Commit false) a))))), (1, .pl (.one (.v (.list false 3 (List.map (r_T_impl_Commit false) b))))), (5, .pl (.one (.v (.sc (.int .i64 i)))))], ob := [] }) hl' (shd [0, 1, 5] [] 2 rfl) ?_
      rintro i y1' e' h1' rfl
      replace h1' : laws_eqCommitS_l1 a b i = some y1' := h1'
      unfold laws_eqCommitS_l1 at h1'
      refine wpV_seq1 ?_
      refine wpV_seq1 ?_
      refine wpV_region ?_
      refine ops H' ?_
      refine opsN ?_
      refine wpV_split (fun hc' => ?_) (fun hc' => ?_)
      · replace h1' := (ifT hc').symm.trans h1'
        refine skipN ?_
        refine wpV_seq1 ?_
        refine wpV_block ?_
        refine wpV_seq1 ?_
        refine regQ ?_
        obtain ⟨x, hv', h1'⟩ := Option.bind_eq_some_iff.1 h1'
        have H' := And.intro (geti_f hv') H'
        obtain ⟨x_1, hv', h1'⟩ := Option.bind_eq_some_iff.1 h1'
        have H' := And.intro (geti_f hv') H'
        refine ops H' ?_
        obtain ⟨x25, hy', h1'⟩ := Option.bind_eq_some_iff.1 h1'
        refine callGQ H' (W_laws_eqCommit _ _ _ hy') ?_
        refine ops H' ?_
        refine quN ?_
        refine wpV_split (fun hc' => ?_) (fun hc' => ?_)
        · replace h1' := (ifT hc').symm.trans h1'
          refine wpV_seq1 ?_
          refine wpV_region ?_
          refine ops H' ?_
          refine opsN ?_
          refine retN ?_
          obtain rfl := Option.some.inj h1'
          refine ⟨_, rfl, fun hr' => ?_⟩
          subst hr'
          obtain rfl := Option.some.inj h0'
          exact outG H' rfl rfl
        · replace h1' := (ifF hc').symm.trans h1'
          refine skipN ?_
          refine wpV_region ?_
          refine ops H' ?_
          refine opsN ?_
          obtain rfl := Option.some.inj h1'
          exact shd [0, 1, 5] [] 2 ⟨_, rfl, rfl⟩
      · replace h1' := (ifF hc').symm.trans h1'
        refine exitN ?_
        obtain rfl := Option.some.inj h1'
        refine ⟨_, rfl, fun hr' => ?_⟩
        subst hr'
        exact shd [] [] 2 ⟨h0', rfl⟩
    · rintro e' ⟨h0', rfl⟩
      unfold laws_eqCommitS_j1 at h0'
      refine wpV_seq1 ?_
      refine wpV_region ?_
      refine ops H' ?_
      refine opsN ?_
      refine retN ?_
      obtain rfl := Option.some.inj h0'
      exact outG H' rfl rfl
theorem W_laws_markIntS (a : List Int) (k : Int) (r' : Int × (List Int)) (h0' : laws_markIntS a k = some r') : Fn X 39 [.one (.list true 1 (List.map (rK .i64) a)), .one (.sc (.int .i64 k))] [.one (.sc (.int .i64 r'.1))] [(0, .list true 1 (List.map (rK .i64) r'.2))] := by
  have H' := And.intro t3 (And.intro t44 (R_i64))
  unfold laws_markIntS at h0'
  refine Fn.start (fn := f39) (N := 19) (res := [.tmp 4]) rfl rfl rfl rfl rfl (by simp) ?_
  refine enterG H' ?_
  refine wpV_seq1 ?_
  refine wpV_region ?_
  refine ops H' ?_
  refine opsN ?_
  refine wpV_seqJ (fun e' => ∃ k_1 a_1, laws_markIntS_j1 k_1 a_1 = some r' ∧ e' = { N := 19, np := 2, nx := 2, sl := [(1, .pl (.one (.v (.sc (.int .i64 k_1)))))], ob := [(0, .list true 1 (List.map (rK .i64) a_1))] }) ?_ ?_
  · refine wpV_seq1 ?_
    refine wpV_region ?_
    refine ops H' ?_
    refine opsN ?_
    obtain ⟨p, hl', h0'⟩ := Option.bind_eq_some_iff.1 h0'
    refine wpV_block ?_
    refine wpV_loopM (fun s' e' => ∃ k_2 i a_2, s' = (k_2, i, a_2) ∧ e' = { N := 19, np := 2, nx := 2, sl := [(0, .pl (.one (.ref 0 []))), (1, .pl (.one (.v (.sc (.int .i64 k_2))))), (5, .pl (.one (.v (.sc (.int .i64 i)))))], ob := [(0, .list true 1 (List.map (rK .i64) a_2))] }) hl' (shd [0, 1, 5] [(0, 0)] 2 ⟨_, _, _, rfl, rfl⟩) ?_
    rintro s' y1' e' h1' ⟨k_2, i, a_2, rfl, rfl⟩
    replace h1' : laws_markIntS_l1 k_2 i a_2 = some y1' := h1'
    unfold laws_markIntS_l1 at h1'
    refine wpV_seq1 ?_
    refine wpV_seq1 ?_
    refine wpV_region ?_
    refine ops H' ?_
    refine opsN ?_
    refine wpV_split (fun hc' => ?_) (fun hc' => ?_)
    · replace h1' := (ifT hc').symm.trans h1'
      refine skipN ?_
      refine wpV_seq1 ?_
      refine wpV_block ?_
      refine wpV_seq1 ?_
      refine wpV_region ?_
      obtain ⟨x, hv', h1'⟩ := Option.bind_eq_some_iff.1 h1'
      have H' := And.intro (geti_f hv') H'
      refine ops H' ?_
      refine opsN ?_
      refine wpV_region ?_
      refine ops H' ?_
      refine opsN ?_
      refine wpV_region ?_
      refine ops H' ?_
      refine opsN ?_
      obtain rfl := Option.some.inj h1'
      exact shd [0, 1, 5] [(0, 0)] 2 ⟨_, rfl, _, _, _, rfl, rfl⟩
    · replace h1' := (ifF hc').symm.trans h1'
      refine exitN ?_
      obtain rfl := Option.some.inj h1'
      refine ⟨_, rfl, fun hr' => ?_⟩
      subst hr'
      exact shd [1] [(0, 0)] 2 ⟨_, _, h0', rfl⟩
  · rintro e' ⟨k_1, a_1, h0', rfl⟩
    unfold laws_markIntS_j1 at h0'
    refine wpV_seq1 ?_
    refine wpV_region ?_
    refine ops H' ?_
    refine opsN ?_
    refine retN ?_
    obtain rfl := Option.some.inj h0'
    exact outG H' rfl rfl
theorem W_laws_markText (k : Int) (r' : ByteArray) (h0' : laws_markText k = some r') : Fn X 66 [.one (.sc (.int .i64 k))] [.one (.sc (.string r'))] [] := by
  have H' := And.intro t3 (And.intro t5 (And.intro t9 (t36)))
  unfold laws_markText at h0'
  refine Fn.start (fn := f66) (N := 20) (res := [.tmp 2]) rfl rfl rfl rfl rfl (by simp) ?_
  refine enterG H' ?_
  refine wpV_seq1 ?_
  refine wpV_region ?_
  refine ops H' ?_
  refine opsN ?_
  refine wpV_seq1 ?_
  refine wpV_seq1 ?_
  refine wpV_region ?_
  refine ops H' ?_
  refine opsN ?_
  refine wpV_split (fun hc' => ?_) (fun hc' => ?_)
  · replace h0' := (ifT hc').symm.trans h0'
    refine wpV_seq1 ?_
    refine wpV_region ?_
    refine ops H' ?_
    refine opsN ?_
    refine retN ?_
    obtain rfl := Option.some.inj h0'
    exact outG H' rfl rfl
  · replace h0' := (ifF hc').symm.trans h0'
    refine skipN ?_
    refine wpV_seq1 ?_
    refine wpV_region ?_
    refine ops H' ?_
    refine opsN ?_
    refine wpV_seqJ (fun e' => ∃ out_, laws_markText_j1 out_ = some r' ∧ e' = { N := 20, np := 1, nx := 1, sl := [(3, .pl (.one (.v (.sc (.string out_)))))], ob := [] }) ?_ ?_
    · obtain ⟨p, hl', h0'⟩ := Option.bind_eq_some_iff.1 h0'
      refine wpV_block ?_
      refine wpV_loopM (fun s' e' => ∃ k_1 out__1, s' = (k_1, out__1) ∧ e' = { N := 20, np := 1, nx := 1, sl := [(0, .pl (.one (.v (.sc (.int .i64 k_1))))), (3, .pl (.one (.v (.sc (.string out__1)))))], ob := [] }) hl' (shd [0, 3] [] 1 ⟨_, _, rfl, rfl⟩) ?_
      rintro s' y1' e' h1' ⟨k_1, out__1, rfl, rfl⟩
      replace h1' : laws_markText_l1 k_1 out__1 = some y1' := h1'
      unfold laws_markText_l1 at h1'
      refine wpV_seq1 ?_
      refine wpV_seq1 ?_
      refine wpV_region ?_
      refine ops H' ?_
      refine opsN ?_
      refine wpV_split (fun hc' => ?_) (fun hc' => ?_)
      · replace h1' := (ifT hc').symm.trans h1'
        refine skipN ?_
        refine wpV_block ?_
        refine wpV_seq1 ?_
        refine wpV_region ?_
        have H' := And.intro (show bytesOf [[V.sc (.int .u8 (wk .u8 (wk .i64 (48 + (k_1.tmod 10)))))]] = some [(wk .u8 (wk .i64 (48 + (k_1.tmod 10))))] from bytesOf_rK [(wk .u8 (wk .i64 (48 + (k_1.tmod 10))))]) H'
        obtain ⟨t_1, hv', h1'⟩ := Option.bind_eq_some_iff.1 h1'
        have H' := And.intro (sapp_f hv') H'
        refine ops H' ?_
        refine opsN ?_
        refine wpV_region ?_
        refine ops H' ?_
        refine opsN ?_
        obtain rfl := Option.some.inj h1'
        exact shd [0, 3] [] 1 ⟨_, rfl, _, _, rfl, rfl⟩
      · replace h1' := (ifF hc').symm.trans h1'
        refine exitN ?_
        obtain rfl := Option.some.inj h1'
        refine ⟨_, rfl, fun hr' => ?_⟩
        subst hr'
        exact shd [3] [] 1 ⟨_, h0', rfl⟩
    · rintro e' ⟨out_, h0', rfl⟩
      unfold laws_markText_j1 at h0'
      refine wpV_seq1 ?_
      refine wpV_region ?_
      obtain ⟨t, hv', h0'⟩ := Option.bind_eq_some_iff.1 h0'
      have H' := And.intro (sapp_f hv') H'
      refine ops H' ?_
      refine opsN ?_
      refine retN ?_
      obtain rfl := Option.some.inj h0'
      exact outG H' rfl rfl
theorem W_laws_markNameS (a : List T_impl_Name) (k : Int) (r' : Int × (List T_impl_Name)) (h0' : laws_markNameS a k = some r') : Fn X 67 [.one (.list true 3 (List.map (r_T_impl_Name true) a)), .one (.sc (.int .i64 k))] [.one (.sc (.int .i64 r'.1))] [(0, .list true 3 (List.map (r_T_impl_Name true) r'.2))] := by
  have H' := And.intro t3 (And.intro t9 (And.intro t83 (And.intro t88 (R_T_impl_Name))))
  unfold laws_markNameS at h0'
  refine Fn.start (fn := f67) (N := 35) (res := [.tmp 4]) rfl rfl rfl rfl rfl (by simp) ?_
  refine enterG H' ?_
  refine wpV_seq1 ?_
  refine wpV_region ?_
  refine ops H' ?_
  refine opsN ?_
  refine wpV_seqJ (fun e' => ∃ k_1 a_1, laws_markNameS_j1 k_1 a_1 = some r' ∧ e' = { N := 35, np := 2, nx := 2, sl := [(1, .pl (.one (.v (.sc (.int .i64 k_1)))))], ob := [(0, .list true 3 (List.map (r_T_impl_Name true) a_1))] }) ?_ ?_
  · refine wpV_seq1 ?_
    refine wpV_region ?_
    refine ops H' ?_
    refine opsN ?_
    obtain ⟨p, hl', h0'⟩ := Option.bind_eq_some_iff.1 h0'
    refine wpV_block ?_
    refine wpV_loopM (fun s' e' => ∃ k_2 i a_2, s' = (k_2, i, a_2) ∧ e' = { N := 35, np := 2, nx := 2, sl := [(0, .pl (.one (.ref 0 []))), (1, .pl (.one (.v (.sc (.int .i64 k_2))))), (5, .pl (.one (.v (.sc (.int .i64 i)))))], ob := [(0, .list true 3 (List.map (r_T_impl_Name true) a_2))] }) hl' (shd [0, 1, 5] [(0, 0)] 2 ⟨_, _, _, rfl, rfl⟩) ?_
    rintro s' y1' e' h1' ⟨k_2, i, a_2, rfl, rfl⟩
    replace h1' : laws_markNameS_l1 k_2 i a_2 = some y1' := h1'
    unfold laws_markNameS_l1 at h1'
    refine wpV_seq1 ?_
    refine wpV_seq1 ?_
    refine wpV_region ?_
    refine ops H' ?_
    refine opsN ?_
    refine wpV_split (fun hc' => ?_) (fun hc' => ?_)
    · replace h1' := (ifT hc').symm.trans h1'
      refine skipN ?_
      refine wpV_seq1 ?_
      refine wpV_block ?_
      refine wpV_seq1 ?_
      refine wpV_region ?_
      refine ops H' ?_
      obtain ⟨x15, hy', h1'⟩ := Option.bind_eq_some_iff.1 h1'
      refine callG H' (fun _ => []) (W_laws_markText _ _ hy') ?_
      obtain ⟨x, hv', h1'⟩ := Option.bind_eq_some_iff.1 h1'
      have H' := And.intro (geti_f hv') H'
      refine ops H' ?_
      refine opsN ?_
      refine wpV_seq1 ?_
      refine wpV_region ?_
      refine ops H' ?_
      refine opsN ?_
      refine wpV_seq1 ?_
      refine wpV_region ?_
      obtain ⟨x_1, hv', h1'⟩ := Option.bind_eq_some_iff.1 h1'
      have H' := And.intro (geti_f hv') H'
      refine ops H' ?_
      refine opsN ?_
      refine wpV_seq1 ?_
      refine wpV_region ?_
      refine ops H' ?_
      refine opsN ?_
      refine wpV_seq1 ?_
      refine wpV_region ?_
      obtain ⟨x_2, hv', h1'⟩ := Option.bind_eq_some_iff.1 h1'
      have H' := And.intro (geti_f hv') H'
      refine ops H' ?_
      refine opsN ?_
      refine wpV_region ?_
      refine ops H' ?_
      refine opsN ?_
      refine wpV_region ?_
      refine ops H' ?_
      refine opsN ?_
      obtain rfl := Option.some.inj h1'
      exact shd [0, 1, 5] [(0, 0)] 2 ⟨_, rfl, _, _, _, rfl, rfl⟩
    · replace h1' := (ifF hc').symm.trans h1'
      refine exitN ?_
      obtain rfl := Option.some.inj h1'
      refine ⟨_, rfl, fun hr' => ?_⟩
      subst hr'
      exact shd [1] [(0, 0)] 2 ⟨_, _, h0', rfl⟩
  · rintro e' ⟨k_1, a_1, h0', rfl⟩
    unfold laws_markNameS_j1 at h0'
    refine wpV_seq1 ?_
    refine wpV_region ?_
    refine ops H' ?_
    refine opsN ?_
    refine retN ?_
    obtain rfl := Option.some.inj h0'
    exact outG H' rfl rfl
theorem W_laws_markCommitS (a : List T_impl_Commit) (k : Int) (r' : Int × (List T_impl_Commit)) (h0' : laws_markCommitS a k = some r') : Fn X 15 [.one (.list true 3 (List.map (r_T_impl_Commit true) a)), .one (.sc (.int .i64 k))] [.one (.sc (.int .i64 r'.1))] [(0, .list true 3 (List.map (r_T_impl_Commit true) r'.2))] := by
  have H' := And.intro t3 (And.intro t9 (And.intro t22 (And.intro t44 (And.intro t83 (And.intro t85 (And.intro R_T_impl_Commit (And.intro R_T_impl_Name (R_i64))))))))
  unfold laws_markCommitS at h0'
  refine Fn.start (fn := f15) (N := 35) (res := [.tmp 4]) rfl rfl rfl rfl rfl (by simp) ?_
  refine enterG H' ?_
  refine wpV_seq1 ?_
  refine wpV_region ?_
  refine ops H' ?_
  refine opsN ?_
  refine wpV_seqJ (fun e' => ∃ k_1 a_1, laws_markCommitS_j1 k_1 a_1 = some r' ∧ e' = { N := 35, np := 2, nx := 2, sl := [(1, .pl (.one (.v (.sc (.int .i64 k_1)))))], ob := [(0, .list true 3 (List.map (r_T_impl_Commit true) a_1))] }) ?_ ?_
  · refine wpV_seq1 ?_
    refine wpV_region ?_
    refine ops H' ?_
    refine opsN ?_
    obtain ⟨p, hl', h0'⟩ := Option.bind_eq_some_iff.1 h0'
    refine wpV_block ?_
    refine wpV_loopM (fun s' e' => ∃ k_2 i a_2, s' = (k_2, i, a_2) ∧ e' = { N := 35, np := 2, nx := 2, sl := [(0, .pl (.one (.ref 0 []))), (1, .pl (.one (.v (.sc (.int .i64 k_2))))), (5, .pl (.one (.v (.sc (.int .i64 i)))))], ob := [(0, .list true 3 (List.map (r_T_impl_Commit true) a_2))] }) hl' (shd [0, 1, 5] [(0, 0)] 2 ⟨_, _, _, rfl, rfl⟩) ?_
    rintro s' y1' e' h1' ⟨k_2, i, a_2, rfl, rfl⟩
    replace h1' : laws_markCommitS_l1 k_2 i a_2 = some y1' := h1'
    unfold laws_markCommitS_l1 at h1'
    refine wpV_seq1 ?_
    refine wpV_seq1 ?_
    refine wpV_region ?_
    refine ops H' ?_
    refine opsN ?_
    refine wpV_split (fun hc' => ?_) (fun hc' => ?_)
    · replace h1' := (ifT hc').symm.trans h1'
      refine skipN ?_
      refine wpV_seq1 ?_
      refine wpV_block ?_
      refine wpV_seq1 ?_
      refine wpV_region ?_
      obtain ⟨x, hv', h1'⟩ := Option.bind_eq_some_iff.1 h1'
      have H' := And.intro (geti_f hv') H'
      refine ops H' ?_
      obtain ⟨x18, hy', h1'⟩ := Option.bind_eq_some_iff.1 h1'
      refine callG H' (fun _ => [0]) (W_laws_markIntS _ _ _ hy') ?_
      refine ops H' ?_
      refine opsN ?_
      refine wpV_seq1 ?_
      refine wpV_region ?_
      refine ops H' ?_
      obtain ⟨x22, hy', h1'⟩ := Option.bind_eq_some_iff.1 h1'
      refine callG H' (fun _ => []) (W_laws_markText _ _ hy') ?_
      obtain ⟨x_1, hv', h1'⟩ := Option.bind_eq_some_iff.1 h1'
      have H' := And.intro (geti_f hv') H'
      refine ops H' ?_
      refine opsN ?_
      refine wpV_seq1 ?_
      refine wpV_region ?_
      refine ops H' ?_
      refine opsN ?_
      refine wpV_region ?_
      obtain ⟨x_2, hv', h1'⟩ := Option.bind_eq_some_iff.1 h1'
      have H' := And.intro (geti_f hv') H'
      refine ops H' ?_
      obtain ⟨x33, hy', h1'⟩ := Option.bind_eq_some_iff.1 h1'
      refine callG H' (fun _ => [0]) (W_laws_markNameS _ _ _ hy') ?_
      refine ops H' ?_
      refine opsN ?_
      refine wpV_region ?_
      refine ops H' ?_
      refine opsN ?_
      obtain rfl := Option.some.inj h1'
      exact shd [0, 1, 5] [(0, 0)] 2 ⟨_, rfl, _, _, _, rfl, rfl⟩
    · replace h1' := (ifF hc').symm.trans h1'
      refine exitN ?_
      obtain rfl := Option.some.inj h1'
      refine ⟨_, rfl, fun hr' => ?_⟩
      subst hr'
      exact shd [1] [(0, 0)] 2 ⟨_, _, h0', rfl⟩
  · rintro e' ⟨k_1, a_1, h0', rfl⟩
    unfold laws_markCommitS_j1 at h0'
    refine wpV_seq1 ?_
    refine wpV_region ?_
    refine ops H' ?_
    refine opsN ?_
    refine retN ?_
    obtain rfl := Option.some.inj h0'
    exact outG H' rfl rfl
theorem W_laws_heldIntS (a : List Int) (k : Int) (r' : Int) (h0' : laws_heldIntS a k = some r') : Fn X 46 [.one (.list false 1 (List.map (rK .i64) a)), .one (.sc (.int .i64 k))] [.one (.sc (.int .i64 r'))] [] := by
  have H' := And.intro t3 (And.intro t44 (R_i64))
  unfold laws_heldIntS at h0'
  refine Fn.start (fn := f46) (N := 21) (res := [.tmp 4]) rfl rfl rfl rfl rfl (by simp) ?_
  refine enterG H' ?_
  refine wpV_seq1 ?_
  refine wpV_region ?_
  refine ops H' ?_
  refine opsN ?_
  refine wpV_seqJ (fun e' => ∃ k_1, laws_heldIntS_j1 k_1 = some r' ∧ e' = { N := 21, np := 2, nx := 2, sl := [(1, .pl (.one (.v (.sc (.int .i64 k_1)))))], ob := [] }) ?_ ?_
  · refine wpV_seq1 ?_
    refine wpV_region ?_
    refine ops H' ?_
    refine opsN ?_
    obtain ⟨p, hl', h0'⟩ := Option.bind_eq_some_iff.1 h0'
    refine wpV_block ?_
    refine wpV_loopM (fun s' e' => ∃ k_2 i, s' = (k_2, i) ∧ e' = { N := 21, np := 2, nx := 2, sl := [(0, .pl (.one (.v (.list false 1 (List.map (rK .i64) a))))), (1, .pl (.one (.v (.sc (.int .i64 k_2))))), (5, .pl (.one (.v (.sc (.int .i64 i)))))], ob := [] }) hl' (shd [0, 1, 5] [] 2 ⟨_, _, rfl, rfl⟩) ?_
    rintro s' y1' e' h1' ⟨k_2, i, rfl, rfl⟩
    replace h1' : laws_heldIntS_l1 a k_2 i = some y1' := h1'
    unfold laws_heldIntS_l1 at h1'
    refine wpV_seq1 ?_
    refine wpV_seq1 ?_
    refine wpV_region ?_
    refine ops H' ?_
    refine opsN ?_
    refine wpV_split (fun hc' => ?_) (fun hc' => ?_)
    · replace h1' := (ifT hc').symm.trans h1'
      refine skipN ?_
      refine wpV_seq1 ?_
      refine wpV_block ?_
      refine wpV_seq1 ?_
      refine wpV_seq1 ?_
      refine wpV_region ?_
      obtain ⟨x, hv', h1'⟩ := Option.bind_eq_some_iff.1 h1'
      have H' := And.intro (geti_f hv') H'
      refine ops H' ?_
      refine opsN ?_
      refine wpV_split (fun hc' => ?_) (fun hc' => ?_)
      · replace h1' := (ifT hc').symm.trans h1'
        refine wpV_seq1 ?_
        refine wpV_region ?_
        refine ops H' ?_
        refine opsN ?_
        refine retN ?_
        obtain rfl := Option.some.inj h1'
        refine ⟨_, rfl, fun hr' => ?_⟩
        subst hr'
        obtain rfl := Option.some.inj h0'
        exact outG H' rfl rfl
      · replace h1' := (ifF hc').symm.trans h1'
        refine skipN ?_
        refine wpV_region ?_
        refine ops H' ?_
        refine opsN ?_
        refine wpV_region ?_
        refine ops H' ?_
        refine opsN ?_
        obtain rfl := Option.some.inj h1'
        exact shd [0, 1, 5] [] 2 ⟨_, rfl, _, _, rfl, rfl⟩
    · replace h1' := (ifF hc').symm.trans h1'
      refine exitN ?_
      obtain rfl := Option.some.inj h1'
      refine ⟨_, rfl, fun hr' => ?_⟩
      subst hr'
      exact shd [1] [] 2 ⟨_, h0', rfl⟩
  · rintro e' ⟨k_1, h0', rfl⟩
    unfold laws_heldIntS_j1 at h0'
    refine wpV_seq1 ?_
    refine wpV_region ?_
    refine ops H' ?_
    refine opsN ?_
    refine retN ?_
    obtain rfl := Option.some.inj h0'
    exact outG H' rfl rfl
theorem W_laws_heldNameS (a : List T_impl_Name) (k : Int) (r' : Int) (h0' : laws_heldNameS a k = some r') : Fn X 68 [.one (.list false 3 (List.map (r_T_impl_Name false) a)), .one (.sc (.int .i64 k))] [.one (.sc (.int .i64 r'))] [] := by
  have H' := And.intro t3 (And.intro t9 (And.intro t83 (And.intro t88 (R_T_impl_Name))))
  unfold laws_heldNameS at h0'
  refine Fn.start (fn := f68) (N := 41) (res := [.tmp 4]) rfl rfl rfl rfl rfl (by simp) ?_
  refine enterG H' ?_
  refine wpV_seq1 ?_
  refine wpV_region ?_
  refine ops H' ?_
  refine opsN ?_
  refine wpV_seqJ (fun e' => ∃ k_1, laws_heldNameS_j1 k_1 = some r' ∧ e' = { N := 41, np := 2, nx := 2, sl := [(1, .pl (.one (.v (.sc (.int .i64 k_1)))))], ob := [] }) ?_ ?_
  · refine wpV_seq1 ?_
    refine wpV_region ?_
    refine ops H' ?_
    refine opsN ?_
    obtain ⟨p, hl', h0'⟩ := Option.bind_eq_some_iff.1 h0'
    refine wpV_block ?_
    refine wpV_loopM (fun s' e' => ∃ k_2 i, s' = (k_2, i) ∧ e' = { N := 41, np := 2, nx := 2, sl := [(0, .pl (.one (.v (.list false 3 (List.map (r_T_impl_Name false) a))))), (1, .pl (.one (.v (.sc (.int .i64 k_2))))), (5, .pl (.one (.v (.sc (.int .i64 i)))))], ob := [] }) hl' (shd [0, 1, 5] [] 2 ⟨_, _, rfl, rfl⟩) ?_
    rintro s' y1' e' h1' ⟨k_2, i, rfl, rfl⟩
    replace h1' : laws_heldNameS_l1 a k_2 i = some y1' := h1'
    unfold laws_heldNameS_l1 at h1'
    refine wpV_seq1 ?_
    refine wpV_seq1 ?_
    refine wpV_region ?_
    refine ops H' ?_
    refine opsN ?_
    refine wpV_split (fun hc' => ?_) (fun hc' => ?_)
    · replace h1' := (ifT hc').symm.trans h1'
      refine skipN ?_
      refine wpV_seq1 ?_
      refine wpV_block ?_
      refine wpV_seq1 ?_
      refine wpV_seq1 ?_
      refine regQ ?_
      obtain ⟨x, hv', h1'⟩ := Option.bind_eq_some_iff.1 h1'
      have H' := And.intro (geti_f hv') H'
      refine ops H' ?_
      obtain ⟨x18, hy', h1'⟩ := Option.bind_eq_some_iff.1 h1'
      refine callGQ H' (W_laws_markText _ _ hy') ?_
      refine ops H' ?_
      refine quN ?_
      refine wpV_split (fun hc' => ?_) (fun hc' => ?_)
      · replace h1' := (ifT hc').symm.trans h1'
        refine wpV_seq1 ?_
        refine wpV_region ?_
        refine ops H' ?_
        refine opsN ?_
        refine retN ?_
        obtain rfl := Option.some.inj h1'
        refine ⟨_, rfl, fun hr' => ?_⟩
        subst hr'
        obtain rfl := Option.some.inj h0'
        exact outG H' rfl rfl
      · replace h1' := (ifF hc').symm.trans h1'
        refine skipN ?_
        refine wpV_seq1 ?_
        refine wpV_region ?_
        refine ops H' ?_
        refine opsN ?_
        refine wpV_seq1 ?_
        refine wpV_seq1 ?_
        refine wpV_region ?_
        refine ops H' ?_
        refine opsN ?_
        refine wpV_split (fun hc' => ?_) (fun hc' => ?_)
        · replace h1' := (ifT hc').symm.trans h1'
          refine wpV_seq1 ?_
          refine wpV_region ?_
          refine ops H' ?_
          refine opsN ?_
          refine retN ?_
          obtain rfl := Option.some.inj h1'
          refine ⟨_, rfl, fun hr' => ?_⟩
          subst hr'
          obtain rfl := Option.some.inj h0'
          exact outG H' rfl rfl
        · replace h1' := (ifF hc').symm.trans h1'
          refine skipN ?_
          refine wpV_seq1 ?_
          refine wpV_region ?_
          refine ops H' ?_
          refine opsN ?_
          refine wpV_seq1 ?_
          refine wpV_seq1 ?_
          refine wpV_region ?_
          refine ops H' ?_
          refine opsN ?_
          refine wpV_split (fun hc' => ?_) (fun hc' => ?_)
          · replace h1' := (ifT hc').symm.trans h1'
            refine wpV_seq1 ?_
            refine wpV_region ?_
            refine ops H' ?_
            refine opsN ?_
            refine retN ?_
            obtain rfl := Option.some.inj h1'
            refine ⟨_, rfl, fun hr' => ?_⟩
            subst hr'
            obtain rfl := Option.some.inj h0'
            exact outG H' rfl rfl
          · replace h1' := (ifF hc').symm.trans h1'
            refine skipN ?_
            refine wpV_region ?_
            refine ops H' ?_
            refine opsN ?_
            refine wpV_region ?_
            refine ops H' ?_
            refine opsN ?_
            obtain rfl := Option.some.inj h1'
            exact shd [0, 1, 5] [] 2 ⟨_, rfl, _, _, rfl, rfl⟩
    · replace h1' := (ifF hc').symm.trans h1'
      refine exitN ?_
      obtain rfl := Option.some.inj h1'
      refine ⟨_, rfl, fun hr' => ?_⟩
      subst hr'
      exact shd [1] [] 2 ⟨_, h0', rfl⟩
  · rintro e' ⟨k_1, h0', rfl⟩
    unfold laws_heldNameS_j1 at h0'
    refine wpV_seq1 ?_
    refine wpV_region ?_
    refine ops H' ?_
    refine opsN ?_
    refine retN ?_
    obtain rfl := Option.some.inj h0'
    exact outG H' rfl rfl
theorem W_laws_heldCommitS (a : List T_impl_Commit) (k : Int) (r' : Int) (h0' : laws_heldCommitS a k = some r') : Fn X 16 [.one (.list false 3 (List.map (r_T_impl_Commit false) a)), .one (.sc (.int .i64 k))] [.one (.sc (.int .i64 r'))] [] := by
  have H' := And.intro t3 (And.intro t9 (And.intro t22 (And.intro t44 (And.intro t83 (And.intro t85 (And.intro R_T_impl_Commit (And.intro R_T_impl_Name (R_i64))))))))
  unfold laws_heldCommitS at h0'
  refine Fn.start (fn := f16) (N := 41) (res := [.tmp 4]) rfl rfl rfl rfl rfl (by simp) ?_
  refine enterG H' ?_
  refine wpV_seq1 ?_
  refine wpV_region ?_
  refine ops H' ?_
  refine opsN ?_
  refine wpV_seqJ (fun e' => ∃ k_1, laws_heldCommitS_j1 k_1 = some r' ∧ e' = { N := 41, np := 2, nx := 2, sl := [(1, .pl (.one (.v (.sc (.int .i64 k_1)))))], ob := [] }) ?_ ?_
  · refine wpV_seq1 ?_
    refine wpV_region ?_
    refine ops H' ?_
    refine opsN ?_
    obtain ⟨p, hl', h0'⟩ := Option.bind_eq_some_iff.1 h0'
    refine wpV_block ?_
    refine wpV_loopM (fun s' e' => ∃ k_2 i, s' = (k_2, i) ∧ e' = { N := 41, np := 2, nx := 2, sl := [(0, .pl (.one (.v (.list false 3 (List.map (r_T_impl_Commit false) a))))), (1, .pl (.one (.v (.sc (.int .i64 k_2))))), (5, .pl (.one (.v (.sc (.int .i64 i)))))], ob := [] }) hl' (shd [0, 1, 5] [] 2 ⟨_, _, rfl, rfl⟩) ?_
    rintro s' y1' e' h1' ⟨k_2, i, rfl, rfl⟩
    replace h1' : laws_heldCommitS_l1 a k_2 i = some y1' := h1'
    unfold laws_heldCommitS_l1 at h1'
    refine wpV_seq1 ?_
    refine wpV_seq1 ?_
    refine wpV_region ?_
    refine ops H' ?_
    refine opsN ?_
    refine wpV_split (fun hc' => ?_) (fun hc' => ?_)
    · replace h1' := (ifT hc').symm.trans h1'
      refine skipN ?_
      refine wpV_seq1 ?_
      refine wpV_block ?_
      refine wpV_seq1 ?_
      refine wpV_region ?_
      obtain ⟨x, hv', h1'⟩ := Option.bind_eq_some_iff.1 h1'
      have H' := And.intro (geti_f hv') H'
      refine ops H' ?_
      obtain ⟨x18, hy', h1'⟩ := Option.bind_eq_some_iff.1 h1'
      refine callG H' (fun _ => []) (W_laws_heldIntS _ _ _ hy') ?_
      refine ops H' ?_
      refine opsN ?_
      refine wpV_seq1 ?_
      refine wpV_seq1 ?_
      refine wpV_region ?_
      refine ops H' ?_
      refine opsN ?_
      refine wpV_split (fun hc' => ?_) (fun hc' => ?_)
      · replace h1' := (ifT hc').symm.trans h1'
        refine wpV_seq1 ?_
        refine wpV_region ?_
        refine ops H' ?_
        refine opsN ?_
        refine retN ?_
        obtain rfl := Option.some.inj h1'
        refine ⟨_, rfl, fun hr' => ?_⟩
        subst hr'
        obtain rfl := Option.some.inj h0'
        exact outG H' rfl rfl
      · replace h1' := (ifF hc').symm.trans h1'
        refine skipN ?_
        refine wpV_seq1 ?_
        refine wpV_seq1 ?_
        refine regQ ?_
        refine ops H' ?_
        obtain ⟨x27, hy', h1'⟩ := Option.bind_eq_some_iff.1 h1'
        refine callGQ H' (W_laws_markText _ _ hy') ?_
        refine ops H' ?_
        refine quN ?_
        refine wpV_split (fun hc' => ?_) (fun hc' => ?_)
        · replace h1' := (ifT hc').symm.trans h1'
          refine wpV_seq1 ?_
          refine wpV_region ?_
          refine ops H' ?_
          refine opsN ?_
          refine retN ?_
          obtain rfl := Option.some.inj h1'
          refine ⟨_, rfl, fun hr' => ?_⟩
          subst hr'
          obtain rfl := Option.some.inj h0'
          exact outG H' rfl rfl
        · replace h1' := (ifF hc').symm.trans h1'
          refine skipN ?_
          refine wpV_seq1 ?_
          refine wpV_region ?_
          refine ops H' ?_
          refine opsN ?_
          refine wpV_seq1 ?_
          refine wpV_region ?_
          refine ops H' ?_
          obtain ⟨x37, hy', h1'⟩ := Option.bind_eq_some_iff.1 h1'
          refine callG H' (fun _ => []) (W_laws_heldNameS _ _ _ hy') ?_
          refine ops H' ?_
          refine opsN ?_
          refine wpV_seq1 ?_
          refine wpV_region ?_
          refine ops H' ?_
          refine opsN ?_
          refine wpV_split (fun hc' => ?_) (fun hc' => ?_)
          · replace h1' := (ifT hc').symm.trans h1'
            refine wpV_seq1 ?_
            refine wpV_region ?_
            refine ops H' ?_
            refine opsN ?_
            refine retN ?_
            obtain rfl := Option.some.inj h1'
            refine ⟨_, rfl, fun hr' => ?_⟩
            subst hr'
            obtain rfl := Option.some.inj h0'
            exact outG H' rfl rfl
          · replace h1' := (ifF hc').symm.trans h1'
            refine skipN ?_
            refine wpV_region ?_
            refine ops H' ?_
            refine opsN ?_
            obtain rfl := Option.some.inj h1'
            exact shd [0, 1, 5] [] 2 ⟨_, rfl, _, _, rfl, rfl⟩
    · replace h1' := (ifF hc').symm.trans h1'
      refine exitN ?_
      obtain rfl := Option.some.inj h1'
      refine ⟨_, rfl, fun hr' => ?_⟩
      subst hr'
      exact shd [1] [] 2 ⟨_, h0', rfl⟩
  · rintro e' ⟨k_1, h0', rfl⟩
    unfold laws_heldCommitS_j1 at h0'
    refine wpV_seq1 ?_
    refine wpV_region ?_
    refine ops H' ?_
    refine opsN ?_
    refine retN ?_
    obtain rfl := Option.some.inj h0'
    exact outG H' rfl rfl
theorem W_laws_FnExactReadCommits (aText : ByteArray) (r' : Bool) (h0' : laws_FnExactReadCommits aText = some r') : Fn X 3 [.one (.sc (.string aText))] [.one (.sc (.bool r'))] [] := by
  have H' := And.intro t3 (And.intro t4 (And.intro t9 (And.intro R_T_impl_Commit (And.intro R_T_impl_Name (R_i64)))))
  unfold laws_FnExactReadCommits at h0'
  refine Fn.start (fn := f3) (N := 66) (res := [.tmp 2]) rfl rfl rfl rfl rfl (by simp) ?_
  refine enterG H' ?_
  refine wpV_seq1 ?_
  refine wpV_region ?_
  refine ops H' ?_
  refine opsN ?_
  refine wpV_seq1 ?_
  refine wpV_seq1 ?_
  refine wpV_region ?_
  refine ops H' ?_
  refine opsN ?_
  refine wpV_split (fun hc' => ?_) (fun hc' => ?_)
  · replace h0' := (ifT hc').symm.trans h0'
    refine wpV_seq1 ?_
    refine wpV_region ?_
    refine ops H' ?_
    refine opsN ?_
    refine retN ?_
    obtain rfl := Option.some.inj h0'
    exact outG H' rfl rfl
  · replace h0' := (ifF hc').symm.trans h0'
    refine skipN ?_
    refine wpV_seq1 ?_
    refine wpV_region ?_
    refine ops H' ?_
    obtain ⟨x16, hy', h0'⟩ := Option.bind_eq_some_iff.1 h0'
    refine callG H' (fun _ => []) (W_spec_ReadCommits _ _ hy') ?_
    refine ops H' ?_
    refine opsN ?_
    refine wpV_seq1 ?_
    refine wpV_region ?_
    refine ops H' ?_
    obtain ⟨x21, hy', h0'⟩ := Option.bind_eq_some_iff.1 h0'
    refine callG H' (fun _ => []) (W_impl_ReadCommits _ _ hy') ?_
    refine ops H' ?_
    refine opsN ?_
    refine wpV_seq1 ?_
    refine wpV_seq1 ?_
    refine wpV_region ?_
    refine ops H' ?_
    obtain ⟨x26, hy', h0'⟩ := Option.bind_eq_some_iff.1 h0'
    refine callG H' (fun _ => []) (W_laws_eqCommitS _ _ _ hy') ?_
    refine ops H' ?_
    obtain ⟨b, gh0', h0'⟩ := Option.bind_eq_some_iff.1 h0'
    refine opsV_cut 4 (fun e' => e' = { N := 66, np := 1, nx := 3, sl := [(0, .pl (.one (.v (.sc (.string aText))))), (3, .pl (.one (.ref 1 []))), (4, .pl (.one (.v (.sc (.bool x16.2))))), (5, .pl (.one (.ref 2 []))), (32, .pl (.one (.v (.sc (.bool b)))))], ob := [(1, .list true 3 (List.map (r_T_impl_Commit true) x16.1)), (2, .list true 3 (List.map (r_T_impl_Commit true) x21.1))] }) ?_ ?_
    · simp only [List.take_succ_cons, List.take_zero]
      refine opsV_sp (fun hc' => ?_) (fun hc' => ?_)
      · replace gh0' := (ifF hc').symm.trans gh0'
        refine ops H' ?_
        obtain rfl := Option.some.inj gh0'
        refine opsV_nil ?_
        exact ⟨rfl, shd [0, 3, 4, 5, 32] [(1, 1), (3, 2)] 3 rfl⟩
      · replace gh0' := (ifT hc').symm.trans gh0'
        refine ops H' ?_
        obtain rfl := Option.some.inj gh0'
        refine opsV_nil ?_
        exact ⟨rfl, shd [0, 3, 4, 5, 32] [(1, 1), (3, 2)] 3 rfl⟩
    · rintro e' rfl
      simp only [List.drop_succ_cons, List.drop_zero]
      refine opsN ?_
      refine wpV_split (fun hc' => ?_) (fun hc' => ?_)
      · replace h0' := (ifT hc').symm.trans h0'
        refine wpV_seq1 ?_
        refine wpV_region ?_
        refine ops H' ?_
        refine opsN ?_
        refine retN ?_
        obtain rfl := Option.some.inj h0'
        exact outG H' rfl rfl
      · replace h0' := (ifF hc').symm.trans h0'
        refine skipN ?_
        refine wpV_seq1 ?_
        refine wpV_region ?_
        refine ops H' ?_
        refine opsN ?_
        refine wpV_seq1 ?_
        refine wpV_region ?_
        refine ops H' ?_
        obtain ⟨x35, hy', h0'⟩ := Option.bind_eq_some_iff.1 h0'
        refine callG H' (fun _ => [0]) (W_laws_markCommitS _ _ _ hy') ?_
        refine ops H' ?_
        refine opsN ?_
        refine wpV_seq1 ?_
        refine wpV_region ?_
        refine ops H' ?_
        refine opsN ?_
        refine wpV_seq1 ?_
        refine wpV_region ?_
        refine ops H' ?_
        obtain ⟨x38, hy', h0'⟩ := Option.bind_eq_some_iff.1 h0'
        refine callG H' (fun _ => []) (W_laws_heldCommitS _ _ _ hy') ?_
        refine ops H' ?_
        refine opsN ?_
        refine wpV_seq1 ?_
        refine wpV_seq1 ?_
        refine wpV_region ?_
        refine ops H' ?_
        refine opsN ?_
        refine wpV_split (fun hc' => ?_) (fun hc' => ?_)
        · replace h0' := (ifT hc').symm.trans h0'
          refine wpV_seq1 ?_
          refine wpV_region ?_
          refine ops H' ?_
          refine opsN ?_
          refine retN ?_
          obtain rfl := Option.some.inj h0'
          exact outG H' rfl rfl
        · replace h0' := (ifF hc').symm.trans h0'
          refine skipN ?_
          refine wpV_seq1 ?_
          refine wpV_seq1 ?_
          refine wpV_region ?_
          refine ops H' ?_
          refine opsN ?_
          refine wpV_split (fun hc' => ?_) (fun hc' => ?_)
          · replace h0' := (ifT hc').symm.trans h0'
            refine wpV_seq1 ?_
            refine wpV_region ?_
            refine ops H' ?_
            refine opsN ?_
            refine retN ?_
            obtain rfl := Option.some.inj h0'
            exact outG H' rfl rfl
          · replace h0' := (ifF hc').symm.trans h0'
            refine skipN ?_
            refine wpV_seq1 ?_
            refine wpV_region ?_
            refine ops H' ?_
            obtain ⟨x46, hy', h0'⟩ := Option.bind_eq_some_iff.1 h0'
            refine callG H' (fun _ => []) (W_impl_ReadCommits _ _ hy') ?_
            refine ops H' ?_
            refine opsN ?_
            refine wpV_seq1 ?_
            refine wpV_seq1 ?_
            refine wpV_region ?_
            refine ops H' ?_
            obtain ⟨x51, hy', h0'⟩ := Option.bind_eq_some_iff.1 h0'
            refine callG H' (fun _ => []) (W_laws_eqCommitS _ _ _ hy') ?_
            refine ops H' ?_
            obtain ⟨b_1, gh0', h0'⟩ := Option.bind_eq_some_iff.1 h0'
            refine opsV_cut 4 (fun e' => e' = { N := 66, np := 1, nx := 2, sl := [(5, .pl (.one (.ref 1 []))), (7, .pl (.one (.v (.sc (.int .i64 x35.1))))), (57, .pl (.one (.v (.sc (.bool b_1)))))], ob := [(1, .list true 3 (List.map (r_T_impl_Commit true) x35.2))] }) ?_ ?_
            · simp only [List.take_succ_cons, List.take_zero]
              refine opsV_sp (fun hc' => ?_) (fun hc' => ?_)
              · replace gh0' := (ifF hc').symm.trans gh0'
                refine ops H' ?_
                obtain rfl := Option.some.inj gh0'
                refine opsV_nil ?_
                exact ⟨rfl, shd [5, 7, 57] [(2, 1)] 2 rfl⟩
              · replace gh0' := (ifT hc').symm.trans gh0'
                refine ops H' ?_
                obtain rfl := Option.some.inj gh0'
                refine opsV_nil ?_
                exact ⟨rfl, shd [5, 7, 57] [(2, 1)] 2 rfl⟩
            · rintro e' rfl
              simp only [List.drop_succ_cons, List.drop_zero]
              refine opsN ?_
              refine wpV_split (fun hc' => ?_) (fun hc' => ?_)
              · replace h0' := (ifT hc').symm.trans h0'
                refine wpV_seq1 ?_
                refine wpV_region ?_
                refine ops H' ?_
                refine opsN ?_
                refine retN ?_
                obtain rfl := Option.some.inj h0'
                exact outG H' rfl rfl
              · replace h0' := (ifF hc').symm.trans h0'
                refine skipN ?_
                refine wpV_seq1 ?_
                refine wpV_region ?_
                refine ops H' ?_
                refine opsN ?_
                refine wpV_seq1 ?_
                refine wpV_region ?_
                refine ops H' ?_
                obtain ⟨x60, hy', h0'⟩ := Option.bind_eq_some_iff.1 h0'
                refine callG H' (fun _ => []) (W_laws_heldCommitS _ _ _ hy') ?_
                refine ops H' ?_
                refine opsN ?_
                refine wpV_seq1 ?_
                refine wpV_seq1 ?_
                refine wpV_region ?_
                refine ops H' ?_
                refine opsN ?_
                refine wpV_split (fun hc' => ?_) (fun hc' => ?_)
                · replace h0' := (ifT hc').symm.trans h0'
                  refine wpV_seq1 ?_
                  refine wpV_region ?_
                  refine ops H' ?_
                  refine opsN ?_
                  refine retN ?_
                  obtain rfl := Option.some.inj h0'
                  exact outG H' rfl rfl
                · replace h0' := (ifF hc').symm.trans h0'
                  refine skipN ?_
                  refine wpV_seq1 ?_
                  refine wpV_seq1 ?_
                  refine wpV_region ?_
                  refine ops H' ?_
                  refine opsN ?_
                  refine wpV_split (fun hc' => ?_) (fun hc' => ?_)
                  · replace h0' := (ifT hc').symm.trans h0'
                    refine wpV_seq1 ?_
                    refine wpV_region ?_
                    refine ops H' ?_
                    refine opsN ?_
                    refine retN ?_
                    obtain rfl := Option.some.inj h0'
                    exact outG H' rfl rfl
                  · replace h0' := (ifF hc').symm.trans h0'
                    refine skipN ?_
                    refine wpV_seq1 ?_
                    refine wpV_region ?_
                    refine ops H' ?_
                    refine opsN ?_
                    refine retN ?_
                    obtain rfl := Option.some.inj h0'
                    exact outG H' rfl rfl
end Go.TV.KFnExactReadCommits
