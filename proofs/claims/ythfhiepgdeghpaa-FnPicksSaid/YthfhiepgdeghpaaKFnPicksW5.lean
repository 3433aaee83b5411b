/- Walks. -/
import Derived.Test.YthfhiepgdeghpaaKFnPicksE
import Derived.Test.YthfhiepgdeghpaaKFnPicksW4
set_option linter.unusedVariables false
set_option linter.unusedSimpArgs false
set_option maxHeartbeats 8000000
set_option maxRecDepth 100000
namespace Go.TV.KFnPicks
attribute [local irreducible] anyV wpV opsV Does thenV blockV RetL quV seqV
open Go.Proofs.Try Go.TV.F
theorem W_strings_Index (s : ByteArray) (substr : ByteArray) (r' : Int) (h0' : strings_Index s substr = some r') : Fn X 212 [.one (.sc (.string s)), .one (.sc (.string substr))] [.one (.sc (.int .i64 r'))] [] := by
  have H' := trivial
  unfold strings_Index at h0'
  refine Fn.start (fn := f212) (N := 8) (res := [.tmp 4]) rfl rfl rfl rfl rfl (by simp) ?_
  refine enterG H' ?_
  refine wpV_seq1 ?_
  refine wpV_region ?_
  refine ops H' ?_
  refine opsN ?_
  refine wpV_seq1 ?_
  refine wpV_region ?_
  refine ops H' ?_
  obtain ⟨x7, hy', h0'⟩ := Option.bind_eq_some_iff.1 h0'
  refine callG H' (fun _ => []) (W_internal_stringslite_Index _ _ _ hy') ?_
  refine ops H' ?_
  refine opsN ?_
  refine retN ?_
  obtain rfl := Option.some.inj h0'
  exact outG H' rfl rfl
theorem W_strings_Contains (s : ByteArray) (substr : ByteArray) (r' : Bool) (h0' : strings_Contains s substr = some r') : Fn X 207 [.one (.sc (.string s)), .one (.sc (.string substr))] [.one (.sc (.bool r'))] [] := by
  have H' := t3
  unfold strings_Contains at h0'
  refine Fn.start (fn := f207) (N := 9) (res := [.tmp 4]) rfl rfl rfl rfl rfl (by simp) ?_
  refine enterG H' ?_
  refine wpV_seq1 ?_
  refine wpV_region ?_
  refine ops H' ?_
  refine opsN ?_
  refine wpV_seq1 ?_
  refine wpV_region ?_
  refine ops H' ?_
  obtain ⟨x7, hy', h0'⟩ := Option.bind_eq_some_iff.1 h0'
  refine callG H' (fun _ => []) (W_strings_Index _ _ _ hy') ?_
  refine ops H' ?_
  refine opsN ?_
  refine retN ?_
  obtain rfl := Option.some.inj h0'
  exact outG H' rfl rfl
theorem W_impl_LineOk (line : ByteArray) (r' : Bool) (h0' : impl_LineOk line = some r') : Fn X 195 [.one (.sc (.string line))] [.one (.sc (.bool r'))] [] := by
  have H' := And.intro t3 (t9)
  unfold impl_LineOk at h0'
  refine Fn.start (fn := f195) (N := 11) (res := [.tmp 2]) rfl rfl rfl rfl rfl (by simp) ?_
  refine enterG H' ?_
  refine wpV_seq1 ?_
  refine wpV_region ?_
  refine ops H' ?_
  refine opsN ?_
  refine wpV_seq1 ?_
  refine wpV_region ?_
  refine ops H' ?_
  obtain ⟨b, gh0', h0'⟩ := Option.bind_eq_some_iff.1 h0'
  refine opsV_cut 4 (fun e' => e' = { N := 11, np := 1, nx := 1, sl := [(10, .pl (.one (.v (.sc (.bool b)))))], ob := [] }) ?_ ?_
  · simp only [List.take_succ_cons, List.take_zero]
    refine opsV_sp (fun hc' => ?_) (fun hc' => ?_)
    · replace gh0' := (ifT hc').symm.trans gh0'
      refine ops H' ?_
      obtain ⟨x8, hy', gh0'⟩ := Option.bind_eq_some_iff.1 gh0'
      refine callG H' (fun _ => []) (W_strings_Contains _ _ _ hy') ?_
      refine ops H' ?_
      obtain rfl := Option.some.inj gh0'
      refine opsV_nil ?_
      exact ⟨rfl, shd [10] [] 1 rfl⟩
    · replace gh0' := (ifF hc').symm.trans gh0'
      refine ops H' ?_
      obtain rfl := Option.some.inj gh0'
      refine opsV_nil ?_
      exact ⟨rfl, shd [10] [] 1 rfl⟩
  · rintro e' rfl
    simp only [List.drop_succ_cons, List.drop_zero]
    refine ops H' ?_
    refine opsN ?_
    refine retN ?_
    obtain rfl := Option.some.inj h0'
    exact outG H' rfl rfl
theorem W_impl_isPlace (n : Int) (size : Int) (r' : Bool) (h0' : impl_isPlace n size = some r') : Fn X 94 [.one (.sc (.int .i64 n)), .one (.sc (.int .i64 size))] [.one (.sc (.bool r'))] [] := by
  have H' := t3
  unfold impl_isPlace at h0'
  refine Fn.start (fn := f94) (N := 9) (res := [.tmp 4]) rfl rfl rfl rfl rfl (by simp) ?_
  refine enterG H' ?_
  refine wpV_seq1 ?_
  refine wpV_region ?_
  refine ops H' ?_
  refine opsN ?_
  refine wpV_seq1 ?_
  refine wpV_region ?_
  refine ops H' ?_
  obtain ⟨x8, hy', h0'⟩ := Option.bind_eq_some_iff.1 h0'
  refine callG H' (fun _ => []) (W_impl_inRange _ _ _ _ hy') ?_
  refine ops H' ?_
  refine opsN ?_
  refine retN ?_
  obtain rfl := Option.some.inj h0'
  exact outG H' rfl rfl
theorem W_impl_set_has (s : Int) (v : Int) (r' : Bool) (h0' : impl_set_has s v = some r') : Fn X 168 [.one (.sc (.int .u64 s)), .one (.sc (.int .i64 v))] [.one (.sc (.bool r'))] [] := by
  have H' := And.intro t3 (And.intro t133 (t199))
  unfold impl_set_has at h0'
  refine Fn.start (fn := f168) (N := 15) (res := [.tmp 4]) rfl rfl rfl rfl rfl (by simp) ?_
  refine enterG H' ?_
  refine wpV_seq1 ?_
  refine wpV_region ?_
  refine ops H' ?_
  refine opsN ?_
  refine wpV_seq1 ?_
  refine wpV_region ?_
  refine ops H' ?_
  obtain ⟨x6, hy', h0'⟩ := Option.bind_eq_some_iff.1 h0'
  refine callG H' (fun _ => []) (W_impl_inRange _ _ _ _ hy') ?_
  refine ops H' ?_
  obtain ⟨b, gh0', h0'⟩ := Option.bind_eq_some_iff.1 h0'
  refine opsV_cut 7 (fun e' => e' = { N := 15, np := 2, nx := 2, sl := [(14, .pl (.one (.v (.sc (.bool b)))))], ob := [] }) ?_ ?_
  · simp only [List.take_succ_cons, List.take_zero]
    refine opsV_sp (fun hc' => ?_) (fun hc' => ?_)
    · replace gh0' := (ifT hc').symm.trans gh0'
      obtain ⟨u, hv', gh0'⟩ := Option.bind_eq_some_iff.1 gh0'
      have H' := And.intro (chkF hv') H'
      refine ops H' ?_
      obtain rfl := Option.some.inj gh0'
      refine opsV_nil ?_
      exact ⟨rfl, shd [14] [] 2 rfl⟩
    · replace gh0' := (ifF hc').symm.trans gh0'
      refine ops H' ?_
      obtain rfl := Option.some.inj gh0'
      refine opsV_nil ?_
      exact ⟨rfl, shd [14] [] 2 rfl⟩
  · rintro e' rfl
    simp only [List.drop_succ_cons, List.drop_zero]
    refine ops H' ?_
    refine opsN ?_
    refine retN ?_
    obtain rfl := Option.some.inj h0'
    exact outG H' rfl rfl
theorem W_impl_setOf (list_ : List Int) (r' : Int) (h0' : impl_setOf list_ = some r') : Fn X 93 [.one (.list false 1 (List.map (rK .i64) list_))] [.one (.sc (.int .u64 r'))] [] := by
  have H' := And.intro t3 (And.intro t44 (And.intro t133 (And.intro t199 (R_i64))))
  unfold impl_setOf at h0'
  refine Fn.start (fn := f93) (N := 21) (res := [.tmp 2]) rfl rfl rfl rfl rfl (by simp) ?_
  refine enterG H' ?_
  refine wpV_seq1 ?_
  refine wpV_region ?_
  refine ops H' ?_
  refine opsN ?_
  refine wpV_seq1 ?_
  refine wpV_region ?_
  refine ops H' ?_
  refine opsN ?_
  refine wpV_seqJ (fun e' => ∃ s, impl_setOf_j1 s = some r' ∧ e' = { N := 21, np := 1, nx := 1, sl := [(3, .pl (.one (.v (.sc (.int .u64 s)))))], ob := [] }) ?_ ?_
  · refine wpV_seq1 ?_
    refine wpV_region ?_
    refine ops H' ?_
    refine opsN ?_
    obtain ⟨p, hl', h0'⟩ := Option.bind_eq_some_iff.1 h0'
    refine wpV_block ?_
    refine wpV_loopM (fun s' e' => ∃ s_1 x8, s' = (s_1, x8) ∧ e' = { N := 21, np := 1, nx := 1, sl := [(3, .pl (.one (.v (.sc (.int .u64 s_1))))), (6, .pl (.one (.v (.list false 1 (List.map (rK .i64) list_))))), (7, .pl (.one (.v (.sc (.int .i64 (list_.length : Int)))))), (8, .pl (.one (.v (.sc (.int .i64 x8)))))], ob := [] }) hl' (shd [3, 6, 7, 8] [] 1 ⟨_, _, rfl, rfl⟩) ?_
    rintro s' y1' e' h1' ⟨s_1, x8, rfl, rfl⟩
    replace h1' : impl_setOf_l1 list_ s_1 x8 = some y1' := h1'
    unfold impl_setOf_l1 at h1'
    refine wpV_seq1 ?_
    refine wpV_region ?_
    refine ops H' ?_
    refine opsN ?_
    refine wpV_seq1 ?_
    refine wpV_split (fun hc' => ?_) (fun hc' => ?_)
    · replace h1' := (ifT hc').symm.trans h1'
      refine skipN ?_
      refine wpV_seq1 ?_
      refine wpV_block ?_
      refine wpV_seq1 ?_
      refine wpV_region ?_
      obtain ⟨x, hv', h1'⟩ := Option.bind_eq_some_iff.1 h1'
      have H' := And.intro (geti_f hv') H'
      refine ops H' ?_
      refine opsN ?_
      refine wpV_seq1 ?_
      refine wpV_region ?_
      refine ops H' ?_
      obtain ⟨x13, hy', h1'⟩ := Option.bind_eq_some_iff.1 h1'
      refine callG H' (fun _ => []) (W_impl_inRange _ _ _ _ hy') ?_
      refine opsN ?_
      refine wpV_split (fun hc' => ?_) (fun hc' => ?_)
      · replace h1' := (ifT hc').symm.trans h1'
        refine wpV_region ?_
        obtain ⟨u, hv', h1'⟩ := Option.bind_eq_some_iff.1 h1'
        have H' := And.intro (chkF hv') H'
        refine ops H' ?_
        refine opsN ?_
        refine wpV_region ?_
        refine ops H' ?_
        refine opsN ?_
        obtain rfl := Option.some.inj h1'
        exact shd [3, 6, 7, 8] [] 1 ⟨_, rfl, _, _, rfl, rfl⟩
      · replace h1' := (ifF hc').symm.trans h1'
        refine skipN ?_
        refine wpV_region ?_
        refine ops H' ?_
        refine opsN ?_
        obtain rfl := Option.some.inj h1'
        exact shd [3, 6, 7, 8] [] 1 ⟨_, rfl, _, _, rfl, rfl⟩
    · replace h1' := (ifF hc').symm.trans h1'
      refine exitN ?_
      obtain rfl := Option.some.inj h1'
      refine ⟨_, rfl, fun hr' => ?_⟩
      subst hr'
      exact shd [3] [] 1 ⟨_, h0', rfl⟩
  · rintro e' ⟨s, h0', rfl⟩
    unfold impl_setOf_j1 at h0'
    refine wpV_seq1 ?_
    refine wpV_region ?_
    refine ops H' ?_
    refine opsN ?_
    refine retN ?_
    obtain rfl := Option.some.inj h0'
    exact outG H' rfl rfl
theorem W_impl_Body_isLive (b : T_impl_Body) (s : Int) (r' : Bool) (h0' : impl_Body_isLive b s = some r') : Fn X 133 [.agg [.sc (.string b.Line), .sc (.int .i64 b.Ins), .sc (.int .i64 b.Ord), .list false 1 (List.map (rK .i64) b.Dels)], .one (.sc (.int .u64 s))] [.one (.sc (.bool r'))] [] := by
  have H' := And.intro t3 (And.intro t44 (And.intro t50 (And.intro t133 (R_i64))))
  unfold impl_Body_isLive at h0'
  refine Fn.start (fn := f133) (N := 17) (res := [.tmp 4]) rfl rfl rfl rfl rfl (by simp) ?_
  refine enterG H' ?_
  refine wpV_seq1 ?_
  refine wpV_region ?_
  refine ops H' ?_
  refine opsN ?_
  refine wpV_seq1 ?_
  refine wpV_region ?_
  refine ops H' ?_
  obtain ⟨x8, hy', h0'⟩ := Option.bind_eq_some_iff.1 h0'
  refine callG H' (fun _ => []) (W_impl_set_has _ _ _ hy') ?_
  refine ops H' ?_
  obtain ⟨b_1, gh0', h0'⟩ := Option.bind_eq_some_iff.1 h0'
  refine opsV_cut 7 (fun e' => e' = { N := 17, np := 5, nx := 5, sl := [(16, .pl (.one (.v (.sc (.bool b_1)))))], ob := [] }) ?_ ?_
  · simp only [List.take_succ_cons, List.take_zero]
    refine opsV_sp (fun hc' => ?_) (fun hc' => ?_)
    · replace gh0' := (ifT hc').symm.trans gh0'
      refine ops H' ?_
      obtain ⟨x12, hy', gh0'⟩ := Option.bind_eq_some_iff.1 gh0'
      refine callG H' (fun _ => []) (W_impl_setOf _ _ hy') ?_
      refine ops H' ?_
      obtain rfl := Option.some.inj gh0'
      refine opsV_nil ?_
      exact ⟨rfl, shd [16] [] 5 rfl⟩
    · replace gh0' := (ifF hc').symm.trans gh0'
      refine ops H' ?_
      obtain rfl := Option.some.inj gh0'
      refine opsV_nil ?_
      exact ⟨rfl, shd [16] [] 5 rfl⟩
  · rintro e' rfl
    simp only [List.drop_succ_cons, List.drop_zero]
    refine ops H' ?_
    refine opsN ?_
    refine retN ?_
    obtain rfl := Option.some.inj h0'
    exact outG H' rfl rfl
theorem W_impl_Weave_liveIn (w : T_impl_Weave) (s : Int) (r' : (List Int)) (h0' : impl_Weave_liveIn w s = some r') : Fn X 92 [.one (.box false [.list false 1 (List.map (rL false 1 (rK .i64)) w.Parents), .list false 4 (List.map (r_T_impl_Body false) w.Bodies)]), .one (.sc (.int .u64 s))] [.one (.list true 1 (List.map (rK .i64) r'))] [] := by
  have H' := And.intro t3 (And.intro t39 (And.intro t41 (And.intro t44 (And.intro t50 (And.intro R_Li64 (And.intro R_T_impl_Body (R_i64)))))))
  unfold impl_Weave_liveIn at h0'
  refine Fn.start (fn := f92) (N := 27) (res := [.tmp 4]) rfl rfl rfl rfl rfl (by simp) ?_
  refine enterG H' ?_
  refine wpV_seq1 ?_
  refine wpV_region ?_
  refine ops H' ?_
  refine opsN ?_
  refine wpV_seq1 ?_
  refine wpV_region ?_
  refine ops H' ?_
  refine opsN ?_
  refine wpV_seqJ (fun e' => ∃ out_, impl_Weave_liveIn_j1 out_ = some r' ∧ e' = { N := 27, np := 2, nx := 3, sl := [(5, .pl (.one (.ref 2 [])))], ob := [(2, .list true 1 (List.map (rK .i64) out_))] }) ?_ ?_
  · refine wpV_seq1 ?_
    refine wpV_region ?_
    refine ops H' ?_
    refine opsN ?_
    obtain ⟨p, hl', h0'⟩ := Option.bind_eq_some_iff.1 h0'
    refine wpV_block ?_
    refine wpV_loopM (fun s' e' => ∃ x13 out__1, s' = (x13, out__1) ∧ e' = { N := 27, np := 2, nx := 3, sl := [(1, .pl (.one (.v (.sc (.int .u64 s))))), (5, .pl (.one (.ref 2 []))), (11, .pl (.one (.v (.list false 4 (List.map (r_T_impl_Body false) w.Bodies))))), (12, .pl (.one (.v (.sc (.int .i64 (w.Bodies.length : Int)))))), (13, .pl (.one (.v (.sc (.int .i64 x13)))))], ob := [(2, .list true 1 (List.map (rK .i64) out__1))] }) hl' (shd [1, 5, 11, 12, 13] [(3, 2)] 3 ⟨_, _, rfl, rfl⟩) ?_
    rintro s' y1' e' h1' ⟨x13, out__1, rfl, rfl⟩
    replace h1' : impl_Weave_liveIn_l1 w s x13 out__1 = some y1' := h1'
    unfold impl_Weave_liveIn_l1 at h1'
    refine wpV_seq1 ?_
    refine wpV_region ?_
    refine ops H' ?_
    refine opsN ?_
    refine wpV_seq1 ?_
    refine wpV_split (fun hc' => ?_) (fun hc' => ?_)
    · replace h1' := (ifT hc').symm.trans h1'
      refine skipN ?_
      refine wpV_seq1 ?_
      refine wpV_block ?_
      refine wpV_seq1 ?_
      refine wpV_region ?_
      obtain ⟨x, hv', h1'⟩ := Option.bind_eq_some_iff.1 h1'
      have H' := And.intro (geti_f hv') H'
      refine ops H' ?_
      refine opsN ?_
      refine wpV_seq1 ?_
      refine wpV_region ?_
      refine ops H' ?_
      obtain ⟨x20, hy', h1'⟩ := Option.bind_eq_some_iff.1 h1'
      refine callG H' (fun _ => []) (W_impl_Body_isLive _ _ _ hy') ?_
      refine opsN ?_
      refine wpV_split (fun hc' => ?_) (fun hc' => ?_)
      · replace h1' := (ifT hc').symm.trans h1'
        refine wpV_region ?_
        obtain ⟨l, hv', h1'⟩ := Option.bind_eq_some_iff.1 h1'
        have H' := And.intro (app1_f hv') H'
        refine ops H' ?_
        refine opsN ?_
        refine wpV_region ?_
        refine ops H' ?_
        refine opsN ?_
        obtain rfl := Option.some.inj h1'
        exact shd [1, 5, 11, 12, 13] [(2, 2)] 3 ⟨_, rfl, _, _, rfl, rfl⟩
      · replace h1' := (ifF hc').symm.trans h1'
        refine skipN ?_
        refine wpV_region ?_
        refine ops H' ?_
        refine opsN ?_
        obtain rfl := Option.some.inj h1'
        exact shd [1, 5, 11, 12, 13] [(2, 2)] 3 ⟨_, rfl, _, _, rfl, rfl⟩
    · replace h1' := (ifF hc').symm.trans h1'
      refine exitN ?_
      obtain rfl := Option.some.inj h1'
      refine ⟨_, rfl, fun hr' => ?_⟩
      subst hr'
      exact shd [5] [(2, 2)] 3 ⟨_, h0', rfl⟩
  · rintro e' ⟨out_, h0', rfl⟩
    unfold impl_Weave_liveIn_j1 at h0'
    refine wpV_seq1 ?_
    refine wpV_region ?_
    refine ops H' ?_
    refine opsN ?_
    refine retN ?_
    obtain rfl := Option.some.inj h0'
    exact outG H' rfl rfl
theorem W_impl_bodiesOk (w : T_impl_Weave) (closed : List Int) (r' : Bool) (h0' : impl_bodiesOk w closed = some r') : Fn X 167 [.agg [.list false 1 (List.map (rL false 1 (rK .i64)) w.Parents), .list false 4 (List.map (r_T_impl_Body false) w.Bodies)], .one (.list false 1 (List.map (rK .u64) closed))] [.one (.sc (.bool r'))] [] := by
  have H' := And.intro t3 (And.intro t9 (And.intro t38 (And.intro t39 (And.intro t41 (And.intro t44 (And.intro t50 (And.intro t133 (And.intro t137 (And.intro R_Li64 (And.intro R_T_impl_Body (And.intro R_i64 (R_u64))))))))))))
  unfold impl_bodiesOk at h0'
  refine Fn.start (fn := f167) (N := 97) (res := [.tmp 4]) rfl rfl rfl rfl rfl (by simp) ?_
  refine enterG H' ?_
  refine wpV_seq1 ?_
  refine wpV_region ?_
  refine ops H' ?_
  refine opsN ?_
  refine wpV_seq1 ?_
  refine wpV_region ?_
  obtain ⟨x14, hv', h0'⟩ := Option.bind_eq_some_iff.1 h0'
  have H' := And.intro (mkl_f hv') H'
  refine ops H' ?_
  refine opsN ?_
  refine wpV_seqJ (fun e' => ∃ born, impl_bodiesOk_j1 w closed born = some r' ∧ e' = { N := 97, np := 3, nx := 5, sl := [(1, .pl (.one (.v (.list false 1 (List.map (rK .u64) closed))))), (2, .pl (.one (.ref 3 []))), (5, .pl (.one (.ref 4 [])))], ob := [(3, .box true [.list false 1 (List.map (rL false 1 (rK .i64)) w.Parents), .list false 4 (List.map (r_T_impl_Body false) w.Bodies)]), (4, .list true 1 (List.map (rK .i64) born))] }) ?_ ?_
  · refine wpV_seq1 ?_
    refine wpV_region ?_
    refine ops H' ?_
    refine opsN ?_
    obtain ⟨p_1, hl', h0'⟩ := Option.bind_eq_some_iff.1 h0'
    refine wpV_block ?_
    refine wpV_loopM (fun s' e' => ∃ x18 born_1, s' = (x18, born_1) ∧ e' = { N := 97, np := 3, nx := 5, sl := [(1, .pl (.one (.v (.list false 1 (List.map (rK .u64) closed))))), (2, .pl (.one (.ref 3 []))), (5, .pl (.one (.ref 4 []))), (16, .pl (.one (.v (.list false 4 (List.map (r_T_impl_Body false) w.Bodies))))), (17, .pl (.one (.v (.sc (.int .i64 (w.Bodies.length : Int)))))), (18, .pl (.one (.v (.sc (.int .i64 x18)))))], ob := [(3, .box true [.list false 1 (List.map (rL false 1 (rK .i64)) w.Parents), .list false 4 (List.map (r_T_impl_Body false) w.Bodies)]), (4, .list true 1 (List.map (rK .i64) born_1))] }) hl' (shd [1, 2, 5, 16, 17, 18] [(3, 3), (4, 4)] 5 ⟨_, _, rfl, rfl⟩) ?_
    rintro s' y1' e' h1' ⟨x18, born_1, rfl, rfl⟩
    replace h1' : impl_bodiesOk_l2 w closed x18 born_1 = some y1' := h1'
    unfold impl_bodiesOk_l2 at h1'
    refine wpV_seq1 ?_
    refine wpV_region ?_
    refine ops H' ?_
    refine opsN ?_
    refine wpV_seq1 ?_
    refine wpV_split (fun hc' => ?_) (fun hc' => ?_)
    · replace h1' := (ifT hc').symm.trans h1'
      refine skipN ?_
      refine wpV_seqJ (fun e' => ∃ born_2, impl_bodiesOk_j3 x18 born_2 = some y1' ∧ e' = { N := 97, np := 3, nx := 5, sl := [(1, .pl (.one (.v (.list false 1 (List.map (rK .u64) closed))))), (2, .pl (.one (.ref 3 []))), (5, .pl (.one (.ref 4 []))), (16, .pl (.one (.v (.list false 4 (List.map (r_T_impl_Body false) w.Bodies))))), (17, .pl (.one (.v (.sc (.int .i64 (w.Bodies.length : Int)))))), (18, .pl (.one (.v (.sc (.int .i64 x18)))))], ob := [(3, .box true [.list false 1 (List.map (rL false 1 (rK .i64)) w.Parents), .list false 4 (List.map (r_T_impl_Body false) w.Bodies)]), (4, .list true 1 (List.map (rK .i64) born_2))] }) ?_ ?_
      · refine wpV_block ?_
        refine wpV_seq1 ?_
        refine wpV_region ?_
        obtain ⟨x_2, hv', h1'⟩ := Option.bind_eq_some_iff.1 h1'
        have H' := And.intro (geti_f hv') H'
        refine ops H' ?_
        refine opsN ?_
        refine wpV_seq1 ?_
        refine wpV_seq1 ?_
        refine regQ ?_
        refine ops H' ?_
        obtain ⟨x24, hy', h1'⟩ := Option.bind_eq_some_iff.1 h1'
        refine callGQ H' (W_impl_LineOk _ _ hy') ?_
        refine ops H' ?_
        obtain ⟨b_1, gh1', h1'⟩ := Option.bind_eq_some_iff.1 h1'
        refine quV_cut 7 (fun e' => e' = { N := 97, np := 3, nx := 6, sl := [(1, .pl (.one (.v (.list false 1 (List.map (rK .u64) closed))))), (2, .pl (.one (.ref 3 []))), (5, .pl (.one (.ref 4 []))), (7, .pl (.one (.ref 5 []))), (16, .pl (.one (.v (.list false 4 (List.map (r_T_impl_Body false) w.Bodies))))), (17, .pl (.one (.v (.sc (.int .i64 (w.Bodies.length : Int)))))), (18, .pl (.one (.v (.sc (.int .i64 x18))))), (33, .pl (.one (.v (.sc (.bool b_1)))))], ob := [(3, .box true [.list false 1 (List.map (rL false 1 (rK .i64)) w.Parents), .list false 4 (List.map (r_T_impl_Body false) w.Bodies)]), (4, .list true 1 (List.map (rK .i64) born_1)), (5, .box true [.sc (.string x_2.Line), .sc (.int .i64 x_2.Ins), .sc (.int .i64 x_2.Ord), .list false 1 (List.map (rK .i64) x_2.Dels)])] }) ?_ ?_
        · simp only [List.take_succ_cons, List.take_zero]
          refine quV_sp (fun hc' => ?_) (fun hc' => ?_)
          · replace gh1' := (ifF hc').symm.trans gh1'
            refine ops H' ?_
            obtain ⟨x31, hy', gh1'⟩ := Option.bind_eq_some_iff.1 gh1'
            refine callGQ H' (W_impl_isPlace _ _ _ hy') ?_
            refine ops H' ?_
            obtain rfl := Option.some.inj gh1'
            refine quV_nil ?_
            exact ⟨rfl, shd [1, 2, 5, 7, 16, 17, 18, 33] [(3, 3), (4, 4), (5, 5)] 6 rfl⟩
          · replace gh1' := (ifT hc').symm.trans gh1'
            refine ops H' ?_
            obtain rfl := Option.some.inj gh1'
            refine quV_nil ?_
            exact ⟨rfl, shd [1, 2, 5, 7, 16, 17, 18, 33] [(3, 3), (4, 4), (5, 5)] 6 rfl⟩
        · rintro e' rfl
          simp only [List.drop_succ_cons, List.drop_zero]
          refine ops H' ?_
          obtain ⟨b_2, gh1', h1'⟩ := Option.bind_eq_some_iff.1 h1'
          refine quV_cut 9 (fun e' => e' = { N := 97, np := 3, nx := 6, sl := [(1, .pl (.one (.v (.list false 1 (List.map (rK .u64) closed))))), (2, .pl (.one (.ref 3 []))), (5, .pl (.one (.ref 4 []))), (7, .pl (.one (.ref 5 []))), (16, .pl (.one (.v (.list false 4 (List.map (r_T_impl_Body false) w.Bodies))))), (17, .pl (.one (.v (.sc (.int .i64 (w.Bodies.length : Int)))))), (18, .pl (.one (.v (.sc (.int .i64 x18))))), (43, .pl (.one (.v (.sc (.bool b_2)))))], ob := [(3, .box true [.list false 1 (List.map (rL false 1 (rK .i64)) w.Parents), .list false 4 (List.map (r_T_impl_Body false) w.Bodies)]), (4, .list true 1 (List.map (rK .i64) born_1)), (5, .box true [.sc (.string x_2.Line), .sc (.int .i64 x_2.Ins), .sc (.int .i64 x_2.Ord), .list false 1 (List.map (rK .i64) x_2.Dels)])] }) ?_ ?_
          · simp only [List.take_succ_cons, List.take_zero]
            refine quV_sp (fun hc' => ?_) (fun hc' => ?_)
            · replace gh1' := (ifF hc').symm.trans gh1'
              obtain ⟨x_3, hv', gh1'⟩ := Option.bind_eq_some_iff.1 gh1'
              have H' := And.intro (geti_f hv') H'
              refine ops H' ?_
              obtain rfl := Option.some.inj gh1'
              refine quV_nil ?_
              exact ⟨rfl, shd [1, 2, 5, 7, 16, 17, 18, 43] [(3, 3), (4, 4), (5, 5)] 6 rfl⟩
            · replace gh1' := (ifT hc').symm.trans gh1'
              refine ops H' ?_
              obtain rfl := Option.some.inj gh1'
              refine quV_nil ?_
              exact ⟨rfl, shd [1, 2, 5, 7, 16, 17, 18, 43] [(3, 3), (4, 4), (5, 5)] 6 rfl⟩
          · rintro e' rfl
            simp only [List.drop_succ_cons, List.drop_zero]
            refine ops H' ?_
            obtain ⟨b_3, gh1', h1'⟩ := Option.bind_eq_some_iff.1 h1'
            refine quV_cut 7 (fun e' => e' = { N := 97, np := 3, nx := 6, sl := [(1, .pl (.one (.v (.list false 1 (List.map (rK .u64) closed))))), (2, .pl (.one (.ref 3 []))), (5, .pl (.one (.ref 4 []))), (7, .pl (.one (.ref 5 []))), (16, .pl (.one (.v (.list false 4 (List.map (r_T_impl_Body false) w.Bodies))))), (17, .pl (.one (.v (.sc (.int .i64 (w.Bodies.length : Int)))))), (18, .pl (.one (.v (.sc (.int .i64 x18))))), (51, .pl (.one (.v (.sc (.bool b_3)))))], ob := [(3, .box true [.list false 1 (List.map (rL false 1 (rK .i64)) w.Parents), .list false 4 (List.map (r_T_impl_Body false) w.Bodies)]), (4, .list true 1 (List.map (rK .i64) born_1)), (5, .box true [.sc (.string x_2.Line), .sc (.int .i64 x_2.Ins), .sc (.int .i64 x_2.Ord), .list false 1 (List.map (rK .i64) x_2.Dels)])] }) ?_ ?_
            · simp only [List.take_succ_cons, List.take_zero]
              refine quV_sp (fun hc' => ?_) (fun hc' => ?_)
              · replace gh1' := (ifF hc').symm.trans gh1'
                refine ops H' ?_
                obtain ⟨x49, hy', gh1'⟩ := Option.bind_eq_some_iff.1 gh1'
                refine callGQ H' (W_impl_ascends _ _ _ hy') ?_
                refine ops H' ?_
                obtain rfl := Option.some.inj gh1'
                refine quV_nil ?_
                exact ⟨rfl, shd [1, 2, 5, 7, 16, 17, 18, 51] [(3, 3), (4, 4), (5, 5)] 6 rfl⟩
              · replace gh1' := (ifT hc').symm.trans gh1'
                refine ops H' ?_
                obtain rfl := Option.some.inj gh1'
                refine quV_nil ?_
                exact ⟨rfl, shd [1, 2, 5, 7, 16, 17, 18, 51] [(3, 3), (4, 4), (5, 5)] 6 rfl⟩
            · rintro e' rfl
              simp only [List.drop_succ_cons, List.drop_zero]
              refine quN ?_
              refine wpV_split (fun hc' => ?_) (fun hc' => ?_)
              · replace h1' := (ifT hc').symm.trans h1'
                refine wpV_seq1 ?_
                refine wpV_region ?_
                refine ops H' ?_
                refine opsN ?_
                refine retN ?_
                obtain rfl := Option.some.inj h1'
                refine ⟨_, rfl, fun hr' => ?_⟩
                subst hr'
                obtain rfl := Option.some.inj h0'
                exact outG H' rfl rfl
              · replace h1' := (ifF hc').symm.trans h1'
                refine skipN ?_
                refine wpV_seq1 ?_
                refine wpV_region ?_
                obtain ⟨x_4, hv', h1'⟩ := Option.bind_eq_some_iff.1 h1'
                have H' := And.intro (geti_f hv') H'
                refine ops H' ?_
                refine opsN ?_
                refine wpV_seq1 ?_
                refine wpV_region ?_
                refine ops H' ?_
                refine opsN ?_
                obtain ⟨p_2, hl', h1'⟩ := Option.bind_eq_some_iff.1 h1'
                refine wpV_block ?_
                refine wpV_loopM (fun x62 e' => e' = { N := 97, np := 3, nx := 6, sl := [(1, .pl (.one (.v (.list false 1 (List.map (rK .u64) closed))))), (2, .pl (.one (.ref 3 []))), (5, .pl (.one (.ref 4 []))), (7, .pl (.one (.ref 5 []))), (16, .pl (.one (.v (.list false 4 (List.map (r_T_impl_Body false) w.Bodies))))), (17, .pl (.one (.v (.sc (.int .i64 (w.Bodies.length : Int)))))), (18, .pl (.one (.v (.sc (.int .i64 x18))))), (60, .pl (.one (.v (.list false 1 (List.map (rK .i64) x_2.Dels))))), (61, .pl (.one (.v (.sc (.int .i64 (x_2.Dels.length : Int)))))), (62, .pl (.one (.v (.sc (.int .i64 x62)))))], ob := [(3, .box true [.list false 1 (List.map (rL false 1 (rK .i64)) w.Parents), .list false 4 (List.map (r_T_impl_Body false) w.Bodies)]), (4, .list true 1 (List.map (rK .i64) (born_1.set x_2.Ins.toNat (wk .i64 (x_4 + 1))))), (5, .box true [.sc (.string x_2.Line), .sc (.int .i64 x_2.Ins), .sc (.int .i64 x_2.Ord), .list false 1 (List.map (rK .i64) x_2.Dels)])] }) hl' (shd [1, 2, 5, 7, 16, 17, 18, 60, 61, 62] [(3, 3), (4, 4), (5, 5)] 6 rfl) ?_
                rintro x62 y2' e' h2' rfl
                replace h2' : impl_bodiesOk_l3 w closed x_2 x62 = some y2' := h2'
                unfold impl_bodiesOk_l3 at h2'
                refine wpV_seq1 ?_
                refine wpV_region ?_
                refine ops H' ?_
                refine opsN ?_
                refine wpV_seq1 ?_
                refine wpV_split (fun hc' => ?_) (fun hc' => ?_)
                · replace h2' := (ifT hc').symm.trans h2'
                  refine skipN ?_
                  refine wpV_seq1 ?_
                  refine wpV_block ?_
                  refine wpV_seq1 ?_
                  refine wpV_region ?_
                  obtain ⟨x_5, hv', h2'⟩ := Option.bind_eq_some_iff.1 h2'
                  have H' := And.intro (geti_f hv') H'
                  refine ops H' ?_
                  refine opsN ?_
                  refine wpV_seq1 ?_
                  refine regQ ?_
                  obtain ⟨x_6, hv', h2'⟩ := Option.bind_eq_some_iff.1 h2'
                  have H' := And.intro (geti_f hv') H'
                  refine ops H' ?_
                  obtain ⟨x73, hy', h2'⟩ := Option.bind_eq_some_iff.1 h2'
                  refine callGQ H' (W_impl_unionOf _ _ _ hy') ?_
                  obtain ⟨x74, hy', h2'⟩ := Option.bind_eq_some_iff.1 h2'
                  refine callGQ H' (W_impl_Body_isLive _ _ _ hy') ?_
                  refine ops H' ?_
                  refine quN ?_
                  refine wpV_split (fun hc' => ?_) (fun hc' => ?_)
                  · replace h2' := (ifT hc').symm.trans h2'
                    refine wpV_seq1 ?_
                    refine wpV_region ?_
                    refine ops H' ?_
                    refine opsN ?_
                    refine retN ?_
                    obtain rfl := Option.some.inj h2'
                    refine ⟨_, rfl, fun hr' => ?_⟩
                    subst hr'
                    obtain rfl := Option.some.inj h1'
                    refine ⟨_, rfl, fun hr' => ?_⟩
                    subst hr'
                    obtain rfl := Option.some.inj h0'
                    exact outG H' rfl rfl
                  · replace h2' := (ifF hc').symm.trans h2'
                    refine skipN ?_
                    refine wpV_region ?_
                    refine ops H' ?_
                    refine opsN ?_
                    obtain rfl := Option.some.inj h2'
                    exact shd [1, 2, 5, 7, 16, 17, 18, 60, 61, 62] [(3, 3), (4, 4), (5, 5)] 6 ⟨_, rfl, rfl⟩
                · replace h2' := (ifF hc').symm.trans h2'
                  refine exitN ?_
                  obtain rfl := Option.some.inj h2'
                  refine ⟨_, rfl, fun hr' => ?_⟩
                  subst hr'
                  exact shd [1, 2, 5, 16, 17, 18] [(3, 3), (4, 4)] 5 ⟨_, h1', rfl⟩
      · rintro e' ⟨born_2, h1', rfl⟩
        unfold impl_bodiesOk_j3 at h1'
        refine wpV_region ?_
        refine ops H' ?_
        refine opsN ?_
        obtain rfl := Option.some.inj h1'
        exact shd [1, 2, 5, 16, 17, 18] [(3, 3), (4, 4)] 5 ⟨_, rfl, _, _, rfl, rfl⟩
    · replace h1' := (ifF hc').symm.trans h1'
      refine exitN ?_
      obtain rfl := Option.some.inj h1'
      refine ⟨_, rfl, fun hr' => ?_⟩
      subst hr'
      exact shd [1, 2, 5] [(3, 3), (4, 4)] 5 ⟨_, h0', rfl⟩
  · rintro e' ⟨born, h0', rfl⟩
    unfold impl_bodiesOk_j1 at h0'
    refine wpV_seqJ (fun e' => impl_bodiesOk_j2 = some r' ∧ e' = { N := 97, np := 3, nx := 3, sl := [], ob := [] }) ?_ ?_
    · refine wpV_seq1 ?_
      refine wpV_region ?_
      refine ops H' ?_
      refine opsN ?_
      obtain ⟨p, hl', h0'⟩ := Option.bind_eq_some_iff.1 h0'
      refine wpV_block ?_
      refine wpV_loopM (fun x80 e' => e' = { N := 97, np := 3, nx := 5, sl := [(2, .pl (.one (.ref 3 []))), (5, .pl (.one (.ref 4 []))), (78, .pl (.one (.v (.list false 1 (List.map (rK .u64) closed))))), (79, .pl (.one (.v (.sc (.int .i64 (closed.length : Int)))))), (80, .pl (.one (.v (.sc (.int .i64 x80)))))], ob := [(3, .box true [.list false 1 (List.map (rL false 1 (rK .i64)) w.Parents), .list false 4 (List.map (r_T_impl_Body false) w.Bodies)]), (4, .list true 1 (List.map (rK .i64) born))] }) hl' (shd [2, 5, 78, 79, 80] [(3, 3), (4, 4)] 5 rfl) ?_
      rintro x80 y1' e' h1' rfl
      replace h1' : impl_bodiesOk_l1 w closed born x80 = some y1' := h1'
      unfold impl_bodiesOk_l1 at h1'
      refine wpV_seq1 ?_
      refine wpV_region ?_
      refine ops H' ?_
      refine opsN ?_
      refine wpV_seq1 ?_
      refine wpV_split (fun hc' => ?_) (fun hc' => ?_)
      · replace h1' := (ifT hc').symm.trans h1'
        refine skipN ?_
        refine wpV_seq1 ?_
        refine wpV_block ?_
        refine wpV_seq1 ?_
        refine wpV_region ?_
        obtain ⟨x, hv', h1'⟩ := Option.bind_eq_some_iff.1 h1'
        have H' := And.intro (geti_f hv') H'
        refine ops H' ?_
        refine opsN ?_
        refine wpV_seq1 ?_
        refine wpV_region ?_
        obtain ⟨x_1, hv', h1'⟩ := Option.bind_eq_some_iff.1 h1'
        have H' := And.intro (geti_f hv') H'
        refine ops H' ?_
        obtain ⟨b, gh1', h1'⟩ := Option.bind_eq_some_iff.1 h1'
        refine opsV_cut 5 (fun e' => e' = { N := 97, np := 3, nx := 5, sl := [(2, .pl (.one (.ref 3 []))), (5, .pl (.one (.ref 4 []))), (78, .pl (.one (.v (.list false 1 (List.map (rK .u64) closed))))), (79, .pl (.one (.v (.sc (.int .i64 (closed.length : Int)))))), (80, .pl (.one (.v (.sc (.int .i64 x80))))), (95, .pl (.one (.v (.sc (.bool b)))))], ob := [(3, .box true [.list false 1 (List.map (rL false 1 (rK .i64)) w.Parents), .list false 4 (List.map (r_T_impl_Body false) w.Bodies)]), (4, .list true 1 (List.map (rK .i64) born))] }) ?_ ?_
        · simp only [List.take_succ_cons, List.take_zero]
          refine opsV_sp (fun hc' => ?_) (fun hc' => ?_)
          · replace gh1' := (ifF hc').symm.trans gh1'
            refine ops H' ?_
            obtain ⟨x92, hy', gh1'⟩ := Option.bind_eq_some_iff.1 gh1'
            refine callG H' (fun _ => []) (W_impl_Weave_liveIn _ _ _ hy') ?_
            refine ops H' ?_
            obtain rfl := Option.some.inj gh1'
            refine opsV_nil ?_
            exact ⟨rfl, shd [2, 5, 78, 79, 80, 95] [(3, 3), (4, 4)] 5 rfl⟩
          · replace gh1' := (ifT hc').symm.trans gh1'
            refine ops H' ?_
            obtain rfl := Option.some.inj gh1'
            refine opsV_nil ?_
            exact ⟨rfl, shd [2, 5, 78, 79, 80, 95] [(3, 3), (4, 4)] 5 rfl⟩
        · rintro e' rfl
          simp only [List.drop_succ_cons, List.drop_zero]
          refine opsN ?_
          refine wpV_split (fun hc' => ?_) (fun hc' => ?_)
          · replace h1' := (ifT hc').symm.trans h1'
            refine wpV_seq1 ?_
            refine wpV_region ?_
            refine ops H' ?_
            refine opsN ?_
            refine retN ?_
            obtain rfl := Option.some.inj h1'
            refine ⟨_, rfl, fun hr' => ?_⟩
            subst hr'
            obtain rfl := Option.some.inj h0'
            exact outG H' rfl rfl
          · replace h1' := (ifF hc').symm.trans h1'
            refine skipN ?_
            refine wpV_region ?_
            refine ops H' ?_
            refine opsN ?_
            obtain rfl := Option.some.inj h1'
            exact shd [2, 5, 78, 79, 80] [(3, 3), (4, 4)] 5 ⟨_, rfl, rfl⟩
      · replace h1' := (ifF hc').symm.trans h1'
        refine exitN ?_
        obtain rfl := Option.some.inj h1'
        refine ⟨_, rfl, fun hr' => ?_⟩
        subst hr'
        exact shd [] [] 3 ⟨h0', rfl⟩
    · rintro e' ⟨h0', rfl⟩
      unfold impl_bodiesOk_j2 at h0'
      refine wpV_seq1 ?_
      refine wpV_region ?_
      refine ops H' ?_
      refine opsN ?_
      refine retN ?_
      obtain rfl := Option.some.inj h0'
      exact outG H' rfl rfl
theorem W_impl_WeaveOk (w : T_impl_Weave) (r' : Bool) (h0' : impl_WeaveOk w = some r') : Fn X 91 [.agg [.list false 1 (List.map (rL false 1 (rK .i64)) w.Parents), .list false 4 (List.map (r_T_impl_Body false) w.Bodies)]] [.one (.sc (.bool r'))] [] := by
  have H' := And.intro t3 (And.intro t38 (And.intro t39 (And.intro t41 (And.intro R_Li64 (And.intro R_T_impl_Body (And.intro R_i64 (R_u64)))))))
  unfold impl_WeaveOk at h0'
  refine Fn.start (fn := f91) (N := 19) (res := [.tmp 2]) rfl rfl rfl rfl rfl (by simp) ?_
  refine enterG H' ?_
  refine wpV_seq1 ?_
  refine wpV_region ?_
  refine ops H' ?_
  refine opsN ?_
  refine wpV_seq1 ?_
  obtain ⟨b, gh0_1_0, h0'⟩ := Option.bind_eq_some_iff.1 h0'
  obtain ⟨b_1, gh1_1_0, h0'⟩ := Option.bind_eq_some_iff.1 h0'
  refine wpV_J (fun e' => e' = { N := 19, np := 2, nx := 2, sl := [(2, .pl (.one (.v (.sc (.bool b_1)))))], ob := [] }) ?_ ?_
  · rcases Bool.eq_false_or_eq_true (decide ((w.Bodies.length : Int) ≤ 300)) with hc4_1_0 | hc4_1_0
    · replace gh0_1_0 := (ifT hc4_1_0).symm.trans gh0_1_0
      obtain ⟨x10, hy_x10, gh0_1_0⟩ := Option.bind_eq_some_iff.1 gh0_1_0
      obtain rfl := Option.some.inj gh0_1_0
      rcases Bool.eq_false_or_eq_true x10 with hc9_1_0 | hc9_1_0
      · replace gh1_1_0 := (ifT hc9_1_0).symm.trans gh1_1_0
        obtain ⟨x16, hy_x16, gh1_1_0⟩ := Option.bind_eq_some_iff.1 gh1_1_0
        obtain ⟨x17, hy_x17, gh1_1_0⟩ := Option.bind_eq_some_iff.1 gh1_1_0
        obtain rfl := Option.some.inj gh1_1_0
        refine regAnyF [(1, 4, .pl (.one (.v (.list false 4 (List.map (r_T_impl_Body false) w.Bodies))))), (2, 5, .pl (.one (.v (.sc (.int .i64 (w.Bodies.length : Int)))))), (3, 6, .pl (.one (.v (.sc (.bool (decide ((w.Bodies.length : Int) ≤ 300))))))), (4, 7, .pl (.one (.v (.sc (.bool (decide ((w.Bodies.length : Int) ≤ 300))))))), (6, 9, .pl (.one (.v (.list false 1 (List.map (rL false 1 (rK .i64)) w.Parents))))), (7, 10, .pl (.one (.v (.sc (.bool x10))))), (8, 11, .pl (.one (.v (.sc (.bool x10))))), (9, 12, .pl (.one (.v (.sc (.bool x10))))), (10, 13, .pl (.agg [.v (.list false 1 (List.map (rL false 1 (rK .i64)) w.Parents)), .v (.list false 4 (List.map (r_T_impl_Body false) w.Bodies))])), (12, 15, .pl (.one (.v (.list false 1 (List.map (rL false 1 (rK .i64)) w.Parents))))), (14, 17, .pl (.one (.v (.sc (.bool x17))))), (15, 18, .pl (.one (.v (.sc (.bool x17)))))] ?_
        refine (?_ : anyF X ?ops1_0_0 _ _ ?P1_0_0 _)
        have d1_0_0_0' : anyF X ?ops1_0_0 [0, 1, 2, 3, 4, 5, 6, 7, 8, 9, 10, 11, 12, 13, 14, 15, 16] [] ?P1_0_0 { N := 19, np := 2, nx := 2, sl := [(2, .pl (.one (.v (.sc (.bool x17)))))], ob := [] } := by
          refine fend (e2 := { N := 19, np := 2, nx := 2, sl := [(2, .pl (.one (.v (.sc (.bool x17)))))], ob := [] }) [] [] [] [] trivial ⟨rfl, shd [2] [] 2 rfl⟩
        have d1_0_0_1' : anyF X ?ops1_0_0 [0, 1, 2, 3, 4, 5, 6, 7, 8, 9, 11, 12, 13] [(10, 13, .pl (.agg [.v (.list false 1 (List.map (rL false 1 (rK .i64)) w.Parents)), .v (.list false 4 (List.map (r_T_impl_Body false) w.Bodies))])), (14, 17, .pl (.one (.v (.sc (.bool x17))))), (15, 18, .pl (.one (.v (.sc (.bool x17)))))] ?P1_0_0 { N := 19, np := 2, nx := 4, sl := [(1, .pl (.one (.ref 2 []))), (12, .pl (.one (.v (.sc (.bool x10))))), (16, .pl (.one (.ref 3 [])))], ob := [(2, .box true [.list false 1 (List.map (rL false 1 (rK .i64)) w.Parents), .list false 4 (List.map (r_T_impl_Body false) w.Bodies)]), (3, .list true 1 (List.map (rK .u64) x16))] } := by
          refine fnode [10, 14, 15] [.q 10 13 (.pl (.agg [.v (.list false 1 (List.map (rL false 1 (rK .i64)) w.Parents)), .v (.list false 4 (List.map (r_T_impl_Body false) w.Bodies))])) [], .q 14 17 (.pl (.one (.v (.sc (.bool x17))))) [10], .q 15 18 (.pl (.one (.v (.sc (.bool x17))))) [14], .m 16 [10, 14, 15] [0, 1, 2, 3, 4, 5, 6, 7, 8, 9, 10, 11, 12, 13, 14, 15, 16] []] [(10, 13), (14, 17), (15, 18)] [(10, true, [], []), (14, true, [10], []), (15, true, [14], []), (16, false, [10, 14, 15], [0, 1, 2, 3, 4, 5, 6, 7, 8, 9, 10, 11, 12, 13, 14, 15, 16])] ⟨?_, ?_, ?_, ?_, trivial⟩
          · refine obQ 0 ?_
            refine opsOn hc9_1_0 ?_
            refine ops H' ?_
            refine opsV_nil ⟨rfl, shd [13, 1, 12, 16] [(2, 2), (3, 3)] 4 rfl⟩
          · refine obQ 1 ?_
            refine opsOn hc9_1_0 ?_
            refine callG H' (fun _ => []) (W_impl_bodiesOk _ _ _ hy_x17) ?_
            refine opsV_nil ⟨rfl, shd [17, 1, 12, 16] [(2, 2), (3, 3)] 4 rfl⟩
          · refine obQ 2 ?_
            refine opsPick H' hc9_1_0 ?_
            refine opsV_nil ⟨rfl, shd [18, 1, 12, 16] [(2, 2), (3, 3)] 4 rfl⟩
          · refine obM ?_
            refine ops H' ?_
            refine opsV_nil ⟨rfl, .inl ⟨rfl, ?_⟩⟩
            exact anyFShd [2] [] 2 d1_0_0_0'
        have d1_0_0_2' : anyF X ?ops1_0_0 [0, 1, 2, 3, 4, 5, 6, 7, 8, 9, 11] [(10, 13, .pl (.agg [.v (.list false 1 (List.map (rL false 1 (rK .i64)) w.Parents)), .v (.list false 4 (List.map (r_T_impl_Body false) w.Bodies))])), (12, 15, .pl (.one (.v (.list false 1 (List.map (rL false 1 (rK .i64)) w.Parents))))), (14, 17, .pl (.one (.v (.sc (.bool x17))))), (15, 18, .pl (.one (.v (.sc (.bool x17)))))] ?P1_0_0 { N := 19, np := 2, nx := 3, sl := [(1, .pl (.one (.ref 2 []))), (12, .pl (.one (.v (.sc (.bool x10))))), (14, .pl (.one (.addr 2 [] 0 0 0)))], ob := [(2, .box true [.list false 1 (List.map (rL false 1 (rK .i64)) w.Parents), .list false 4 (List.map (r_T_impl_Body false) w.Bodies)])] } := by
          refine fnode [10, 12] [.q 10 13 (.pl (.agg [.v (.list false 1 (List.map (rL false 1 (rK .i64)) w.Parents)), .v (.list false 4 (List.map (r_T_impl_Body false) w.Bodies))])) [], .q 12 15 (.pl (.one (.v (.list false 1 (List.map (rL false 1 (rK .i64)) w.Parents))))) [], .m 13 [12] [0, 1, 2, 3, 4, 5, 6, 7, 8, 9, 11, 12, 13] [(10, 13, .pl (.agg [.v (.list false 1 (List.map (rL false 1 (rK .i64)) w.Parents)), .v (.list false 4 (List.map (r_T_impl_Body false) w.Bodies))])), (14, 17, .pl (.one (.v (.sc (.bool x17))))), (15, 18, .pl (.one (.v (.sc (.bool x17)))))]] [(10, 13), (12, 15), (14, 17), (15, 18)] [(10, true, [], []), (12, true, [], []), (13, false, [12], [0, 1, 2, 3, 4, 5, 6, 7, 8, 9, 11, 12, 13])] ⟨?_, ?_, ?_, trivial⟩
          · refine obQ 0 ?_
            refine opsOn hc9_1_0 ?_
            refine ops H' ?_
            refine opsV_nil ⟨rfl, shd [13, 1, 12, 14] [(2, 2)] 3 rfl⟩
          · refine obQ 1 ?_
            refine opsOn hc9_1_0 ?_
            refine ops H' ?_
            refine opsV_nil ⟨rfl, shd [15, 1, 12, 14] [(2, 2)] 3 rfl⟩
          · refine obM ?_
            refine opsOn hc9_1_0 ?_
            refine callG H' (fun _ => []) (W_impl_closures _ _ hy_x16) ?_
            refine opsV_nil ⟨rfl, .inl ⟨rfl, ?_⟩⟩
            exact anyFShd [1, 12, 16] [(2, 2), (3, 3)] 4 d1_0_0_1'
        have d1_0_0_3' : anyF X ?ops1_0_0 [0, 1, 2, 3, 4, 5] [(6, 9, .pl (.one (.v (.list false 1 (List.map (rL false 1 (rK .i64)) w.Parents))))), (7, 10, .pl (.one (.v (.sc (.bool x10))))), (8, 11, .pl (.one (.v (.sc (.bool x10))))), (9, 12, .pl (.one (.v (.sc (.bool x10))))), (10, 13, .pl (.agg [.v (.list false 1 (List.map (rL false 1 (rK .i64)) w.Parents)), .v (.list false 4 (List.map (r_T_impl_Body false) w.Bodies))])), (12, 15, .pl (.one (.v (.list false 1 (List.map (rL false 1 (rK .i64)) w.Parents))))), (14, 17, .pl (.one (.v (.sc (.bool x17))))), (15, 18, .pl (.one (.v (.sc (.bool x17)))))] ?P1_0_0 { N := 19, np := 2, nx := 3, sl := [(1, .pl (.one (.ref 2 []))), (7, .pl (.one (.v (.sc (.bool (decide ((w.Bodies.length : Int) ≤ 300))))))), (8, .pl (.one (.addr 2 [] 0 0 0)))], ob := [(2, .box true [.list false 1 (List.map (rL false 1 (rK .i64)) w.Parents), .list false 4 (List.map (r_T_impl_Body false) w.Bodies)])] } := by
          refine fnode [6, 7, 8, 9, 10] [.q 6 9 (.pl (.one (.v (.list false 1 (List.map (rL false 1 (rK .i64)) w.Parents))))) [], .q 7 10 (.pl (.one (.v (.sc (.bool x10))))) [6], .q 8 11 (.pl (.one (.v (.sc (.bool x10))))) [7], .q 9 12 (.pl (.one (.v (.sc (.bool x10))))) [7, 8], .q 10 13 (.pl (.agg [.v (.list false 1 (List.map (rL false 1 (rK .i64)) w.Parents)), .v (.list false 4 (List.map (r_T_impl_Body false) w.Bodies))])) [9], .m 11 [9, 7, 8, 6] [0, 1, 2, 3, 4, 5, 6, 7, 8, 9, 11] [(10, 13, .pl (.agg [.v (.list false 1 (List.map (rL false 1 (rK .i64)) w.Parents)), .v (.list false 4 (List.map (r_T_impl_Body false) w.Bodies))])), (12, 15, .pl (.one (.v (.list false 1 (List.map (rL false 1 (rK .i64)) w.Parents))))), (14, 17, .pl (.one (.v (.sc (.bool x17))))), (15, 18, .pl (.one (.v (.sc (.bool x17)))))]] [(6, 9), (7, 10), (8, 11), (9, 12), (10, 13), (12, 15), (14, 17), (15, 18)] [(6, true, [], []), (7, true, [6], []), (8, true, [7], []), (9, true, [7, 8], []), (10, true, [9], []), (11, false, [9, 7, 8, 6], [0, 1, 2, 3, 4, 5, 6, 7, 8, 9, 11])] ⟨?_, ?_, ?_, ?_, ?_, ?_, trivial⟩
          · refine obQ 0 ?_
            refine opsOn hc4_1_0 ?_
            refine ops H' ?_
            refine opsV_nil ⟨rfl, shd [9, 1, 7, 8] [(2, 2)] 3 rfl⟩
          · refine obQ 1 ?_
            refine opsOn hc4_1_0 ?_
            refine callG H' (fun _ => []) (W_impl_GraphOk _ _ hy_x10) ?_
            refine opsV_nil ⟨rfl, shd [10, 1, 7, 8] [(2, 2)] 3 rfl⟩
          · refine obQ 2 ?_
            refine opsPick H' hc4_1_0 ?_
            refine opsV_nil ⟨rfl, shd [11, 1, 7, 8] [(2, 2)] 3 rfl⟩
          · refine obQ 3 ?_
            refine ops H' ?_
            refine opsV_nil ⟨rfl, shd [12, 1, 7, 8] [(2, 2)] 3 rfl⟩
          · refine obQ 4 ?_
            refine opsOn hc9_1_0 ?_
            refine ops H' ?_
            refine opsV_nil ⟨rfl, shd [13, 1, 7, 8] [(2, 2)] 3 rfl⟩
          · refine obM ?_
            refine opsOn hc9_1_0 ?_
            refine ops H' ?_
            refine opsV_nil ⟨rfl, .inl ⟨rfl, ?_⟩⟩
            exact anyFShd [1, 12, 14] [(2, 2)] 3 d1_0_0_2'
        have d1_0_0_4' : anyF X ?ops1_0_0 [0] [(1, 4, .pl (.one (.v (.list false 4 (List.map (r_T_impl_Body false) w.Bodies))))), (2, 5, .pl (.one (.v (.sc (.int .i64 (w.Bodies.length : Int)))))), (3, 6, .pl (.one (.v (.sc (.bool (decide ((w.Bodies.length : Int) ≤ 300))))))), (4, 7, .pl (.one (.v (.sc (.bool (decide ((w.Bodies.length : Int) ≤ 300))))))), (6, 9, .pl (.one (.v (.list false 1 (List.map (rL false 1 (rK .i64)) w.Parents))))), (7, 10, .pl (.one (.v (.sc (.bool x10))))), (8, 11, .pl (.one (.v (.sc (.bool x10))))), (9, 12, .pl (.one (.v (.sc (.bool x10))))), (10, 13, .pl (.agg [.v (.list false 1 (List.map (rL false 1 (rK .i64)) w.Parents)), .v (.list false 4 (List.map (r_T_impl_Body false) w.Bodies))])), (12, 15, .pl (.one (.v (.list false 1 (List.map (rL false 1 (rK .i64)) w.Parents))))), (14, 17, .pl (.one (.v (.sc (.bool x17))))), (15, 18, .pl (.one (.v (.sc (.bool x17)))))] ?P1_0_0 { N := 19, np := 2, nx := 3, sl := [(1, .pl (.one (.ref 2 []))), (3, .pl (.one (.addr 2 [] 0 0 1)))], ob := [(2, .box true [.list false 1 (List.map (rL false 1 (rK .i64)) w.Parents), .list false 4 (List.map (r_T_impl_Body false) w.Bodies)])] } := by
          refine fnode [1, 2, 3, 4] [.q 1 4 (.pl (.one (.v (.list false 4 (List.map (r_T_impl_Body false) w.Bodies))))) [], .q 2 5 (.pl (.one (.v (.sc (.int .i64 (w.Bodies.length : Int)))))) [1], .q 3 6 (.pl (.one (.v (.sc (.bool (decide ((w.Bodies.length : Int) ≤ 300))))))) [2], .q 4 7 (.pl (.one (.v (.sc (.bool (decide ((w.Bodies.length : Int) ≤ 300))))))) [3], .m 5 [4, 3, 2, 1] [0, 1, 2, 3, 4, 5] [(6, 9, .pl (.one (.v (.list false 1 (List.map (rL false 1 (rK .i64)) w.Parents))))), (7, 10, .pl (.one (.v (.sc (.bool x10))))), (8, 11, .pl (.one (.v (.sc (.bool x10))))), (9, 12, .pl (.one (.v (.sc (.bool x10))))), (10, 13, .pl (.agg [.v (.list false 1 (List.map (rL false 1 (rK .i64)) w.Parents)), .v (.list false 4 (List.map (r_T_impl_Body false) w.Bodies))])), (12, 15, .pl (.one (.v (.list false 1 (List.map (rL false 1 (rK .i64)) w.Parents))))), (14, 17, .pl (.one (.v (.sc (.bool x17))))), (15, 18, .pl (.one (.v (.sc (.bool x17)))))]] [(1, 4), (2, 5), (3, 6), (4, 7), (6, 9), (7, 10), (8, 11), (9, 12), (10, 13), (12, 15), (14, 17), (15, 18)] [(1, true, [], []), (2, true, [1], []), (3, true, [2], []), (4, true, [3], []), (5, false, [4, 3, 2, 1], [0, 1, 2, 3, 4, 5])] ⟨?_, ?_, ?_, ?_, ?_, trivial⟩
          · refine obQ 0 ?_
            refine ops H' ?_
            refine opsV_nil ⟨rfl, shd [4, 1, 3] [(2, 2)] 3 rfl⟩
          · refine obQ 1 ?_
            refine ops H' ?_
            refine opsV_nil ⟨rfl, shd [5, 1, 3] [(2, 2)] 3 rfl⟩
          · refine obQ 2 ?_
            refine ops H' ?_
            refine opsV_nil ⟨rfl, shd [6, 1, 3] [(2, 2)] 3 rfl⟩
          · refine obQ 3 ?_
            refine ops H' ?_
            refine opsV_nil ⟨rfl, shd [7, 1, 3] [(2, 2)] 3 rfl⟩
          · refine obM ?_
            refine opsOn hc4_1_0 ?_
            refine ops H' ?_
            refine opsV_nil ⟨rfl, .inl ⟨rfl, ?_⟩⟩
            exact anyFShd [1, 7, 8] [(2, 2)] 3 d1_0_0_3'
        refine fpure H' 0 [0] [(1, 4), (2, 5), (3, 6), (4, 7), (6, 9), (7, 10), (8, 11), (9, 12), (10, 13), (12, 15), (14, 17), (15, 18)] ?_
        exact anyFShd [1, 3] [(2, 2)] 3 d1_0_0_4'
      · replace gh1_1_0 := (ifF hc9_1_0).symm.trans gh1_1_0
        obtain rfl := Option.some.inj gh1_1_0
        refine regAnyF [(1, 4, .pl (.one (.v (.list false 4 (List.map (r_T_impl_Body false) w.Bodies))))), (2, 5, .pl (.one (.v (.sc (.int .i64 (w.Bodies.length : Int)))))), (3, 6, .pl (.one (.v (.sc (.bool (decide ((w.Bodies.length : Int) ≤ 300))))))), (4, 7, .pl (.one (.v (.sc (.bool (decide ((w.Bodies.length : Int) ≤ 300))))))), (6, 9, .pl (.one (.v (.list false 1 (List.map (rL false 1 (rK .i64)) w.Parents))))), (7, 10, .pl (.one (.v (.sc (.bool x10))))), (8, 11, .pl (.one (.v (.sc (.bool x10))))), (9, 12, .pl (.one (.v (.sc (.bool x10))))), (10, 13, .tup []), (11, 14, .tup []), (12, 15, .tup []), (13, 16, .tup []), (14, 17, .tup []), (15, 18, .pl (.one (.v (.sc (.bool false)))))] ?_
        refine (?_ : anyF X ?ops1_0_1 _ _ ?P1_0_1 _)
        have d1_0_1_0' : anyF X ?ops1_0_1 [0, 1, 2, 3, 4, 5, 6, 7, 8, 9, 10, 11, 12, 13, 14, 15, 16] [] ?P1_0_1 { N := 19, np := 2, nx := 2, sl := [(2, .pl (.one (.v (.sc (.bool false)))))], ob := [] } := by
          refine fend (e2 := { N := 19, np := 2, nx := 2, sl := [(2, .pl (.one (.v (.sc (.bool false)))))], ob := [] }) [] [] [] [] trivial ⟨rfl, shd [2] [] 2 rfl⟩
        have d1_0_1_1' : anyF X ?ops1_0_1 [0, 1, 2, 3, 4, 5] [(6, 9, .pl (.one (.v (.list false 1 (List.map (rL false 1 (rK .i64)) w.Parents))))), (7, 10, .pl (.one (.v (.sc (.bool x10))))), (8, 11, .pl (.one (.v (.sc (.bool x10))))), (9, 12, .pl (.one (.v (.sc (.bool x10))))), (10, 13, .tup []), (11, 14, .tup []), (12, 15, .tup []), (13, 16, .tup []), (14, 17, .tup []), (15, 18, .pl (.one (.v (.sc (.bool false)))))] ?P1_0_1 { N := 19, np := 2, nx := 3, sl := [(1, .pl (.one (.ref 2 []))), (7, .pl (.one (.v (.sc (.bool (decide ((w.Bodies.length : Int) ≤ 300))))))), (8, .pl (.one (.addr 2 [] 0 0 0)))], ob := [(2, .box true [.list false 1 (List.map (rL false 1 (rK .i64)) w.Parents), .list false 4 (List.map (r_T_impl_Body false) w.Bodies)])] } := by
          refine fnode [6, 7, 8, 9, 10, 11, 12, 13, 14, 15] [.q 6 9 (.pl (.one (.v (.list false 1 (List.map (rL false 1 (rK .i64)) w.Parents))))) [], .q 7 10 (.pl (.one (.v (.sc (.bool x10))))) [6], .q 8 11 (.pl (.one (.v (.sc (.bool x10))))) [7], .q 9 12 (.pl (.one (.v (.sc (.bool x10))))) [7, 8], .q 10 13 (.tup []) [9], .q 11 14 (.tup []) [9], .q 12 15 (.tup []) [9, 11], .q 13 16 (.tup []) [9, 12], .q 14 17 (.tup []) [9, 10, 13], .q 15 18 (.pl (.one (.v (.sc (.bool false))))) [9, 14], .m 16 [6, 7, 8, 9, 10, 11, 12, 13, 14, 15] [0, 1, 2, 3, 4, 5, 6, 7, 8, 9, 10, 11, 12, 13, 14, 15, 16] []] [(6, 9), (7, 10), (8, 11), (9, 12), (10, 13), (11, 14), (12, 15), (13, 16), (14, 17), (15, 18)] [(6, true, [], []), (7, true, [6], []), (8, true, [7], []), (9, true, [7, 8], []), (10, true, [9], []), (11, true, [9], []), (12, true, [9, 11], []), (13, true, [9, 12], []), (14, true, [9, 10, 13], []), (15, true, [9, 14], []), (16, false, [6, 7, 8, 9, 10, 11, 12, 13, 14, 15], [0, 1, 2, 3, 4, 5, 6, 7, 8, 9, 10, 11, 12, 13, 14, 15, 16])] ⟨?_, ?_, ?_, ?_, ?_, ?_, ?_, ?_, ?_, ?_, ?_, trivial⟩
          · refine obQ 0 ?_
            refine opsOn hc4_1_0 ?_
            refine ops H' ?_
            refine opsV_nil ⟨rfl, shd [9, 1, 7, 8] [(2, 2)] 3 rfl⟩
          · refine obQ 1 ?_
            refine opsOn hc4_1_0 ?_
            refine callG H' (fun _ => []) (W_impl_GraphOk _ _ hy_x10) ?_
            refine opsV_nil ⟨rfl, shd [10, 1, 7, 8] [(2, 2)] 3 rfl⟩
          · refine obQ 2 ?_
            refine opsPick H' hc4_1_0 ?_
            refine opsV_nil ⟨rfl, shd [11, 1, 7, 8] [(2, 2)] 3 rfl⟩
          · refine obQ 3 ?_
            refine ops H' ?_
            refine opsV_nil ⟨rfl, shd [12, 1, 7, 8] [(2, 2)] 3 rfl⟩
          · refine obQ 4 ?_
            refine opsOff hc9_1_0 ?_
            refine opsV_nil ⟨rfl, shd [13, 1, 7, 8] [(2, 2)] 3 rfl⟩
          · refine obQ 5 ?_
            refine opsOff hc9_1_0 ?_
            refine opsV_nil ⟨rfl, shd [14, 1, 7, 8] [(2, 2)] 3 rfl⟩
          · refine obQ 6 ?_
            refine opsOff hc9_1_0 ?_
            refine opsV_nil ⟨rfl, shd [15, 1, 7, 8] [(2, 2)] 3 rfl⟩
          · refine obQ 7 ?_
            refine opsOff hc9_1_0 ?_
            refine opsV_nil ⟨rfl, shd [16, 1, 7, 8] [(2, 2)] 3 rfl⟩
          · refine obQ 8 ?_
            refine opsOff hc9_1_0 ?_
            refine opsV_nil ⟨rfl, shd [17, 1, 7, 8] [(2, 2)] 3 rfl⟩
          · refine obQ 9 ?_
            refine opsPick H' hc9_1_0 ?_
            refine opsV_nil ⟨rfl, shd [18, 1, 7, 8] [(2, 2)] 3 rfl⟩
          · refine obM ?_
            refine ops H' ?_
            refine opsV_nil ⟨rfl, .inl ⟨rfl, ?_⟩⟩
            exact anyFShd [2] [] 2 d1_0_1_0'
        have d1_0_1_2' : anyF X ?ops1_0_1 [0] [(1, 4, .pl (.one (.v (.list false 4 (List.map (r_T_impl_Body false) w.Bodies))))), (2, 5, .pl (.one (.v (.sc (.int .i64 (w.Bodies.length : Int)))))), (3, 6, .pl (.one (.v (.sc (.bool (decide ((w.Bodies.length : Int) ≤ 300))))))), (4, 7, .pl (.one (.v (.sc (.bool (decide ((w.Bodies.length : Int) ≤ 300))))))), (6, 9, .pl (.one (.v (.list false 1 (List.map (rL false 1 (rK .i64)) w.Parents))))), (7, 10, .pl (.one (.v (.sc (.bool x10))))), (8, 11, .pl (.one (.v (.sc (.bool x10))))), (9, 12, .pl (.one (.v (.sc (.bool x10))))), (10, 13, .tup []), (11, 14, .tup []), (12, 15, .tup []), (13, 16, .tup []), (14, 17, .tup []), (15, 18, .pl (.one (.v (.sc (.bool false)))))] ?P1_0_1 { N := 19, np := 2, nx := 3, sl := [(1, .pl (.one (.ref 2 []))), (3, .pl (.one (.addr 2 [] 0 0 1)))], ob := [(2, .box true [.list false 1 (List.map (rL false 1 (rK .i64)) w.Parents), .list false 4 (List.map (r_T_impl_Body false) w.Bodies)])] } := by
          refine fnode [1, 2, 3, 4] [.q 1 4 (.pl (.one (.v (.list false 4 (List.map (r_T_impl_Body false) w.Bodies))))) [], .q 2 5 (.pl (.one (.v (.sc (.int .i64 (w.Bodies.length : Int)))))) [1], .q 3 6 (.pl (.one (.v (.sc (.bool (decide ((w.Bodies.length : Int) ≤ 300))))))) [2], .q 4 7 (.pl (.one (.v (.sc (.bool (decide ((w.Bodies.length : Int) ≤ 300))))))) [3], .m 5 [4, 3, 2, 1] [0, 1, 2, 3, 4, 5] [(6, 9, .pl (.one (.v (.list false 1 (List.map (rL false 1 (rK .i64)) w.Parents))))), (7, 10, .pl (.one (.v (.sc (.bool x10))))), (8, 11, .pl (.one (.v (.sc (.bool x10))))), (9, 12, .pl (.one (.v (.sc (.bool x10))))), (10, 13, .tup []), (11, 14, .tup []), (12, 15, .tup []), (13, 16, .tup []), (14, 17, .tup []), (15, 18, .pl (.one (.v (.sc (.bool false)))))]] [(1, 4), (2, 5), (3, 6), (4, 7), (6, 9), (7, 10), (8, 11), (9, 12), (10, 13), (11, 14), (12, 15), (13, 16), (14, 17), (15, 18)] [(1, true, [], []), (2, true, [1], []), (3, true, [2], []), (4, true, [3], []), (5, false, [4, 3, 2, 1], [0, 1, 2, 3, 4, 5])] ⟨?_, ?_, ?_, ?_, ?_, trivial⟩
          · refine obQ 0 ?_
            refine ops H' ?_
            refine opsV_nil ⟨rfl, shd [4, 1, 3] [(2, 2)] 3 rfl⟩
          · refine obQ 1 ?_
            refine ops H' ?_
            refine opsV_nil ⟨rfl, shd [5, 1, 3] [(2, 2)] 3 rfl⟩
          · refine obQ 2 ?_
            refine ops H' ?_
            refine opsV_nil ⟨rfl, shd [6, 1, 3] [(2, 2)] 3 rfl⟩
          · refine obQ 3 ?_
            refine ops H' ?_
            refine opsV_nil ⟨rfl, shd [7, 1, 3] [(2, 2)] 3 rfl⟩
          · refine obM ?_
            refine opsOn hc4_1_0 ?_
            refine ops H' ?_
            refine opsV_nil ⟨rfl, .inl ⟨rfl, ?_⟩⟩
            exact anyFShd [1, 7, 8] [(2, 2)] 3 d1_0_1_1'
        refine fpure H' 0 [0] [(1, 4), (2, 5), (3, 6), (4, 7), (6, 9), (7, 10), (8, 11), (9, 12), (10, 13), (11, 14), (12, 15), (13, 16), (14, 17), (15, 18)] ?_
        exact anyFShd [1, 3] [(2, 2)] 3 d1_0_1_2'
    · replace gh0_1_0 := (ifF hc4_1_0).symm.trans gh0_1_0
      obtain rfl := Option.some.inj gh0_1_0
      have hc9_1_0 : false = false := rfl
      replace gh1_1_0 := (ifF hc9_1_0).symm.trans gh1_1_0
      obtain rfl := Option.some.inj gh1_1_0
      refine regAnyF [(1, 4, .pl (.one (.v (.list false 4 (List.map (r_T_impl_Body false) w.Bodies))))), (2, 5, .pl (.one (.v (.sc (.int .i64 (w.Bodies.length : Int)))))), (3, 6, .pl (.one (.v (.sc (.bool (decide ((w.Bodies.length : Int) ≤ 300))))))), (4, 7, .pl (.one (.v (.sc (.bool (decide ((w.Bodies.length : Int) ≤ 300))))))), (5, 8, .tup []), (6, 9, .tup []), (7, 10, .tup []), (8, 11, .pl (.one (.v (.sc (.bool false))))), (9, 12, .pl (.one (.v (.sc (.bool false))))), (10, 13, .tup []), (11, 14, .tup []), (12, 15, .tup []), (13, 16, .tup []), (14, 17, .tup []), (15, 18, .pl (.one (.v (.sc (.bool false)))))] ?_
      refine (?_ : anyF X ?ops1_0_2 _ _ ?P1_0_2 _)
      have d1_0_2_0' : anyF X ?ops1_0_2 [0, 1, 2, 3, 4, 5, 6, 7, 8, 9, 10, 11, 12, 13, 14, 15, 16] [] ?P1_0_2 { N := 19, np := 2, nx := 2, sl := [(2, .pl (.one (.v (.sc (.bool false)))))], ob := [] } := by
        refine fend (e2 := { N := 19, np := 2, nx := 2, sl := [(2, .pl (.one (.v (.sc (.bool false)))))], ob := [] }) [] [] [] [] trivial ⟨rfl, shd [2] [] 2 rfl⟩
      have d1_0_2_1' : anyF X ?ops1_0_2 [0] [(1, 4, .pl (.one (.v (.list false 4 (List.map (r_T_impl_Body false) w.Bodies))))), (2, 5, .pl (.one (.v (.sc (.int .i64 (w.Bodies.length : Int)))))), (3, 6, .pl (.one (.v (.sc (.bool (decide ((w.Bodies.length : Int) ≤ 300))))))), (4, 7, .pl (.one (.v (.sc (.bool (decide ((w.Bodies.length : Int) ≤ 300))))))), (5, 8, .tup []), (6, 9, .tup []), (7, 10, .tup []), (8, 11, .pl (.one (.v (.sc (.bool false))))), (9, 12, .pl (.one (.v (.sc (.bool false))))), (10, 13, .tup []), (11, 14, .tup []), (12, 15, .tup []), (13, 16, .tup []), (14, 17, .tup []), (15, 18, .pl (.one (.v (.sc (.bool false)))))] ?P1_0_2 { N := 19, np := 2, nx := 3, sl := [(1, .pl (.one (.ref 2 []))), (3, .pl (.one (.addr 2 [] 0 0 1)))], ob := [(2, .box true [.list false 1 (List.map (rL false 1 (rK .i64)) w.Parents), .list false 4 (List.map (r_T_impl_Body false) w.Bodies)])] } := by
        refine fnode [1, 2, 3, 4, 5, 6, 7, 8, 9, 10, 11, 12, 13, 14, 15] [.q 1 4 (.pl (.one (.v (.list false 4 (List.map (r_T_impl_Body false) w.Bodies))))) [], .q 2 5 (.pl (.one (.v (.sc (.int .i64 (w.Bodies.length : Int)))))) [1], .q 3 6 (.pl (.one (.v (.sc (.bool (decide ((w.Bodies.length : Int) ≤ 300))))))) [2], .q 4 7 (.pl (.one (.v (.sc (.bool (decide ((w.Bodies.length : Int) ≤ 300))))))) [3], .q 5 8 (.tup []) [4], .q 6 9 (.tup []) [4, 5], .q 7 10 (.tup []) [4, 6], .q 8 11 (.pl (.one (.v (.sc (.bool false))))) [4, 7], .q 9 12 (.pl (.one (.v (.sc (.bool false))))) [7, 8], .q 10 13 (.tup []) [9], .q 11 14 (.tup []) [9], .q 12 15 (.tup []) [9, 11], .q 13 16 (.tup []) [9, 12], .q 14 17 (.tup []) [9, 10, 13], .q 15 18 (.pl (.one (.v (.sc (.bool false))))) [9, 14], .m 16 [1, 2, 3, 4, 5, 6, 7, 8, 9, 10, 11, 12, 13, 14, 15] [0, 1, 2, 3, 4, 5, 6, 7, 8, 9, 10, 11, 12, 13, 14, 15, 16] []] [(1, 4), (2, 5), (3, 6), (4, 7), (5, 8), (6, 9), (7, 10), (8, 11), (9, 12), (10, 13), (11, 14), (12, 15), (13, 16), (14, 17), (15, 18)] [(1, true, [], []), (2, true, [1], []), (3, true, [2], []), (4, true, [3], []), (5, true, [4], []), (6, true, [4, 5], []), (7, true, [4, 6], []), (8, true, [4, 7], []), (9, true, [7, 8], []), (10, true, [9], []), (11, true, [9], []), (12, true, [9, 11], []), (13, true, [9, 12], []), (14, true, [9, 10, 13], []), (15, true, [9, 14], []), (16, false, [1, 2, 3, 4, 5, 6, 7, 8, 9, 10, 11, 12, 13, 14, 15], [0, 1, 2, 3, 4, 5, 6, 7, 8, 9, 10, 11, 12, 13, 14, 15, 16])] ⟨?_, ?_, ?_, ?_, ?_, ?_, ?_, ?_, ?_, ?_, ?_, ?_, ?_, ?_, ?_, ?_, trivial⟩
        · refine obQ 0 ?_
          refine ops H' ?_
          refine opsV_nil ⟨rfl, shd [4, 1, 3] [(2, 2)] 3 rfl⟩
        · refine obQ 1 ?_
          refine ops H' ?_
          refine opsV_nil ⟨rfl, shd [5, 1, 3] [(2, 2)] 3 rfl⟩
        · refine obQ 2 ?_
          refine ops H' ?_
          refine opsV_nil ⟨rfl, shd [6, 1, 3] [(2, 2)] 3 rfl⟩
        · refine obQ 3 ?_
          refine ops H' ?_
          refine opsV_nil ⟨rfl, shd [7, 1, 3] [(2, 2)] 3 rfl⟩
        · refine obQ 4 ?_
          refine opsOff hc4_1_0 ?_
          refine opsV_nil ⟨rfl, shd [8, 1, 3] [(2, 2)] 3 rfl⟩
        · refine obQ 5 ?_
          refine opsOff hc4_1_0 ?_
          refine opsV_nil ⟨rfl, shd [9, 1, 3] [(2, 2)] 3 rfl⟩
        · refine obQ 6 ?_
          refine opsOff hc4_1_0 ?_
          refine opsV_nil ⟨rfl, shd [10, 1, 3] [(2, 2)] 3 rfl⟩
        · refine obQ 7 ?_
          refine opsPick H' hc4_1_0 ?_
          refine opsV_nil ⟨rfl, shd [11, 1, 3] [(2, 2)] 3 rfl⟩
        · refine obQ 8 ?_
          refine ops H' ?_
          refine opsV_nil ⟨rfl, shd [12, 1, 3] [(2, 2)] 3 rfl⟩
        · refine obQ 9 ?_
          refine opsOff hc9_1_0 ?_
          refine opsV_nil ⟨rfl, shd [13, 1, 3] [(2, 2)] 3 rfl⟩
        · refine obQ 10 ?_
          refine opsOff hc9_1_0 ?_
          refine opsV_nil ⟨rfl, shd [14, 1, 3] [(2, 2)] 3 rfl⟩
        · refine obQ 11 ?_
          refine opsOff hc9_1_0 ?_
          refine opsV_nil ⟨rfl, shd [15, 1, 3] [(2, 2)] 3 rfl⟩
        · refine obQ 12 ?_
          refine opsOff hc9_1_0 ?_
          refine opsV_nil ⟨rfl, shd [16, 1, 3] [(2, 2)] 3 rfl⟩
        · refine obQ 13 ?_
          refine opsOff hc9_1_0 ?_
          refine opsV_nil ⟨rfl, shd [17, 1, 3] [(2, 2)] 3 rfl⟩
        · refine obQ 14 ?_
          refine opsPick H' hc9_1_0 ?_
          refine opsV_nil ⟨rfl, shd [18, 1, 3] [(2, 2)] 3 rfl⟩
        · refine obM ?_
          refine ops H' ?_
          refine opsV_nil ⟨rfl, .inl ⟨rfl, ?_⟩⟩
          exact anyFShd [2] [] 2 d1_0_2_0'
      refine fpure H' 0 [0] [(1, 4), (2, 5), (3, 6), (4, 7), (5, 8), (6, 9), (7, 10), (8, 11), (9, 12), (10, 13), (11, 14), (12, 15), (13, 16), (14, 17), (15, 18)] ?_
      exact anyFShd [1, 3] [(2, 2)] 3 d1_0_2_1'
  · rintro e' rfl
    refine contN ?_
    refine retN ?_
    obtain rfl := Option.some.inj h0'
    exact outG H' rfl rfl
theorem W_impl_Weave_areVersions (w : T_impl_Weave) (list_ : List Int) (r' : Bool) (h0' : impl_Weave_areVersions w list_ = some r') : Fn X 120 [.one (.box false [.list false 1 (List.map (rL false 1 (rK .i64)) w.Parents), .list false 4 (List.map (r_T_impl_Body false) w.Bodies)]), .one (.list false 1 (List.map (rK .i64) list_))] [.one (.sc (.bool r'))] [] := by
  have H' := And.intro t3 (And.intro t38 (And.intro t41 (And.intro t44 (And.intro R_Li64 (And.intro R_T_impl_Body (R_i64))))))
  unfold impl_Weave_areVersions at h0'
  refine Fn.start (fn := f120) (N := 22) (res := [.tmp 4]) rfl rfl rfl rfl rfl (by simp) ?_
  refine enterG H' ?_
  refine wpV_seq1 ?_
  refine wpV_region ?_
  refine ops H' ?_
  refine opsN ?_
  refine wpV_seqJ (fun e' => impl_Weave_areVersions_j1 = some r' ∧ e' = { N := 22, np := 2, nx := 2, sl := [], ob := [] }) ?_ ?_
  · refine wpV_seq1 ?_
    refine wpV_region ?_
    refine ops H' ?_
    refine opsN ?_
    obtain ⟨p, hl', h0'⟩ := Option.bind_eq_some_iff.1 h0'
    refine wpV_block ?_
    refine wpV_loopM (fun x9 e' => e' = { N := 22, np := 2, nx := 2, sl := [(0, .pl (.one (.v (.box false [.list false 1 (List.map (rL false 1 (rK .i64)) w.Parents), .list false 4 (List.map (r_T_impl_Body false) w.Bodies)])))), (7, .pl (.one (.v (.list false 1 (List.map (rK .i64) list_))))), (8, .pl (.one (.v (.sc (.int .i64 (list_.length : Int)))))), (9, .pl (.one (.v (.sc (.int .i64 x9)))))], ob := [] }) hl' (shd [0, 7, 8, 9] [] 2 rfl) ?_
    rintro x9 y1' e' h1' rfl
    replace h1' : impl_Weave_areVersions_l1 w list_ x9 = some y1' := h1'
    unfold impl_Weave_areVersions_l1 at h1'
    refine wpV_seq1 ?_
    refine wpV_region ?_
    refine ops H' ?_
    refine opsN ?_
    refine wpV_seq1 ?_
    refine wpV_split (fun hc' => ?_) (fun hc' => ?_)
    · replace h1' := (ifT hc').symm.trans h1'
      refine skipN ?_
      refine wpV_seq1 ?_
      refine wpV_block ?_
      refine wpV_seq1 ?_
      refine wpV_region ?_
      obtain ⟨x, hv', h1'⟩ := Option.bind_eq_some_iff.1 h1'
      have H' := And.intro (geti_f hv') H'
      refine ops H' ?_
      refine opsN ?_
      refine wpV_seq1 ?_
      refine wpV_region ?_
      refine ops H' ?_
      obtain ⟨x19, hy', h1'⟩ := Option.bind_eq_some_iff.1 h1'
      refine callG H' (fun _ => []) (W_impl_isPlace _ _ _ hy') ?_
      refine ops H' ?_
      refine opsN ?_
      refine wpV_split (fun hc' => ?_) (fun hc' => ?_)
      · replace h1' := (ifT hc').symm.trans h1'
        refine wpV_seq1 ?_
        refine wpV_region ?_
        refine ops H' ?_
        refine opsN ?_
        refine retN ?_
        obtain rfl := Option.some.inj h1'
        refine ⟨_, rfl, fun hr' => ?_⟩
        subst hr'
        obtain rfl := Option.some.inj h0'
        exact outG H' rfl rfl
      · replace h1' := (ifF hc').symm.trans h1'
        refine skipN ?_
        refine wpV_region ?_
        refine ops H' ?_
        refine opsN ?_
        obtain rfl := Option.some.inj h1'
        exact shd [0, 7, 8, 9] [] 2 ⟨_, rfl, rfl⟩
    · replace h1' := (ifF hc').symm.trans h1'
      refine exitN ?_
      obtain rfl := Option.some.inj h1'
      refine ⟨_, rfl, fun hr' => ?_⟩
      subst hr'
      exact shd [] [] 2 ⟨h0', rfl⟩
  · rintro e' ⟨h0', rfl⟩
    unfold impl_Weave_areVersions_j1 at h0'
    refine wpV_seq1 ?_
    refine wpV_region ?_
    refine ops H' ?_
    refine opsN ?_
    refine retN ?_
    obtain rfl := Option.some.inj h0'
    exact outG H' rfl rfl
theorem W_impl_versionsCode (w : T_impl_Weave) (list_ : List Int) (r' : Int) (h0' : impl_versionsCode w list_ = some r') : Fn X 123 [.agg [.list false 1 (List.map (rL false 1 (rK .i64)) w.Parents), .list false 4 (List.map (r_T_impl_Body false) w.Bodies)], .one (.list false 1 (List.map (rK .i64) list_))] [.one (.sc (.int .i64 r'))] [] := by
  have H' := And.intro t41 (And.intro R_Li64 (And.intro R_T_impl_Body (R_i64)))
  unfold impl_versionsCode at h0'
  refine Fn.start (fn := f123) (N := 13) (res := [.tmp 4]) rfl rfl rfl rfl rfl (by simp) ?_
  refine enterG H' ?_
  refine wpV_seq1 ?_
  refine wpV_region ?_
  refine ops H' ?_
  refine opsN ?_
  refine wpV_seq1 ?_
  refine wpV_block ?_
  refine wpV_seq1 ?_
  refine wpV_region ?_
  refine ops H' ?_
  obtain ⟨x7, hy', h0'⟩ := Option.bind_eq_some_iff.1 h0'
  refine callG H' (fun _ => []) (W_impl_WeaveOk _ _ hy') ?_
  refine ops H' ?_
  refine opsN ?_
  refine wpV_split (fun hc' => ?_) (fun hc' => ?_)
  · replace h0' := (ifT hc').symm.trans h0'
    refine wpV_seq1 ?_
    refine wpV_region ?_
    refine ops H' ?_
    refine opsN ?_
    refine retN ?_
    obtain rfl := Option.some.inj h0'
    exact outG H' rfl rfl
  · replace h0' := (ifF hc').symm.trans h0'
    refine wpV_seq1 ?_
    refine wpV_region ?_
    refine ops H' ?_
    obtain ⟨x11, hy', h0'⟩ := Option.bind_eq_some_iff.1 h0'
    refine callG H' (fun _ => []) (W_impl_Weave_areVersions _ _ _ hy') ?_
    refine ops H' ?_
    refine opsN ?_
    refine wpV_split (fun hc' => ?_) (fun hc' => ?_)
    · replace h0' := (ifT hc').symm.trans h0'
      refine wpV_seq1 ?_
      refine wpV_region ?_
      refine ops H' ?_
      refine opsN ?_
      refine retN ?_
      obtain rfl := Option.some.inj h0'
      exact outG H' rfl rfl
    · replace h0' := (ifF hc').symm.trans h0'
      refine skipN ?_
      refine wpV_seq1 ?_
      refine wpV_region ?_
      refine ops H' ?_
      refine opsN ?_
      refine retN ?_
      obtain rfl := Option.some.inj h0'
      exact outG H' rfl rfl
theorem W_slices_Index_int_int (s : List Int) (v : Int) (r' : Int) (h0' : slices_Index_int_int s v = some r') : Fn X 194 [.one (.list false 1 (List.map (rK .i64) s)), .one (.sc (.int .i64 v))] [.one (.sc (.int .i64 r'))] [] := by
  have H' := And.intro t3 (And.intro t44 (R_i64))
  unfold slices_Index_int_int at h0'
  refine Fn.start (fn := f194) (N := 19) (res := [.tmp 4]) rfl rfl rfl rfl rfl (by simp) ?_
  refine enterG H' ?_
  refine wpV_seq1 ?_
  refine wpV_region ?_
  refine ops H' ?_
  refine opsN ?_
  refine wpV_seqJ (fun e' => slices_Index_int_int_j1 = some r' ∧ e' = { N := 19, np := 2, nx := 2, sl := [], ob := [] }) ?_ ?_
  · refine wpV_seq1 ?_
    refine wpV_region ?_
    refine ops H' ?_
    refine opsN ?_
    obtain ⟨p, hl', h0'⟩ := Option.bind_eq_some_iff.1 h0'
    refine wpV_block ?_
    refine wpV_loopM (fun x8 e' => e' = { N := 19, np := 2, nx := 2, sl := [(0, .pl (.one (.v (.list false 1 (List.map (rK .i64) s))))), (1, .pl (.one (.v (.sc (.int .i64 v))))), (7, .pl (.one (.v (.sc (.int .i64 (s.length : Int)))))), (8, .pl (.one (.v (.sc (.int .i64 x8)))))], ob := [] }) hl' (shd [0, 1, 7, 8] [] 2 rfl) ?_
    rintro x8 y1' e' h1' rfl
    replace h1' : slices_Index_int_int_l1 s v x8 = some y1' := h1'
    unfold slices_Index_int_int_l1 at h1'
    refine wpV_seq1 ?_
    refine wpV_region ?_
    refine ops H' ?_
    refine opsN ?_
    refine wpV_seq1 ?_
    refine wpV_split (fun hc' => ?_) (fun hc' => ?_)
    · replace h1' := (ifT hc').symm.trans h1'
      refine skipN ?_
      refine wpV_seq1 ?_
      refine wpV_block ?_
      refine wpV_seq1 ?_
      refine wpV_region ?_
      refine ops H' ?_
      refine opsN ?_
      refine wpV_seq1 ?_
      refine wpV_region ?_
      obtain ⟨x, hv', h1'⟩ := Option.bind_eq_some_iff.1 h1'
      have H' := And.intro (geti_f hv') H'
      refine ops H' ?_
      refine opsN ?_
      refine wpV_split (fun hc' => ?_) (fun hc' => ?_)
      · replace h1' := (ifT hc').symm.trans h1'
        refine wpV_seq1 ?_
        refine wpV_region ?_
        refine ops H' ?_
        refine opsN ?_
        refine retN ?_
        obtain rfl := Option.some.inj h1'
        refine ⟨_, rfl, fun hr' => ?_⟩
        subst hr'
        obtain rfl := Option.some.inj h0'
        exact outG H' rfl rfl
      · replace h1' := (ifF hc').symm.trans h1'
        refine skipN ?_
        refine wpV_region ?_
        refine ops H' ?_
        refine opsN ?_
        obtain rfl := Option.some.inj h1'
        exact shd [0, 1, 7, 8] [] 2 ⟨_, rfl, rfl⟩
    · replace h1' := (ifF hc').symm.trans h1'
      refine exitN ?_
      obtain rfl := Option.some.inj h1'
      refine ⟨_, rfl, fun hr' => ?_⟩
      subst hr'
      exact shd [] [] 2 ⟨h0', rfl⟩
  · rintro e' ⟨h0', rfl⟩
    unfold slices_Index_int_int_j1 at h0'
    refine wpV_seq1 ?_
    refine wpV_region ?_
    refine ops H' ?_
    refine opsN ?_
    refine retN ?_
    obtain rfl := Option.some.inj h0'
    exact outG H' rfl rfl
theorem W_slices_Contains_int_int (s : List Int) (v : Int) (r' : Bool) (h0' : slices_Contains_int_int s v = some r') : Fn X 166 [.one (.list false 1 (List.map (rK .i64) s)), .one (.sc (.int .i64 v))] [.one (.sc (.bool r'))] [] := by
  have H' := And.intro t3 (R_i64)
  unfold slices_Contains_int_int at h0'
  refine Fn.start (fn := f166) (N := 9) (res := [.tmp 4]) rfl rfl rfl rfl rfl (by simp) ?_
  refine enterG H' ?_
  refine wpV_seq1 ?_
  refine wpV_region ?_
  refine ops H' ?_
  refine opsN ?_
  refine wpV_seq1 ?_
  refine wpV_region ?_
  refine ops H' ?_
  obtain ⟨x7, hy', h0'⟩ := Option.bind_eq_some_iff.1 h0'
  refine callG H' (fun _ => []) (W_slices_Index_int_int _ _ _ hy') ?_
  refine ops H' ?_
  refine opsN ?_
  refine retN ?_
  obtain rfl := Option.some.inj h0'
  exact outG H' rfl rfl
theorem W_impl_Body_hasDel (b : T_impl_Body) (v : Int) (r' : Bool) (h0' : impl_Body_hasDel b v = some r') : Fn X 90 [.agg [.sc (.string b.Line), .sc (.int .i64 b.Ins), .sc (.int .i64 b.Ord), .list false 1 (List.map (rK .i64) b.Dels)], .one (.sc (.int .i64 v))] [.one (.sc (.bool r'))] [] := by
  have H' := And.intro t44 (And.intro t50 (R_i64))
  unfold impl_Body_hasDel at h0'
  refine Fn.start (fn := f90) (N := 9) (res := [.tmp 4]) rfl rfl rfl rfl rfl (by simp) ?_
  refine enterG H' ?_
  refine wpV_seq1 ?_
  refine wpV_region ?_
  refine ops H' ?_
  refine opsN ?_
  refine wpV_seq1 ?_
  refine wpV_region ?_
  refine ops H' ?_
  obtain ⟨x8, hy', h0'⟩ := Option.bind_eq_some_iff.1 h0'
  refine callG H' (fun _ => []) (W_slices_Contains_int_int _ _ _ hy') ?_
  refine ops H' ?_
  refine opsN ?_
  refine retN ?_
  obtain rfl := Option.some.inj h0'
  exact outG H' rfl rfl
theorem W_impl_PickOn_c1 (b : T_impl_Body) (c : Int) (c_1 : Int) (r' : Bool) (h0' : impl_PickOn_c1 b c c_1 = some r') : Fn X 137 [.agg [.sc (.string b.Line), .sc (.int .i64 b.Ins), .sc (.int .i64 b.Ord), .list false 1 (List.map (rK .i64) b.Dels)], .one (.box false [.sc (.int .u64 c)]), .one (.box false [.sc (.int .i64 c_1)])] [.one (.sc (.bool r'))] [] := by
  have H' := And.intro t3 (And.intro t50 (And.intro t133 (R_i64)))
  unfold impl_PickOn_c1 at h0'
  refine Fn.start (fn := f137) (N := 20) (res := [.tmp 4]) rfl rfl rfl rfl rfl (by simp) ?_
  refine enterG H' ?_
  refine wpV_seq1 ?_
  refine wpV_region ?_
  refine ops H' ?_
  refine opsN ?_
  refine wpV_seq1 ?_
  refine wpV_region ?_
  refine ops H' ?_
  obtain ⟨x7, hy', h0'⟩ := Option.bind_eq_some_iff.1 h0'
  refine callG H' (fun _ => []) (W_impl_Body_isLive _ _ _ hy') ?_
  refine ops H' ?_
  obtain ⟨b_1, gh0', h0'⟩ := Option.bind_eq_some_iff.1 h0'
  refine opsV_cut 5 (fun e' => e' = { N := 20, np := 6, nx := 7, sl := [(2, .pl (.one (.v (.box false [.sc (.int .i64 c_1)])))), (3, .pl (.one (.ref 6 []))), (13, .pl (.one (.v (.sc (.bool b_1)))))], ob := [(6, .box true [.sc (.string b.Line), .sc (.int .i64 b.Ins), .sc (.int .i64 b.Ord), .list false 1 (List.map (rK .i64) b.Dels)])] }) ?_ ?_
  · simp only [List.take_succ_cons, List.take_zero]
    refine opsV_sp (fun hc' => ?_) (fun hc' => ?_)
    · replace gh0' := (ifT hc').symm.trans gh0'
      refine ops H' ?_
      obtain ⟨x11, hy', gh0'⟩ := Option.bind_eq_some_iff.1 gh0'
      refine callG H' (fun _ => []) (W_impl_Body_hasDel _ _ _ hy') ?_
      refine ops H' ?_
      obtain rfl := Option.some.inj gh0'
      refine opsV_nil ?_
      exact ⟨rfl, shd [2, 3, 13] [(6, 6)] 7 rfl⟩
    · replace gh0' := (ifF hc').symm.trans gh0'
      refine ops H' ?_
      obtain rfl := Option.some.inj gh0'
      refine opsV_nil ?_
      exact ⟨rfl, shd [2, 3, 13] [(6, 6)] 7 rfl⟩
  · rintro e' rfl
    simp only [List.drop_succ_cons, List.drop_zero]
    refine ops H' ?_
    obtain ⟨b_2, gh0', h0'⟩ := Option.bind_eq_some_iff.1 h0'
    refine opsV_cut 5 (fun e' => e' = { N := 20, np := 6, nx := 6, sl := [(19, .pl (.one (.v (.sc (.bool b_2)))))], ob := [] }) ?_ ?_
    · simp only [List.take_succ_cons, List.take_zero]
      refine opsV_sp (fun hc' => ?_) (fun hc' => ?_)
      · replace gh0' := (ifF hc').symm.trans gh0'
        refine ops H' ?_
        obtain rfl := Option.some.inj gh0'
        refine opsV_nil ?_
        exact ⟨rfl, shd [19] [] 6 rfl⟩
      · replace gh0' := (ifT hc').symm.trans gh0'
        refine ops H' ?_
        obtain rfl := Option.some.inj gh0'
        refine opsV_nil ?_
        exact ⟨rfl, shd [19] [] 6 rfl⟩
    · rintro e' rfl
      simp only [List.drop_succ_cons, List.drop_zero]
      refine ops H' ?_
      refine opsN ?_
      refine retN ?_
      obtain rfl := Option.some.inj h0'
      exact outG H' rfl rfl
theorem W_impl_PickOn_c2 (b : T_impl_Body) (c : Int) (c_1 : Int) (r' : Bool) (h0' : impl_PickOn_c2 b c c_1 = some r') : Fn X 138 [.agg [.sc (.string b.Line), .sc (.int .i64 b.Ins), .sc (.int .i64 b.Ord), .list false 1 (List.map (rK .i64) b.Dels)], .one (.box false [.sc (.int .i64 c)]), .one (.box false [.sc (.int .u64 c_1)])] [.one (.sc (.bool r'))] [] := by
  have H' := And.intro t3 (And.intro t50 (And.intro t133 (R_i64)))
  unfold impl_PickOn_c2 at h0'
  refine Fn.start (fn := f138) (N := 14) (res := [.tmp 4]) rfl rfl rfl rfl rfl (by simp) ?_
  refine enterG H' ?_
  refine wpV_seq1 ?_
  refine wpV_region ?_
  refine ops H' ?_
  refine opsN ?_
  refine wpV_seq1 ?_
  refine wpV_region ?_
  refine ops H' ?_
  obtain ⟨x7, hy', h0'⟩ := Option.bind_eq_some_iff.1 h0'
  refine callG H' (fun _ => []) (W_impl_Body_hasDel _ _ _ hy') ?_
  refine ops H' ?_
  obtain ⟨b_1, gh0', h0'⟩ := Option.bind_eq_some_iff.1 h0'
  refine opsV_cut 5 (fun e' => e' = { N := 14, np := 6, nx := 6, sl := [(13, .pl (.one (.v (.sc (.bool b_1)))))], ob := [] }) ?_ ?_
  · simp only [List.take_succ_cons, List.take_zero]
    refine opsV_sp (fun hc' => ?_) (fun hc' => ?_)
    · replace gh0' := (ifT hc').symm.trans gh0'
      refine ops H' ?_
      obtain ⟨x11, hy', gh0'⟩ := Option.bind_eq_some_iff.1 gh0'
      refine callG H' (fun _ => []) (W_impl_Body_isLive _ _ _ hy') ?_
      refine ops H' ?_
      obtain rfl := Option.some.inj gh0'
      refine opsV_nil ?_
      exact ⟨rfl, shd [13] [] 6 rfl⟩
    · replace gh0' := (ifF hc').symm.trans gh0'
      refine ops H' ?_
      obtain rfl := Option.some.inj gh0'
      refine opsV_nil ?_
      exact ⟨rfl, shd [13] [] 6 rfl⟩
  · rintro e' rfl
    simp only [List.drop_succ_cons, List.drop_zero]
    refine ops H' ?_
    refine opsN ?_
    refine retN ?_
    obtain rfl := Option.some.inj h0'
    exact outG H' rfl rfl
theorem W_impl_pickBy__2__2 (w : T_impl_Weave) (take : T_impl_Body → Option Bool) (take_f : Nat) (take_c0 : V) (take_c1 : V) (take_h : ∀ (z0' : T_impl_Body) r', take z0' = some r' → Fn X take_f [.agg [.sc (.string z0'.Line), .sc (.int .i64 z0'.Ins), .sc (.int .i64 z0'.Ord), .list false 1 (List.map (rK .i64) z0'.Dels)], .one (take_c0), .one (take_c1)] [.one (.sc (.bool r'))] []) (miss : T_impl_Body → Option Bool) (miss_f : Nat) (miss_c0 : V) (miss_c1 : V) (miss_h : ∀ (z0' : T_impl_Body) r', miss z0' = some r' → Fn X miss_f [.agg [.sc (.string z0'.Line), .sc (.int .i64 z0'.Ins), .sc (.int .i64 z0'.Ord), .list false 1 (List.map (rK .i64) z0'.Dels)], .one (miss_c0), .one (miss_c1)] [.one (.sc (.bool r'))] []) (r' : (List ByteArray) × Int) (h0' : impl_pickBy w take miss = some r') : Fn X 131 [.agg [.list false 1 (List.map (rL false 1 (rK .i64)) w.Parents), .list false 4 (List.map (r_T_impl_Body false) w.Bodies)], .one (.fn take_f [take_c0, take_c1]), .one (.fn miss_f [miss_c0, miss_c1])] [.one (.list true 1 (List.map rS r'.1)), .one (.sc (.int .i64 r'.2))] [] := by
  have H' := And.intro t3 (And.intro t9 (And.intro t39 (And.intro t41 (And.intro t50 (And.intro t55 (And.intro R_Li64 (And.intro R_T_impl_Body (And.intro R_i64 (R_s)))))))))
  unfold impl_pickBy at h0'
  refine Fn.start (fn := f131) (N := 35) (res := [.tmp 6, .tmp 7]) rfl rfl rfl rfl rfl (by simp) ?_
  refine enterG H' ?_
  refine wpV_seq1 ?_
  refine wpV_region ?_
  refine ops H' ?_
  refine opsN ?_
  refine wpV_seq1 ?_
  refine wpV_region ?_
  refine ops H' ?_
  refine opsN ?_
  refine wpV_seq1 ?_
  refine wpV_region ?_
  refine ops H' ?_
  refine opsN ?_
  refine wpV_seqJ (fun e' => ∃ n out_, impl_pickBy_j1 n out_ = some r' ∧ e' = { N := 35, np := 4, nx := 5, sl := [(8, .pl (.one (.ref 4 []))), (9, .pl (.one (.v (.sc (.int .i64 n)))))], ob := [(4, .list true 1 (List.map rS out_))] }) ?_ ?_
  · refine wpV_seq1 ?_
    refine wpV_region ?_
    refine ops H' ?_
    refine opsN ?_
    obtain ⟨p, hl', h0'⟩ := Option.bind_eq_some_iff.1 h0'
    refine wpV_block ?_
    refine wpV_loopM (fun s' e' => ∃ n_1 x15 out__1, s' = (n_1, x15, out__1) ∧ e' = { N := 35, np := 4, nx := 5, sl := [(1, .pl (.one (.v (.fn take_f [take_c0, take_c1])))), (2, .pl (.one (.v (.fn miss_f [miss_c0, miss_c1])))), (8, .pl (.one (.ref 4 []))), (9, .pl (.one (.v (.sc (.int .i64 n_1))))), (13, .pl (.one (.v (.list false 4 (List.map (r_T_impl_Body false) w.Bodies))))), (14, .pl (.one (.v (.sc (.int .i64 (w.Bodies.length : Int)))))), (15, .pl (.one (.v (.sc (.int .i64 x15)))))], ob := [(4, .list true 1 (List.map rS out__1))] }) hl' (shd [1, 2, 8, 9, 13, 14, 15] [(6, 4)] 5 ⟨_, _, _, rfl, rfl⟩) ?_
    rintro s' y1' e' h1' ⟨n_1, x15, out__1, rfl, rfl⟩
    replace h1' : impl_pickBy_l1 w take miss n_1 x15 out__1 = some y1' := h1'
    unfold impl_pickBy_l1 at h1'
    refine wpV_seq1 ?_
    refine wpV_region ?_
    refine ops H' ?_
    refine opsN ?_
    refine wpV_seq1 ?_
    refine wpV_split (fun hc' => ?_) (fun hc' => ?_)
    · replace h1' := (ifT hc').symm.trans h1'
      refine skipN ?_
      refine wpV_seq1 ?_
      refine wpV_block ?_
      refine wpV_seq1 ?_
      refine wpV_region ?_
      obtain ⟨x, hv', h1'⟩ := Option.bind_eq_some_iff.1 h1'
      have H' := And.intro (geti_f hv') H'
      refine ops H' ?_
      refine opsN ?_
      refine wpV_seqJ (fun e' => ∃ out__2, impl_pickBy_j2 miss n_1 x15 x out__2 = some y1' ∧ e' = { N := 35, np := 4, nx := 6, sl := [(1, .pl (.one (.v (.fn take_f [take_c0, take_c1])))), (2, .pl (.one (.v (.fn miss_f [miss_c0, miss_c1])))), (8, .pl (.one (.ref 4 []))), (9, .pl (.one (.v (.sc (.int .i64 n_1))))), (11, .pl (.one (.ref 5 []))), (13, .pl (.one (.v (.list false 4 (List.map (r_T_impl_Body false) w.Bodies))))), (14, .pl (.one (.v (.sc (.int .i64 (w.Bodies.length : Int)))))), (15, .pl (.one (.v (.sc (.int .i64 x15)))))], ob := [(4, .list true 1 (List.map rS out__2)), (5, .box true [.sc (.string x.Line), .sc (.int .i64 x.Ins), .sc (.int .i64 x.Ord), .list false 1 (List.map (rK .i64) x.Dels)])] }) ?_ ?_
      · refine wpV_seq1 ?_
        refine wpV_region ?_
        refine ops H' ?_
        obtain ⟨x21, hy', h1'⟩ := Option.bind_eq_some_iff.1 h1'
        refine callG H' (fun _ => []) (take_h _ _ hy') ?_
        refine opsN ?_
        refine wpV_split (fun hc' => ?_) (fun hc' => ?_)
        · replace h1' := (ifT hc').symm.trans h1'
          refine wpV_region ?_
          obtain ⟨l, hv', h1'⟩ := Option.bind_eq_some_iff.1 h1'
          have H' := And.intro (app1_f hv') H'
          refine ops H' ?_
          refine opsN ?_
          exact shd [1, 2, 8, 9, 11, 13, 14, 15] [(4, 4), (5, 5)] 6 ⟨_, h1', rfl⟩
        · replace h1' := (ifF hc').symm.trans h1'
          refine skipN ?_
          exact shd [1, 2, 8, 9, 11, 13, 14, 15] [(4, 4), (5, 5)] 6 ⟨_, h1', rfl⟩
      · rintro e' ⟨out__2, h1', rfl⟩
        unfold impl_pickBy_j2 at h1'
        refine wpV_seq1 ?_
        refine wpV_region ?_
        refine ops H' ?_
        obtain ⟨x29, hy', h1'⟩ := Option.bind_eq_some_iff.1 h1'
        refine callG H' (fun _ => []) (miss_h _ _ hy') ?_
        refine opsN ?_
        refine wpV_split (fun hc' => ?_) (fun hc' => ?_)
        · replace h1' := (ifT hc').symm.trans h1'
          refine wpV_region ?_
          refine ops H' ?_
          refine opsN ?_
          refine wpV_region ?_
          refine ops H' ?_
          refine opsN ?_
          obtain rfl := Option.some.inj h1'
          exact shd [1, 2, 8, 9, 13, 14, 15] [(4, 4)] 5 ⟨_, rfl, _, _, _, rfl, rfl⟩
        · replace h1' := (ifF hc').symm.trans h1'
          refine skipN ?_
          refine wpV_region ?_
          refine ops H' ?_
          refine opsN ?_
          obtain rfl := Option.some.inj h1'
          exact shd [1, 2, 8, 9, 13, 14, 15] [(4, 4)] 5 ⟨_, rfl, _, _, _, rfl, rfl⟩
    · replace h1' := (ifF hc').symm.trans h1'
      refine exitN ?_
      obtain rfl := Option.some.inj h1'
      refine ⟨_, rfl, fun hr' => ?_⟩
      subst hr'
      exact shd [8, 9] [(4, 4)] 5 ⟨_, _, h0', rfl⟩
  · rintro e' ⟨n, out_, h0', rfl⟩
    unfold impl_pickBy_j1 at h0'
    refine wpV_seq1 ?_
    refine wpV_region ?_
    refine ops H' ?_
    refine opsN ?_
    refine retN ?_
    obtain rfl := Option.some.inj h0'
    exact outG H' rfl rfl
theorem W_impl_PickOn (w : T_impl_Weave) (onto : Int) (v : Int) (r' : (List ByteArray) × Int × Int) (h0' : impl_PickOn w onto v = some r') : Fn X 54 [.agg [.list false 1 (List.map (rL false 1 (rK .i64)) w.Parents), .list false 4 (List.map (r_T_impl_Body false) w.Bodies)], .one (.sc (.int .i64 onto)), .one (.sc (.int .i64 v))] [.one (.list true 1 (List.map rS r'.1)), .one (.sc (.int .i64 r'.2.1)), .one (.sc (.int .i64 r'.2.2))] [] := by
  have H' := And.intro t3 (And.intro t38 (And.intro t41 (And.intro t44 (And.intro t133 (And.intro t137 (And.intro R_Li64 (And.intro R_T_impl_Body (And.intro R_i64 (And.intro R_s (R_u64))))))))))
  unfold impl_PickOn at h0'
  refine Fn.start (fn := f54) (N := 36) (res := [.tmp 6, .tmp 7, .tmp 8]) rfl rfl rfl rfl rfl (by simp) ?_
  refine enterG H' ?_
  refine wpV_seq1 ?_
  refine wpV_region ?_
  refine ops H' ?_
  refine opsN ?_
  refine wpV_seq1 ?_
  refine wpV_seq1 ?_
  refine wpV_region ?_
  refine ops H' ?_
  obtain ⟨x17, hy', h0'⟩ := Option.bind_eq_some_iff.1 h0'
  refine callG H' (fun _ => []) (W_impl_versionsCode _ _ _ hy') ?_
  refine ops H' ?_
  refine opsN ?_
  refine wpV_seq1 ?_
  refine wpV_region ?_
  refine ops H' ?_
  refine opsN ?_
  refine wpV_split (fun hc' => ?_) (fun hc' => ?_)
  · replace h0' := (ifT hc').symm.trans h0'
    refine wpV_seq1 ?_
    refine wpV_region ?_
    refine ops H' ?_
    refine opsN ?_
    refine retN ?_
    obtain rfl := Option.some.inj h0'
    exact outG H' rfl rfl
  · replace h0' := (ifF hc').symm.trans h0'
    refine skipN ?_
    refine wpV_seq1 ?_
    refine wpV_region ?_
    refine ops H' ?_
    obtain ⟨x23, hy', h0'⟩ := Option.bind_eq_some_iff.1 h0'
    refine callG H' (fun _ => []) (W_impl_closures _ _ hy') ?_
    obtain ⟨x, hv', h0'⟩ := Option.bind_eq_some_iff.1 h0'
    have H' := And.intro (geti_f hv') H'
    refine ops H' ?_
    refine opsN ?_
    refine wpV_seq1 ?_
    refine wpV_region ?_
    refine ops H' ?_
    refine opsV_frz H' 10 ?_
    refine opsV_frz H' 5 ?_
    refine opsV_mkF H' ?_
    refine opsV_mkF H' ?_
    obtain ⟨x31, hy', h0'⟩ := Option.bind_eq_some_iff.1 h0'
    refine callG H' (fun _ => []) (W_impl_pickBy__2__2 _ (fun z0' => impl_PickOn_c1 z0' x v) _ _ _ (fun z0' r' h' => W_impl_PickOn_c1 z0' _ _ r' h') (fun z0' => impl_PickOn_c2 z0' v x) _ _ _ (fun z0' r' h' => W_impl_PickOn_c2 z0' _ _ r' h') _ hy') ?_
    refine ops H' ?_
    refine opsN ?_
    refine wpV_seq1 ?_
    refine wpV_region ?_
    refine ops H' ?_
    refine opsN ?_
    refine retN ?_
    obtain rfl := Option.some.inj h0'
    exact outG H' rfl rfl
theorem W_impl_Body_isLiveWithout (b : T_impl_Body) (s : Int) (v : Int) (r' : Bool) (h0' : impl_Body_isLiveWithout b s v = some r') : Fn X 134 [.agg [.sc (.string b.Line), .sc (.int .i64 b.Ins), .sc (.int .i64 b.Ord), .list false 1 (List.map (rK .i64) b.Dels)], .one (.sc (.int .u64 s)), .one (.sc (.int .i64 v))] [.one (.sc (.bool r'))] [] := by
  have H' := And.intro t3 (And.intro t44 (And.intro t50 (And.intro t133 (R_i64))))
  unfold impl_Body_isLiveWithout at h0'
  refine Fn.start (fn := f134) (N := 23) (res := [.tmp 6]) rfl rfl rfl rfl rfl (by simp) ?_
  refine enterG H' ?_
  refine wpV_seq1 ?_
  refine wpV_region ?_
  refine ops H' ?_
  refine opsN ?_
  refine wpV_seq1 ?_
  refine wpV_region ?_
  refine ops H' ?_
  obtain ⟨x10, hy', h0'⟩ := Option.bind_eq_some_iff.1 h0'
  refine callG H' (fun _ => []) (W_impl_set_has _ _ _ hy') ?_
  refine ops H' ?_
  obtain ⟨b_1, gh0', h0'⟩ := Option.bind_eq_some_iff.1 h0'
  refine opsV_cut 11 (fun e' => e' = { N := 23, np := 6, nx := 6, sl := [(22, .pl (.one (.v (.sc (.bool b_1)))))], ob := [] }) ?_ ?_
  · simp only [List.take_succ_cons, List.take_zero]
    refine opsV_sp (fun hc' => ?_) (fun hc' => ?_)
    · replace gh0' := (ifT hc').symm.trans gh0'
      refine ops H' ?_
      obtain ⟨x14, hy', gh0'⟩ := Option.bind_eq_some_iff.1 gh0'
      refine callG H' (fun _ => []) (W_impl_setOf _ _ hy') ?_
      refine ops H' ?_
      obtain ⟨x17, hy', gh0'⟩ := Option.bind_eq_some_iff.1 gh0'
      refine callG H' (fun _ => []) (W_impl_setOf _ _ hy') ?_
      refine ops H' ?_
      obtain rfl := Option.some.inj gh0'
      refine opsV_nil ?_
      exact ⟨rfl, shd [22] [] 6 rfl⟩
    · replace gh0' := (ifF hc').symm.trans gh0'
      refine ops H' ?_
      obtain rfl := Option.some.inj gh0'
      refine opsV_nil ?_
      exact ⟨rfl, shd [22] [] 6 rfl⟩
  · rintro e' rfl
    simp only [List.drop_succ_cons, List.drop_zero]
    refine ops H' ?_
    refine opsN ?_
    refine retN ?_
    obtain rfl := Option.some.inj h0'
    exact outG H' rfl rfl
theorem W_impl_UndoOn_c1 (b : T_impl_Body) (c : Int) (c_1 : Int) (r' : Bool) (h0' : impl_UndoOn_c1 b c c_1 = some r') : Fn X 132 [.agg [.sc (.string b.Line), .sc (.int .i64 b.Ins), .sc (.int .i64 b.Ord), .list false 1 (List.map (rK .i64) b.Dels)], .one (.box false [.sc (.int .u64 c)]), .one (.box false [.sc (.int .i64 c_1)])] [.one (.sc (.bool r'))] [] := by
  have H' := And.intro t3 (And.intro t50 (And.intro t133 (R_i64)))
  unfold impl_UndoOn_c1 at h0'
  refine Fn.start (fn := f132) (N := 16) (res := [.tmp 4]) rfl rfl rfl rfl rfl (by simp) ?_
  refine enterG H' ?_
  refine wpV_seq1 ?_
  refine wpV_region ?_
  refine ops H' ?_
  refine opsN ?_
  refine wpV_seq1 ?_
  refine wpV_seq1 ?_
  refine wpV_region ?_
  refine ops H' ?_
  obtain ⟨x7, hy', h0'⟩ := Option.bind_eq_some_iff.1 h0'
  refine callG H' (fun _ => []) (W_impl_Body_isLive _ _ _ hy') ?_
  refine opsN ?_
  refine wpV_split (fun hc' => ?_) (fun hc' => ?_)
  · replace h0' := (ifT hc').symm.trans h0'
    refine wpV_seq1 ?_
    refine wpV_region ?_
    refine ops H' ?_
    refine opsN ?_
    refine retN ?_
    obtain rfl := Option.some.inj h0'
    exact outG H' rfl rfl
  · replace h0' := (ifF hc').symm.trans h0'
    refine skipN ?_
    refine wpV_seq1 ?_
    refine wpV_region ?_
    refine ops H' ?_
    obtain ⟨x15, hy', h0'⟩ := Option.bind_eq_some_iff.1 h0'
    refine callG H' (fun _ => []) (W_impl_Body_isLiveWithout _ _ _ _ hy') ?_
    refine ops H' ?_
    refine opsN ?_
    refine retN ?_
    obtain rfl := Option.some.inj h0'
    exact outG H' rfl rfl
theorem W_impl_UndoOn_c2 (b : T_impl_Body) (c : Int) (c_1 : Int) (r' : Bool) (h0' : impl_UndoOn_c2 b c c_1 = some r') : Fn X 135 [.agg [.sc (.string b.Line), .sc (.int .i64 b.Ins), .sc (.int .i64 b.Ord), .list false 1 (List.map (rK .i64) b.Dels)], .one (.box false [.sc (.int .i64 c)]), .one (.box false [.sc (.int .u64 c_1)])] [.one (.sc (.bool r'))] [] := by
  have H' := And.intro t3 (And.intro t50 (And.intro t133 (R_i64)))
  unfold impl_UndoOn_c2 at h0'
  refine Fn.start (fn := f135) (N := 15) (res := [.tmp 4]) rfl rfl rfl rfl rfl (by simp) ?_
  refine enterG H' ?_
  refine wpV_seq1 ?_
  refine wpV_region ?_
  refine ops H' ?_
  refine opsN ?_
  refine wpV_seq1 ?_
  refine wpV_region ?_
  refine ops H' ?_
  obtain ⟨b_1, gh0', h0'⟩ := Option.bind_eq_some_iff.1 h0'
  refine opsV_cut 5 (fun e' => e' = { N := 15, np := 6, nx := 6, sl := [(14, .pl (.one (.v (.sc (.bool b_1)))))], ob := [] }) ?_ ?_
  · simp only [List.take_succ_cons, List.take_zero]
    refine opsV_sp (fun hc' => ?_) (fun hc' => ?_)
    · replace gh0' := (ifT hc').symm.trans gh0'
      refine ops H' ?_
      obtain ⟨x12, hy', gh0'⟩ := Option.bind_eq_some_iff.1 gh0'
      refine callG H' (fun _ => []) (W_impl_Body_isLive _ _ _ hy') ?_
      refine ops H' ?_
      obtain rfl := Option.some.inj gh0'
      refine opsV_nil ?_
      exact ⟨rfl, shd [14] [] 6 rfl⟩
    · replace gh0' := (ifF hc').symm.trans gh0'
      refine ops H' ?_
      obtain rfl := Option.some.inj gh0'
      refine opsV_nil ?_
      exact ⟨rfl, shd [14] [] 6 rfl⟩
  · rintro e' rfl
    simp only [List.drop_succ_cons, List.drop_zero]
    refine ops H' ?_
    refine opsN ?_
    refine retN ?_
    obtain rfl := Option.some.inj h0'
    exact outG H' rfl rfl
end Go.TV.KFnPicks
