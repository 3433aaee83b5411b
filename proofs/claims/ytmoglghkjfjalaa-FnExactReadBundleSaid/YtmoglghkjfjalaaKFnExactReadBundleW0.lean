/- Walks. -/
import Derived.Test.YtmoglghkjfjalaaKFnExactReadBundleE
set_option linter.unusedVariables false
set_option linter.unusedSimpArgs false
set_option maxHeartbeats 8000000
set_option maxRecDepth 100000
namespace Go.TV.KFnExactReadBundle
attribute [local irreducible] anyV wpV opsV Does thenV blockV RetL quV seqV
open Go.Proofs.Try Go.TV.F
theorem W_spec_SumMore (sum : Int) (text : ByteArray) (r' : Int) (h0' : spec_SumMore sum text = some r') : Fn X 145 [.one (.sc (.int .u32 sum)), .one (.sc (.string text))] [.one (.sc (.int .u32 r'))] [] := by
  have H' := And.intro t3 (And.intro t5 (And.intro t9 (t137)))
  unfold spec_SumMore at h0'
  refine Fn.start (fn := f145) (N := 33) (res := [.tmp 4]) rfl rfl rfl rfl rfl (by simp) ?_
  refine enterG H' ?_
  refine wpV_seq1 ?_
  refine wpV_region ?_
  refine ops H' ?_
  refine opsN ?_
  refine wpV_seqJ (fun e' => ∃ sum_1, spec_SumMore_j1 sum_1 = some r' ∧ e' = { N := 33, np := 2, nx := 2, sl := [(0, .pl (.one (.v (.sc (.int .u32 sum_1)))))], ob := [] }) ?_ ?_
  · refine wpV_seq1 ?_
    refine wpV_region ?_
    refine ops H' ?_
    refine opsN ?_
    obtain ⟨p, hl', h0'⟩ := Option.bind_eq_some_iff.1 h0'
    refine wpV_block ?_
    refine wpV_loopM (fun s' e' => ∃ sum_2 i, s' = (sum_2, i) ∧ e' = { N := 33, np := 2, nx := 2, sl := [(0, .pl (.one (.v (.sc (.int .u32 sum_2))))), (1, .pl (.one (.v (.sc (.string text))))), (5, .pl (.one (.v (.sc (.int .i64 i)))))], ob := [] }) hl' (shd [0, 1, 5] [] 2 ⟨_, _, rfl, rfl⟩) ?_
    rintro s' y1' e' h1' ⟨sum_2, i, rfl, rfl⟩
    replace h1' : spec_SumMore_l1 text sum_2 i = some y1' := h1'
    unfold spec_SumMore_l1 at h1'
    refine wpV_seq1 ?_
    refine wpV_seq1 ?_
    refine wpV_region ?_
    refine ops H' ?_
    refine opsN ?_
    refine wpV_split (fun hc' => ?_) (fun hc' => ?_)
    · replace h1' := (ifT hc').symm.trans h1'
      refine skipN ?_
      refine wpV_seqJ (fun e' => ∃ sum_3, spec_SumMore_j2 i sum_3 = some y1' ∧ e' = { N := 33, np := 2, nx := 2, sl := [(0, .pl (.one (.v (.sc (.int .u32 sum_3))))), (1, .pl (.one (.v (.sc (.string text))))), (5, .pl (.one (.v (.sc (.int .i64 i)))))], ob := [] }) ?_ ?_
      · refine wpV_block ?_
        refine wpV_seq1 ?_
        refine wpV_region ?_
        obtain ⟨x17, hv', h1'⟩ := Option.bind_eq_some_iff.1 h1'
        have H' := And.intro (sidx_f hv') H'
        refine ops H' ?_
        refine opsN ?_
        refine wpV_seq1 ?_
        refine wpV_region ?_
        refine ops H' ?_
        refine opsN ?_
        obtain ⟨p_1, hl', h1'⟩ := Option.bind_eq_some_iff.1 h1'
        refine wpV_block ?_
        refine wpV_loopM (fun s' e' => ∃ sum_4 k, s' = (sum_4, k) ∧ e' = { N := 33, np := 2, nx := 2, sl := [(0, .pl (.one (.v (.sc (.int .u32 sum_4))))), (1, .pl (.one (.v (.sc (.string text))))), (5, .pl (.one (.v (.sc (.int .i64 i))))), (6, .pl (.one (.v (.sc (.int .i64 k)))))], ob := [] }) hl' (shd [0, 1, 5, 6] [] 2 ⟨_, _, rfl, rfl⟩) ?_
        rintro s' y2' e' h2' ⟨sum_4, k, rfl, rfl⟩
        replace h2' : spec_SumMore_l2 sum_4 k = some y2' := h2'
        unfold spec_SumMore_l2 at h2'
        refine wpV_seq1 ?_
        refine wpV_seq1 ?_
        refine wpV_region ?_
        refine ops H' ?_
        refine opsN ?_
        refine wpV_split (fun hc' => ?_) (fun hc' => ?_)
        · replace h2' := (ifT hc').symm.trans h2'
          refine skipN ?_
          refine wpV_seq1 ?_
          refine wpV_block ?_
          refine wpV_seq1 ?_
          refine wpV_region ?_
          refine ops H' ?_
          refine opsN ?_
          refine wpV_seq1 ?_
          refine wpV_region ?_
          refine ops H' ?_
          refine opsN ?_
          refine wpV_seq1 ?_
          refine wpV_region ?_
          refine ops H' ?_
          refine opsN ?_
          refine wpV_split (fun hc' => ?_) (fun hc' => ?_)
          · replace h2' := (ifT hc').symm.trans h2'
            refine wpV_region ?_
            refine ops H' ?_
            refine opsN ?_
            refine wpV_region ?_
            refine ops H' ?_
            refine opsN ?_
            obtain rfl := Option.some.inj h2'
            exact shd [0, 1, 5, 6] [] 2 ⟨_, rfl, _, _, rfl, rfl⟩
          · replace h2' := (ifF hc').symm.trans h2'
            refine skipN ?_
            refine wpV_region ?_
            refine ops H' ?_
            refine opsN ?_
            obtain rfl := Option.some.inj h2'
            exact shd [0, 1, 5, 6] [] 2 ⟨_, rfl, _, _, rfl, rfl⟩
        · replace h2' := (ifF hc').symm.trans h2'
          refine exitN ?_
          obtain rfl := Option.some.inj h2'
          refine ⟨_, rfl, fun hr' => ?_⟩
          subst hr'
          exact shd [0, 1, 5] [] 2 ⟨_, h1', rfl⟩
      · rintro e' ⟨sum_3, h1', rfl⟩
        unfold spec_SumMore_j2 at h1'
        refine wpV_region ?_
        refine ops H' ?_
        refine opsN ?_
        obtain rfl := Option.some.inj h1'
        exact shd [0, 1, 5] [] 2 ⟨_, rfl, _, _, rfl, rfl⟩
    · replace h1' := (ifF hc').symm.trans h1'
      refine exitN ?_
      obtain rfl := Option.some.inj h1'
      refine ⟨_, rfl, fun hr' => ?_⟩
      subst hr'
      exact shd [0] [] 2 ⟨_, h0', rfl⟩
  · rintro e' ⟨sum_1, h0', rfl⟩
    unfold spec_SumMore_j1 at h0'
    refine wpV_seq1 ?_
    refine wpV_region ?_
    refine ops H' ?_
    refine opsN ?_
    refine retN ?_
    obtain rfl := Option.some.inj h0'
    exact outG H' rfl rfl
theorem W_spec_SumOf (text : ByteArray) (r' : Int) (h0' : spec_SumOf text = some r') : Fn X 93 [.one (.sc (.string text))] [.one (.sc (.int .u32 r'))] [] := by
  have H' := trivial
  unfold spec_SumOf at h0'
  refine Fn.start (fn := f93) (N := 5) (res := [.tmp 2]) rfl rfl rfl rfl rfl (by simp) ?_
  refine enterG H' ?_
  refine wpV_seq1 ?_
  refine wpV_region ?_
  refine ops H' ?_
  refine opsN ?_
  refine wpV_seq1 ?_
  refine wpV_region ?_
  refine ops H' ?_
  obtain ⟨x4, hy', h0'⟩ := Option.bind_eq_some_iff.1 h0'
  refine callG H' (fun _ => []) (W_spec_SumMore _ _ _ hy') ?_
  refine ops H' ?_
  refine opsN ?_
  refine retN ?_
  obtain rfl := Option.some.inj h0'
  exact outG H' rfl rfl
theorem W_spec_l02Four (x : Int) (r' : ByteArray) (h0' : spec_l02Four x = some r') : Fn X 92 [.one (.sc (.int .u32 x))] [.one (.sc (.string r'))] [] := by
  have H' := And.intro t5 (And.intro t9 (And.intro t28 (t137)))
  unfold spec_l02Four at h0'
  refine Fn.start (fn := f92) (N := 16) (res := [.tmp 2]) rfl rfl rfl rfl rfl (by simp) ?_
  refine enterG H' ?_
  refine wpV_seq1 ?_
  refine wpV_region ?_
  refine ops H' ?_
  refine opsN ?_
  refine wpV_seq1 ?_
  refine wpV_region ?_
  have H' := And.intro (show bytesOf [[V.sc (.int .u8 (wk .u8 (shrI .u32 x 24)))], [V.sc (.int .u8 (wk .u8 (shrI .u32 x 16)))], [V.sc (.int .u8 (wk .u8 (shrI .u32 x 8)))], [V.sc (.int .u8 (wk .u8 x))]] = some [(wk .u8 (shrI .u32 x 24)), (wk .u8 (shrI .u32 x 16)), (wk .u8 (shrI .u32 x 8)), (wk .u8 x)] from bytesOf_rK [(wk .u8 (shrI .u32 x 24)), (wk .u8 (shrI .u32 x 16)), (wk .u8 (shrI .u32 x 8)), (wk .u8 x)]) H'
  refine ops H' ?_
  refine opsN ?_
  refine retN ?_
  obtain rfl := Option.some.inj h0'
  exact outG H' rfl rfl
theorem W_spec_Unsealed (text : ByteArray) (r' : ByteArray × Bool) (h0' : spec_Unsealed text = some r') : Fn X 33 [.one (.sc (.string text))] [.one (.sc (.string r'.1)), .one (.sc (.bool r'.2))] [] := by
  have H' := And.intro t3 (t9)
  unfold spec_Unsealed at h0'
  refine Fn.start (fn := f33) (N := 28) (res := [.tmp 2, .tmp 3]) rfl rfl rfl rfl rfl (by simp) ?_
  refine enterG H' ?_
  refine wpV_seq1 ?_
  refine wpV_region ?_
  refine ops H' ?_
  refine opsN ?_
  refine wpV_seq1 ?_
  refine wpV_region ?_
  refine ops H' ?_
  refine opsN ?_
  refine wpV_seq1 ?_
  refine wpV_seq1 ?_
  refine regQ ?_
  refine ops H' ?_
  obtain ⟨b, gh0', h0'⟩ := Option.bind_eq_some_iff.1 h0'
  refine quV_cut 3 (fun e' => e' = { N := 28, np := 1, nx := 1, sl := [(0, .pl (.one (.v (.sc (.string text))))), (4, .pl (.one (.v (.sc (.int .i64 (wk .i64 ((text.size : Int) - 4))))))), (13, .pl (.one (.v (.sc (.bool b)))))], ob := [] }) ?_ ?_
  · simp only [List.take_succ_cons, List.take_zero]
    refine quV_sp (fun hc' => ?_) (fun hc' => ?_)
    · replace gh0' := (ifF hc').symm.trans gh0'
      refine ops H' ?_
      obtain rfl := Option.some.inj gh0'
      refine quV_nil ?_
      exact ⟨rfl, shd [0, 4, 13] [] 1 rfl⟩
    · replace gh0' := (ifT hc').symm.trans gh0'
      refine ops H' ?_
      obtain rfl := Option.some.inj gh0'
      refine quV_nil ?_
      exact ⟨rfl, shd [0, 4, 13] [] 1 rfl⟩
  · rintro e' rfl
    simp only [List.drop_succ_cons, List.drop_zero]
    refine ops H' ?_
    obtain ⟨b_1, gh0', h0'⟩ := Option.bind_eq_some_iff.1 h0'
    refine quV_cut 10 (fun e' => e' = { N := 28, np := 1, nx := 1, sl := [(0, .pl (.one (.v (.sc (.string text))))), (4, .pl (.one (.v (.sc (.int .i64 (wk .i64 ((text.size : Int) - 4))))))), (24, .pl (.one (.v (.sc (.bool b_1)))))], ob := [] }) ?_ ?_
    · simp only [List.take_succ_cons, List.take_zero]
      refine quV_sp (fun hc' => ?_) (fun hc' => ?_)
      · replace gh0' := (ifF hc').symm.trans gh0'
        obtain ⟨x17, hv', gh0'⟩ := Option.bind_eq_some_iff.1 gh0'
        have H' := And.intro (subL_f hv') H'
        obtain ⟨x20, hv', gh0'⟩ := Option.bind_eq_some_iff.1 gh0'
        have H' := And.intro (subH_f hv') H'
        refine ops H' ?_
        obtain ⟨x21, hy', gh0'⟩ := Option.bind_eq_some_iff.1 gh0'
        refine callGQ H' (W_spec_SumOf _ _ hy') ?_
        refine ops H' ?_
        obtain ⟨x22, hy', gh0'⟩ := Option.bind_eq_some_iff.1 gh0'
        refine callGQ H' (W_spec_l02Four _ _ hy') ?_
        refine ops H' ?_
        obtain rfl := Option.some.inj gh0'
        refine quV_nil ?_
        exact ⟨rfl, shd [0, 4, 24] [] 1 rfl⟩
      · replace gh0' := (ifT hc').symm.trans gh0'
        refine ops H' ?_
        obtain rfl := Option.some.inj gh0'
        refine quV_nil ?_
        exact ⟨rfl, shd [0, 4, 24] [] 1 rfl⟩
    · rintro e' rfl
      simp only [List.drop_succ_cons, List.drop_zero]
      refine quN ?_
      refine wpV_split (fun hc' => ?_) (fun hc' => ?_)
      · replace h0' := (ifT hc').symm.trans h0'
        refine wpV_seq1 ?_
        refine wpV_region ?_
        refine ops H' ?_
        refine opsN ?_
        refine retN ?_
        obtain rfl := Option.some.inj h0'
        exact outG H' rfl rfl
      · replace h0' := (ifF hc').symm.trans h0'
        refine skipN ?_
        refine wpV_seq1 ?_
        refine wpV_region ?_
        obtain ⟨x27, hv', h0'⟩ := Option.bind_eq_some_iff.1 h0'
        have H' := And.intro (subH_f hv') H'
        refine ops H' ?_
        refine opsN ?_
        refine retN ?_
        obtain rfl := Option.some.inj h0'
        exact outG H' rfl rfl
theorem W_spec_l08Take (c : T_spec_l08Cur) (n : Int) (r' : ByteArray × T_spec_l08Cur) (h0' : spec_l08Take c n = some r') : Fn X 34 [.one (.box true [.sc (.string c.text), .sc (.int .i64 c.at_), .sc (.bool c.bad)]), .one (.sc (.int .i64 n))] [.one (.sc (.string r'.1))] [(0, .box true [.sc (.string r'.2.text), .sc (.int .i64 r'.2.at_), .sc (.bool r'.2.bad)])] := by
  have H' := And.intro t3 (And.intro t4 (And.intro t9 (t72)))
  unfold spec_l08Take at h0'
  refine Fn.start (fn := f34) (N := 50) (res := [.tmp 4]) rfl rfl rfl rfl rfl (by simp) ?_
  refine enterG H' ?_
  refine wpV_seq1 ?_
  refine wpV_region ?_
  refine ops H' ?_
  refine opsN ?_
  refine wpV_seq1 ?_
  refine wpV_seq1 ?_
  refine regQ ?_
  refine ops H' ?_
  obtain ⟨b, gh0', h0'⟩ := Option.bind_eq_some_iff.1 h0'
  refine quV_cut 13 (fun e' => e' = { N := 50, np := 2, nx := 2, sl := [(0, .pl (.one (.ref 0 []))), (1, .pl (.one (.v (.sc (.int .i64 n))))), (22, .pl (.one (.v (.sc (.bool b)))))], ob := [(0, .box true [.sc (.string c.text), .sc (.int .i64 c.at_), .sc (.bool c.bad)])] }) ?_ ?_
  · simp only [List.take_succ_cons, List.take_zero]
    refine quV_sp (fun hc' => ?_) (fun hc' => ?_)
    · replace gh0' := (ifF hc').symm.trans gh0'
      refine ops H' ?_
      obtain rfl := Option.some.inj gh0'
      refine quV_nil ?_
      exact ⟨rfl, shd [0, 1, 22] [(0, 0)] 2 rfl⟩
    · replace gh0' := (ifT hc').symm.trans gh0'
      refine ops H' ?_
      obtain rfl := Option.some.inj gh0'
      refine quV_nil ?_
      exact ⟨rfl, shd [0, 1, 22] [(0, 0)] 2 rfl⟩
  · rintro e' rfl
    simp only [List.drop_succ_cons, List.drop_zero]
    refine quN ?_
    refine wpV_split (fun hc' => ?_) (fun hc' => ?_)
    · replace h0' := (ifT hc').symm.trans h0'
      refine wpV_seq1 ?_
      refine wpV_region ?_
      refine ops H' ?_
      refine opsN ?_
      refine wpV_seq1 ?_
      refine wpV_region ?_
      refine ops H' ?_
      refine opsN ?_
      refine retN ?_
      obtain rfl := Option.some.inj h0'
      exact outG H' rfl rfl
    · replace h0' := (ifF hc').symm.trans h0'
      refine skipN ?_
      refine wpV_seq1 ?_
      refine wpV_region ?_
      refine ops H' ?_
      refine opsN ?_
      refine wpV_seq1 ?_
      refine regQ ?_
      obtain ⟨x49, hv', h0'⟩ := Option.bind_eq_some_iff.1 h0'
      have H' := And.intro (sub2_f hv') H'
      refine ops H' ?_
      refine quN ?_
      refine retN ?_
      obtain rfl := Option.some.inj h0'
      exact outG H' rfl rfl
theorem W_spec_l01In (x : Int) (least : Int) (most : Int) (r' : Bool) (h0' : spec_l01In x least most = some r') : Fn X 68 [.one (.sc (.int .i64 x)), .one (.sc (.int .i64 least)), .one (.sc (.int .i64 most))] [.one (.sc (.bool r'))] [] := by
  have H' := t3
  unfold spec_l01In at h0'
  refine Fn.start (fn := f68) (N := 15) (res := [.tmp 6]) rfl rfl rfl rfl rfl (by simp) ?_
  refine enterG H' ?_
  refine wpV_seq1 ?_
  refine wpV_region ?_
  refine ops H' ?_
  refine opsN ?_
  refine wpV_seq1 ?_
  refine wpV_region ?_
  refine ops H' ?_
  obtain ⟨b, gh0', h0'⟩ := Option.bind_eq_some_iff.1 h0'
  refine opsV_cut 4 (fun e' => e' = { N := 15, np := 3, nx := 3, sl := [(14, .pl (.one (.v (.sc (.bool b)))))], ob := [] }) ?_ ?_
  · simp only [List.take_succ_cons, List.take_zero]
    refine opsV_sp (fun hc' => ?_) (fun hc' => ?_)
    · replace gh0' := (ifT hc').symm.trans gh0'
      refine ops H' ?_
      obtain rfl := Option.some.inj gh0'
      refine opsV_nil ?_
      exact ⟨rfl, shd [14] [] 3 rfl⟩
    · replace gh0' := (ifF hc').symm.trans gh0'
      refine ops H' ?_
      obtain rfl := Option.some.inj gh0'
      refine opsV_nil ?_
      exact ⟨rfl, shd [14] [] 3 rfl⟩
  · rintro e' rfl
    simp only [List.drop_succ_cons, List.drop_zero]
    refine ops H' ?_
    refine opsN ?_
    refine retN ?_
    obtain rfl := Option.some.inj h0'
    exact outG H' rfl rfl
theorem W_spec_l01Var (n : Int) (r' : ByteArray) (h0' : spec_l01Var n = some r') : Fn X 96 [.one (.sc (.int .i64 n))] [.one (.sc (.string r'))] [] := by
  have H' := And.intro t3 (And.intro t5 (And.intro t9 (And.intro t28 (R_u8))))
  unfold spec_l01Var at h0'
  refine Fn.start (fn := f96) (N := 22) (res := [.tmp 2]) rfl rfl rfl rfl rfl (by simp) ?_
  refine enterG H' ?_
  refine wpV_seq1 ?_
  refine wpV_region ?_
  refine ops H' ?_
  refine opsN ?_
  refine wpV_seq1 ?_
  refine wpV_region ?_
  refine ops H' ?_
  refine opsN ?_
  refine wpV_seqJ (fun e' => ∃ n_1 out_, spec_l01Var_j1 n_1 out_ = some r' ∧ e' = { N := 22, np := 1, nx := 2, sl := [(0, .pl (.one (.v (.sc (.int .i64 n_1))))), (3, .pl (.one (.ref 1 [])))], ob := [(1, .list true 1 (List.map (rK .u8) out_))] }) ?_ ?_
  · obtain ⟨p, hl', h0'⟩ := Option.bind_eq_some_iff.1 h0'
    refine wpV_block ?_
    refine wpV_loopM (fun s' e' => ∃ n_2 out__1, s' = (n_2, out__1) ∧ e' = { N := 22, np := 1, nx := 2, sl := [(0, .pl (.one (.v (.sc (.int .i64 n_2))))), (3, .pl (.one (.ref 1 [])))], ob := [(1, .list true 1 (List.map (rK .u8) out__1))] }) hl' (shd [0, 3] [(1, 1)] 2 ⟨_, _, rfl, rfl⟩) ?_
    rintro s' y1' e' h1' ⟨n_2, out__1, rfl, rfl⟩
    replace h1' : spec_l01Var_l1 n_2 out__1 = some y1' := h1'
    unfold spec_l01Var_l1 at h1'
    refine wpV_seq1 ?_
    refine wpV_seq1 ?_
    refine wpV_region ?_
    refine ops H' ?_
    refine opsN ?_
    refine wpV_split (fun hc' => ?_) (fun hc' => ?_)
    · replace h1' := (ifT hc').symm.trans h1'
      refine skipN ?_
      refine wpV_block ?_
      refine wpV_seq1 ?_
      refine wpV_region ?_
      obtain ⟨l_1, hv', h1'⟩ := Option.bind_eq_some_iff.1 h1'
      have H' := And.intro (app1_f hv') H'
      refine ops H' ?_
      refine opsN ?_
      refine wpV_region ?_
      refine ops H' ?_
      refine opsN ?_
      obtain rfl := Option.some.inj h1'
      exact shd [0, 3] [(1, 1)] 2 ⟨_, rfl, _, _, rfl, rfl⟩
    · replace h1' := (ifF hc').symm.trans h1'
      refine exitN ?_
      obtain rfl := Option.some.inj h1'
      refine ⟨_, rfl, fun hr' => ?_⟩
      subst hr'
      exact shd [0, 3] [(1, 1)] 2 ⟨_, _, h0', rfl⟩
  · rintro e' ⟨n_1, out_, h0', rfl⟩
    unfold spec_l01Var_j1 at h0'
    refine wpV_seq1 ?_
    refine wpV_region ?_
    obtain ⟨l, hv', h0'⟩ := Option.bind_eq_some_iff.1 h0'
    have H' := And.intro (app1_f hv') H'
    refine ops H' ?_
    refine opsN ?_
    refine retN ?_
    obtain rfl := Option.some.inj h0'
    exact outG H' rfl rfl
theorem W_spec_ReadVar (text : ByteArray) (at_ : Int) (r' : Int × Int × Bool) (h0' : spec_ReadVar text at_ = some r') : Fn X 94 [.one (.sc (.string text)), .one (.sc (.int .i64 at_))] [.one (.sc (.int .i64 r'.1)), .one (.sc (.int .i64 r'.2.1)), .one (.sc (.bool r'.2.2))] [] := by
  have H' := And.intro t3 (And.intro t5 (t9))
  unfold spec_ReadVar at h0'
  refine Fn.start (fn := f94) (N := 58) (res := [.tmp 4, .tmp 5, .tmp 6]) rfl rfl rfl rfl rfl (by simp) ?_
  refine enterG H' ?_
  refine wpV_seq1 ?_
  refine wpV_region ?_
  refine ops H' ?_
  refine opsN ?_
  refine wpV_seq1 ?_
  refine wpV_seq1 ?_
  refine wpV_region ?_
  refine ops H' ?_
  obtain ⟨x13, hy', h0'⟩ := Option.bind_eq_some_iff.1 h0'
  refine callG H' (fun _ => []) (W_spec_l01In _ _ _ _ hy') ?_
  refine ops H' ?_
  refine opsN ?_
  refine wpV_split (fun hc' => ?_) (fun hc' => ?_)
  · replace h0' := (ifT hc').symm.trans h0'
    refine wpV_seq1 ?_
    refine wpV_region ?_
    refine ops H' ?_
    refine opsN ?_
    refine retN ?_
    obtain rfl := Option.some.inj h0'
    exact outG H' rfl rfl
  · replace h0' := (ifF hc').symm.trans h0'
    refine skipN ?_
    refine wpV_seq1 ?_
    refine wpV_region ?_
    refine ops H' ?_
    refine opsN ?_
    refine wpV_seq1 ?_
    refine wpV_region ?_
    refine ops H' ?_
    refine opsN ?_
    refine wpV_seqJ (fun e' => spec_ReadVar_j1 = some r' ∧ e' = { N := 58, np := 2, nx := 2, sl := [], ob := [] }) ?_ ?_
    · refine wpV_seq1 ?_
      refine wpV_region ?_
      refine ops H' ?_
      refine opsN ?_
      obtain ⟨p, hl', h0'⟩ := Option.bind_eq_some_iff.1 h0'
      refine wpV_block ?_
      refine wpV_loopM (fun s' e' => ∃ n scale i, s' = (n, scale, i) ∧ e' = { N := 58, np := 2, nx := 2, sl := [(0, .pl (.one (.v (.sc (.string text))))), (1, .pl (.one (.v (.sc (.int .i64 at_))))), (7, .pl (.one (.v (.sc (.int .i64 n))))), (8, .pl (.one (.v (.sc (.int .i64 scale))))), (9, .pl (.one (.v (.sc (.int .i64 i)))))], ob := [] }) hl' (shd [0, 1, 7, 8, 9] [] 2 ⟨_, _, _, rfl, rfl⟩) ?_
      rintro s' y1' e' h1' ⟨n, scale, i, rfl, rfl⟩
      replace h1' : spec_ReadVar_l1 text at_ n scale i = some y1' := h1'
      unfold spec_ReadVar_l1 at h1'
      refine wpV_seq1 ?_
      refine wpV_seq1 ?_
      refine wpV_region ?_
      refine ops H' ?_
      obtain ⟨b, gh1', h1'⟩ := Option.bind_eq_some_iff.1 h1'
      refine opsV_cut 5 (fun e' => e' = { N := 58, np := 2, nx := 2, sl := [(0, .pl (.one (.v (.sc (.string text))))), (1, .pl (.one (.v (.sc (.int .i64 at_))))), (7, .pl (.one (.v (.sc (.int .i64 n))))), (8, .pl (.one (.v (.sc (.int .i64 scale))))), (9, .pl (.one (.v (.sc (.int .i64 i))))), (25, .pl (.one (.v (.sc (.bool b)))))], ob := [] }) ?_ ?_
      · simp only [List.take_succ_cons, List.take_zero]
        refine opsV_sp (fun hc' => ?_) (fun hc' => ?_)
        · replace gh1' := (ifT hc').symm.trans gh1'
          refine ops H' ?_
          obtain rfl := Option.some.inj gh1'
          refine opsV_nil ?_
          exact ⟨rfl, shd [0, 1, 7, 8, 9, 25] [] 2 rfl⟩
        · replace gh1' := (ifF hc').symm.trans gh1'
          refine ops H' ?_
          obtain rfl := Option.some.inj gh1'
          refine opsV_nil ?_
          exact ⟨rfl, shd [0, 1, 7, 8, 9, 25] [] 2 rfl⟩
      · rintro e' rfl
        simp only [List.drop_succ_cons, List.drop_zero]
        refine opsN ?_
        refine wpV_split (fun hc' => ?_) (fun hc' => ?_)
        · replace h1' := (ifT hc').symm.trans h1'
          refine skipN ?_
          refine wpV_seq1 ?_
          refine wpV_block ?_
          refine wpV_seq1 ?_
          refine wpV_region ?_
          obtain ⟨x31, hv', h1'⟩ := Option.bind_eq_some_iff.1 h1'
          have H' := And.intro (sidx_f hv') H'
          refine ops H' ?_
          refine opsN ?_
          refine wpV_seq1 ?_
          refine wpV_region ?_
          refine ops H' ?_
          refine opsN ?_
          refine wpV_seq1 ?_
          refine wpV_region ?_
          refine ops H' ?_
          refine opsN ?_
          refine wpV_split (fun hc' => ?_) (fun hc' => ?_)
          · replace h1' := (ifT hc').symm.trans h1'
            refine wpV_seq1 ?_
            refine wpV_seq1 ?_
            refine regQ ?_
            refine ops H' ?_
            obtain ⟨b_1, gh1', h1'⟩ := Option.bind_eq_some_iff.1 h1'
            refine quV_cut 9 (fun e' => e' = { N := 58, np := 2, nx := 2, sl := [(7, .pl (.one (.v (.sc (.int .i64 (wk .i64 (n + (wk .i64 (((wk .i64 x31).tmod 128) * scale))))))))), (9, .pl (.one (.v (.sc (.int .i64 i))))), (54, .pl (.one (.v (.sc (.bool b_1)))))], ob := [] }) ?_ ?_
            · simp only [List.take_succ_cons, List.take_zero]
              refine quV_sp (fun hc' => ?_) (fun hc' => ?_)
              · replace gh1' := (ifF hc').symm.trans gh1'
                refine ops H' ?_
                obtain ⟨x47, hy', gh1'⟩ := Option.bind_eq_some_iff.1 gh1'
                refine callGQ H' (W_spec_l01Var _ _ hy') ?_
                obtain ⟨x52, hv', gh1'⟩ := Option.bind_eq_some_iff.1 gh1'
                have H' := And.intro (sub2_f hv') H'
                refine ops H' ?_
                obtain rfl := Option.some.inj gh1'
                refine quV_nil ?_
                exact ⟨rfl, shd [7, 9, 54] [] 2 rfl⟩
              · replace gh1' := (ifT hc').symm.trans gh1'
                refine ops H' ?_
                obtain rfl := Option.some.inj gh1'
                refine quV_nil ?_
                exact ⟨rfl, shd [7, 9, 54] [] 2 rfl⟩
            · rintro e' rfl
              simp only [List.drop_succ_cons, List.drop_zero]
              refine quN ?_
              refine wpV_split (fun hc' => ?_) (fun hc' => ?_)
              · replace h1' := (ifT hc').symm.trans h1'
                refine wpV_seq1 ?_
                refine wpV_region ?_
                refine ops H' ?_
                refine opsN ?_
                refine retN ?_
                obtain rfl := Option.some.inj h1'
                refine ⟨_, rfl, fun hr' => ?_⟩
                subst hr'
                obtain rfl := Option.some.inj h0'
                exact outG H' rfl rfl
              · replace h1' := (ifF hc').symm.trans h1'
                refine skipN ?_
                refine wpV_seq1 ?_
                refine wpV_region ?_
                refine ops H' ?_
                refine opsN ?_
                refine retN ?_
                obtain rfl := Option.some.inj h1'
                refine ⟨_, rfl, fun hr' => ?_⟩
                subst hr'
                obtain rfl := Option.some.inj h0'
                exact outG H' rfl rfl
          · replace h1' := (ifF hc').symm.trans h1'
            refine skipN ?_
            refine wpV_region ?_
            refine ops H' ?_
            refine opsN ?_
            obtain rfl := Option.some.inj h1'
            exact shd [0, 1, 7, 8, 9] [] 2 ⟨_, rfl, _, _, _, rfl, rfl⟩
        · replace h1' := (ifF hc').symm.trans h1'
          refine exitN ?_
          obtain rfl := Option.some.inj h1'
          refine ⟨_, rfl, fun hr' => ?_⟩
          subst hr'
          exact shd [] [] 2 ⟨h0', rfl⟩
    · rintro e' ⟨h0', rfl⟩
      unfold spec_ReadVar_j1 at h0'
      refine wpV_seq1 ?_
      refine wpV_region ?_
      refine ops H' ?_
      refine opsN ?_
      refine retN ?_
      obtain rfl := Option.some.inj h0'
      exact outG H' rfl rfl
theorem W_spec_l08Var (c : T_spec_l08Cur) (most : Int) (r' : Int × T_spec_l08Cur) (h0' : spec_l08Var c most = some r') : Fn X 35 [.one (.box true [.sc (.string c.text), .sc (.int .i64 c.at_), .sc (.bool c.bad)]), .one (.sc (.int .i64 most))] [.one (.sc (.int .i64 r'.1))] [(0, .box true [.sc (.string r'.2.text), .sc (.int .i64 r'.2.at_), .sc (.bool r'.2.bad)])] := by
  have H' := And.intro t3 (And.intro t4 (And.intro t9 (t72)))
  unfold spec_l08Var at h0'
  refine Fn.start (fn := f35) (N := 42) (res := [.tmp 4]) rfl rfl rfl rfl rfl (by simp) ?_
  refine enterG H' ?_
  refine wpV_seq1 ?_
  refine wpV_region ?_
  refine ops H' ?_
  refine opsN ?_
  refine wpV_seq1 ?_
  refine regQ ?_
  refine ops H' ?_
  obtain ⟨x17, hy', h0'⟩ := Option.bind_eq_some_iff.1 h0'
  refine callGQT H' [(.int .i64 x17.1), (.int .i64 x17.2.1), (.bool x17.2.2)] (W_spec_ReadVar _ _ _ hy') ?_
  refine ops H' ?_
  refine quN ?_
  refine wpV_seq1 ?_
  refine wpV_seq1 ?_
  refine wpV_region ?_
  refine ops H' ?_
  obtain ⟨b, gh0', h0'⟩ := Option.bind_eq_some_iff.1 h0'
  refine opsV_cut 3 (fun e' => e' = { N := 42, np := 2, nx := 2, sl := [(0, .pl (.one (.ref 0 []))), (1, .pl (.one (.v (.sc (.int .i64 most))))), (5, .pl (.one (.v (.sc (.int .i64 x17.1))))), (6, .pl (.one (.v (.sc (.int .i64 x17.2.1))))), (28, .pl (.one (.v (.sc (.bool b)))))], ob := [(0, .box true [.sc (.string c.text), .sc (.int .i64 c.at_), .sc (.bool c.bad)])] }) ?_ ?_
  · simp only [List.take_succ_cons, List.take_zero]
    refine opsV_sp (fun hc' => ?_) (fun hc' => ?_)
    · replace gh0' := (ifF hc').symm.trans gh0'
      refine ops H' ?_
      obtain rfl := Option.some.inj gh0'
      refine opsV_nil ?_
      exact ⟨rfl, shd [0, 1, 5, 6, 28] [(0, 0)] 2 rfl⟩
    · replace gh0' := (ifT hc').symm.trans gh0'
      refine ops H' ?_
      obtain rfl := Option.some.inj gh0'
      refine opsV_nil ?_
      exact ⟨rfl, shd [0, 1, 5, 6, 28] [(0, 0)] 2 rfl⟩
  · rintro e' rfl
    simp only [List.drop_succ_cons, List.drop_zero]
    refine ops H' ?_
    obtain ⟨b_1, gh0', h0'⟩ := Option.bind_eq_some_iff.1 h0'
    refine opsV_cut 4 (fun e' => e' = { N := 42, np := 2, nx := 2, sl := [(0, .pl (.one (.ref 0 []))), (5, .pl (.one (.v (.sc (.int .i64 x17.1))))), (6, .pl (.one (.v (.sc (.int .i64 x17.2.1))))), (33, .pl (.one (.v (.sc (.bool b_1)))))], ob := [(0, .box true [.sc (.string c.text), .sc (.int .i64 c.at_), .sc (.bool c.bad)])] }) ?_ ?_
    · simp only [List.take_succ_cons, List.take_zero]
      refine opsV_sp (fun hc' => ?_) (fun hc' => ?_)
      · replace gh0' := (ifF hc').symm.trans gh0'
        refine ops H' ?_
        obtain rfl := Option.some.inj gh0'
        refine opsV_nil ?_
        exact ⟨rfl, shd [0, 5, 6, 33] [(0, 0)] 2 rfl⟩
      · replace gh0' := (ifT hc').symm.trans gh0'
        refine ops H' ?_
        obtain rfl := Option.some.inj gh0'
        refine opsV_nil ?_
        exact ⟨rfl, shd [0, 5, 6, 33] [(0, 0)] 2 rfl⟩
    · rintro e' rfl
      simp only [List.drop_succ_cons, List.drop_zero]
      refine opsN ?_
      refine wpV_split (fun hc' => ?_) (fun hc' => ?_)
      · replace h0' := (ifT hc').symm.trans h0'
        refine wpV_seq1 ?_
        refine wpV_region ?_
        refine ops H' ?_
        refine opsN ?_
        refine wpV_seq1 ?_
        refine wpV_region ?_
        refine ops H' ?_
        refine opsN ?_
        refine retN ?_
        obtain rfl := Option.some.inj h0'
        exact outG H' rfl rfl
      · replace h0' := (ifF hc').symm.trans h0'
        refine skipN ?_
        refine wpV_seq1 ?_
        refine wpV_region ?_
        refine ops H' ?_
        refine opsN ?_
        refine wpV_seq1 ?_
        refine wpV_region ?_
        refine ops H' ?_
        refine opsN ?_
        refine retN ?_
        obtain rfl := Option.some.inj h0'
        exact outG H' rfl rfl
theorem W_spec_ReadShort (text : ByteArray) (at_ : Int) (r' : ByteArray × Int × Bool) (h0' : spec_ReadShort text at_ = some r') : Fn X 95 [.one (.sc (.string text)), .one (.sc (.int .i64 at_))] [.one (.sc (.string r'.1)), .one (.sc (.int .i64 r'.2.1)), .one (.sc (.bool r'.2.2))] [] := by
  have H' := And.intro t3 (t9)
  unfold spec_ReadShort at h0'
  refine Fn.start (fn := f95) (N := 40) (res := [.tmp 4, .tmp 5, .tmp 6]) rfl rfl rfl rfl rfl (by simp) ?_
  refine enterG H' ?_
  refine wpV_seq1 ?_
  refine wpV_region ?_
  refine ops H' ?_
  refine opsN ?_
  refine wpV_seq1 ?_
  refine wpV_region ?_
  refine ops H' ?_
  obtain ⟨x13, hy', h0'⟩ := Option.bind_eq_some_iff.1 h0'
  refine callG H' (fun _ => []) (W_spec_ReadVar _ _ _ hy') ?_
  refine ops H' ?_
  refine opsN ?_
  refine wpV_seq1 ?_
  refine wpV_seq1 ?_
  refine wpV_region ?_
  refine ops H' ?_
  obtain ⟨b, gh0', h0'⟩ := Option.bind_eq_some_iff.1 h0'
  refine opsV_cut 3 (fun e' => e' = { N := 40, np := 2, nx := 2, sl := [(0, .pl (.one (.v (.sc (.string text))))), (7, .pl (.one (.v (.sc (.int .i64 x13.1))))), (8, .pl (.one (.v (.sc (.int .i64 x13.2.1))))), (22, .pl (.one (.v (.sc (.bool b)))))], ob := [] }) ?_ ?_
  · simp only [List.take_succ_cons, List.take_zero]
    refine opsV_sp (fun hc' => ?_) (fun hc' => ?_)
    · replace gh0' := (ifF hc').symm.trans gh0'
      refine ops H' ?_
      obtain rfl := Option.some.inj gh0'
      refine opsV_nil ?_
      exact ⟨rfl, shd [0, 7, 8, 22] [] 2 rfl⟩
    · replace gh0' := (ifT hc').symm.trans gh0'
      refine ops H' ?_
      obtain rfl := Option.some.inj gh0'
      refine opsV_nil ?_
      exact ⟨rfl, shd [0, 7, 8, 22] [] 2 rfl⟩
  · rintro e' rfl
    simp only [List.drop_succ_cons, List.drop_zero]
    refine ops H' ?_
    obtain ⟨b_1, gh0', h0'⟩ := Option.bind_eq_some_iff.1 h0'
    refine opsV_cut 7 (fun e' => e' = { N := 40, np := 2, nx := 2, sl := [(0, .pl (.one (.v (.sc (.string text))))), (7, .pl (.one (.v (.sc (.int .i64 x13.1))))), (8, .pl (.one (.v (.sc (.int .i64 x13.2.1))))), (30, .pl (.one (.v (.sc (.bool b_1)))))], ob := [] }) ?_ ?_
    · simp only [List.take_succ_cons, List.take_zero]
      refine opsV_sp (fun hc' => ?_) (fun hc' => ?_)
      · replace gh0' := (ifF hc').symm.trans gh0'
        refine ops H' ?_
        obtain rfl := Option.some.inj gh0'
        refine opsV_nil ?_
        exact ⟨rfl, shd [0, 7, 8, 30] [] 2 rfl⟩
      · replace gh0' := (ifT hc').symm.trans gh0'
        refine ops H' ?_
        obtain rfl := Option.some.inj gh0'
        refine opsV_nil ?_
        exact ⟨rfl, shd [0, 7, 8, 30] [] 2 rfl⟩
    · rintro e' rfl
      simp only [List.drop_succ_cons, List.drop_zero]
      refine opsN ?_
      refine wpV_split (fun hc' => ?_) (fun hc' => ?_)
      · replace h0' := (ifT hc').symm.trans h0'
        refine wpV_seq1 ?_
        refine wpV_region ?_
        refine ops H' ?_
        refine opsN ?_
        refine retN ?_
        obtain rfl := Option.some.inj h0'
        exact outG H' rfl rfl
      · replace h0' := (ifF hc').symm.trans h0'
        refine skipN ?_
        refine wpV_seq1 ?_
        refine wpV_region ?_
        obtain ⟨x36, hv', h0'⟩ := Option.bind_eq_some_iff.1 h0'
        have H' := And.intro (sub2_f hv') H'
        refine ops H' ?_
        refine opsN ?_
        refine retN ?_
        obtain rfl := Option.some.inj h0'
        exact outG H' rfl rfl
theorem W_spec_l08Short (c : T_spec_l08Cur) (r' : ByteArray × T_spec_l08Cur) (h0' : spec_l08Short c = some r') : Fn X 36 [.one (.box true [.sc (.string c.text), .sc (.int .i64 c.at_), .sc (.bool c.bad)])] [.one (.sc (.string r'.1))] [(0, .box true [.sc (.string r'.2.text), .sc (.int .i64 r'.2.at_), .sc (.bool r'.2.bad)])] := by
  have H' := And.intro t3 (And.intro t4 (And.intro t9 (t72)))
  unfold spec_l08Short at h0'
  refine Fn.start (fn := f36) (N := 35) (res := [.tmp 2]) rfl rfl rfl rfl rfl (by simp) ?_
  refine enterG H' ?_
  refine wpV_seq1 ?_
  refine wpV_region ?_
  refine ops H' ?_
  refine opsN ?_
  refine wpV_seq1 ?_
  refine regQ ?_
  refine ops H' ?_
  obtain ⟨x15, hy', h0'⟩ := Option.bind_eq_some_iff.1 h0'
  refine callGQT H' [(.string x15.1), (.int .i64 x15.2.1), (.bool x15.2.2)] (W_spec_ReadShort _ _ _ hy') ?_
  refine ops H' ?_
  refine quN ?_
  refine wpV_seq1 ?_
  refine wpV_seq1 ?_
  refine wpV_region ?_
  refine ops H' ?_
  obtain ⟨b, gh0', h0'⟩ := Option.bind_eq_some_iff.1 h0'
  refine opsV_cut 3 (fun e' => e' = { N := 35, np := 1, nx := 1, sl := [(0, .pl (.one (.ref 0 []))), (3, .pl (.one (.v (.sc (.string x15.1))))), (4, .pl (.one (.v (.sc (.int .i64 x15.2.1))))), (26, .pl (.one (.v (.sc (.bool b)))))], ob := [(0, .box true [.sc (.string c.text), .sc (.int .i64 c.at_), .sc (.bool c.bad)])] }) ?_ ?_
  · simp only [List.take_succ_cons, List.take_zero]
    refine opsV_sp (fun hc' => ?_) (fun hc' => ?_)
    · replace gh0' := (ifF hc').symm.trans gh0'
      refine ops H' ?_
      obtain rfl := Option.some.inj gh0'
      refine opsV_nil ?_
      exact ⟨rfl, shd [0, 3, 4, 26] [(0, 0)] 1 rfl⟩
    · replace gh0' := (ifT hc').symm.trans gh0'
      refine ops H' ?_
      obtain rfl := Option.some.inj gh0'
      refine opsV_nil ?_
      exact ⟨rfl, shd [0, 3, 4, 26] [(0, 0)] 1 rfl⟩
  · rintro e' rfl
    simp only [List.drop_succ_cons, List.drop_zero]
    refine opsN ?_
    refine wpV_split (fun hc' => ?_) (fun hc' => ?_)
    · replace h0' := (ifT hc').symm.trans h0'
      refine wpV_seq1 ?_
      refine wpV_region ?_
      refine ops H' ?_
      refine opsN ?_
      refine wpV_seq1 ?_
      refine wpV_region ?_
      refine ops H' ?_
      refine opsN ?_
      refine retN ?_
      obtain rfl := Option.some.inj h0'
      exact outG H' rfl rfl
    · replace h0' := (ifF hc').symm.trans h0'
      refine skipN ?_
      refine wpV_seq1 ?_
      refine wpV_region ?_
      refine ops H' ?_
      refine opsN ?_
      refine wpV_seq1 ?_
      refine wpV_region ?_
      refine ops H' ?_
      refine opsN ?_
      refine retN ?_
      obtain rfl := Option.some.inj h0'
      exact outG H' rfl rfl
theorem W_spec_l17Short (s : ByteArray) (r' : ByteArray) (h0' : spec_l17Short s = some r') : Fn X 97 [.one (.sc (.string s))] [.one (.sc (.string r'))] [] := by
  have H' := t9
  unfold spec_l17Short at h0'
  refine Fn.start (fn := f97) (N := 8) (res := [.tmp 2]) rfl rfl rfl rfl rfl (by simp) ?_
  refine enterG H' ?_
  refine wpV_seq1 ?_
  refine wpV_region ?_
  refine ops H' ?_
  refine opsN ?_
  refine wpV_seq1 ?_
  refine wpV_region ?_
  refine ops H' ?_
  obtain ⟨x5, hy', h0'⟩ := Option.bind_eq_some_iff.1 h0'
  refine callG H' (fun _ => []) (W_spec_l01Var _ _ hy') ?_
  obtain ⟨t, hv', h0'⟩ := Option.bind_eq_some_iff.1 h0'
  have H' := And.intro (sapp_f hv') H'
  refine ops H' ?_
  refine opsN ?_
  refine retN ?_
  obtain rfl := Option.some.inj h0'
  exact outG H' rfl rfl
theorem W_spec_LineOk (line : ByteArray) (r' : Bool) (h0' : spec_LineOk line = some r') : Fn X 120 [.one (.sc (.string line))] [.one (.sc (.bool r'))] [] := by
  have H' := And.intro t3 (And.intro t5 (t9))
  unfold spec_LineOk at h0'
  refine Fn.start (fn := f120) (N := 17) (res := [.tmp 2]) rfl rfl rfl rfl rfl (by simp) ?_
  refine enterG H' ?_
  refine wpV_seq1 ?_
  refine wpV_region ?_
  refine ops H' ?_
  refine opsN ?_
  refine wpV_seqJ (fun e' => spec_LineOk_j1 line = some r' ∧ e' = { N := 17, np := 1, nx := 1, sl := [(0, .pl (.one (.v (.sc (.string line)))))], ob := [] }) ?_ ?_
  · refine wpV_seq1 ?_
    refine wpV_region ?_
    refine ops H' ?_
    refine opsN ?_
    obtain ⟨p, hl', h0'⟩ := Option.bind_eq_some_iff.1 h0'
    refine wpV_block ?_
    refine wpV_loopM (fun i e' => e' = { N := 17, np := 1, nx := 1, sl := [(0, .pl (.one (.v (.sc (.string line))))), (3, .pl (.one (.v (.sc (.int .i64 i)))))], ob := [] }) hl' (shd [0, 3] [] 1 rfl) ?_
    rintro i y1' e' h1' rfl
    replace h1' : spec_LineOk_l1 line i = some y1' := h1'
    unfold spec_LineOk_l1 at h1'
    refine wpV_seq1 ?_
    refine wpV_seq1 ?_
    refine wpV_region ?_
    refine ops H' ?_
    refine opsN ?_
    refine wpV_split (fun hc' => ?_) (fun hc' => ?_)
    · replace h1' := (ifT hc').symm.trans h1'
      refine skipN ?_
      refine wpV_seq1 ?_
      refine wpV_block ?_
      refine wpV_seq1 ?_
      refine wpV_region ?_
      obtain ⟨x12, hv', h1'⟩ := Option.bind_eq_some_iff.1 h1'
      have H' := And.intro (sidx_f hv') H'
      refine ops H' ?_
      refine opsN ?_
      refine wpV_split (fun hc' => ?_) (fun hc' => ?_)
      · replace h1' := (ifT hc').symm.trans h1'
        refine wpV_seq1 ?_
        refine wpV_region ?_
        refine ops H' ?_
        refine opsN ?_
        refine retN ?_
        obtain rfl := Option.some.inj h1'
        refine ⟨_, rfl, fun hr' => ?_⟩
        subst hr'
        obtain rfl := Option.some.inj h0'
        exact outG H' rfl rfl
      · replace h1' := (ifF hc').symm.trans h1'
        refine skipN ?_
        refine wpV_region ?_
        refine ops H' ?_
        refine opsN ?_
        obtain rfl := Option.some.inj h1'
        exact shd [0, 3] [] 1 ⟨_, rfl, rfl⟩
    · replace h1' := (ifF hc').symm.trans h1'
      refine exitN ?_
      obtain rfl := Option.some.inj h1'
      refine ⟨_, rfl, fun hr' => ?_⟩
      subst hr'
      exact shd [0] [] 1 ⟨h0', rfl⟩
  · rintro e' ⟨h0', rfl⟩
    unfold spec_LineOk_j1 at h0'
    refine wpV_seq1 ?_
    refine wpV_region ?_
    refine ops H' ?_
    refine opsN ?_
    refine retN ?_
    obtain rfl := Option.some.inj h0'
    exact outG H' rfl rfl
theorem W_spec_l03All (list_ : List ByteArray) (most : Int) (r' : Bool) (h0' : spec_l03All list_ most = some r') : Fn X 175 [.one (.list false 1 (List.map rS list_)), .one (.sc (.int .i64 most))] [.one (.sc (.bool r'))] [] := by
  have H' := And.intro t3 (And.intro t9 (And.intro t36 (R_s)))
  unfold spec_l03All at h0'
  refine Fn.start (fn := f175) (N := 22) (res := [.tmp 4]) rfl rfl rfl rfl rfl (by simp) ?_
  refine enterG H' ?_
  refine wpV_seq1 ?_
  refine wpV_region ?_
  refine ops H' ?_
  refine opsN ?_
  refine wpV_seq1 ?_
  refine wpV_seq1 ?_
  refine wpV_region ?_
  refine ops H' ?_
  refine opsN ?_
  refine wpV_split (fun hc' => ?_) (fun hc' => ?_)
  · replace h0' := (ifT hc').symm.trans h0'
    refine wpV_seq1 ?_
    refine wpV_region ?_
    refine ops H' ?_
    refine opsN ?_
    refine retN ?_
    obtain rfl := Option.some.inj h0'
    exact outG H' rfl rfl
  · replace h0' := (ifF hc').symm.trans h0'
    refine skipN ?_
    refine wpV_seqJ (fun e' => spec_l03All_j1 = some r' ∧ e' = { N := 22, np := 2, nx := 2, sl := [], ob := [] }) ?_ ?_
    · refine wpV_seq1 ?_
      refine wpV_region ?_
      refine ops H' ?_
      refine opsN ?_
      obtain ⟨p, hl', h0'⟩ := Option.bind_eq_some_iff.1 h0'
      refine wpV_block ?_
      refine wpV_loopM (fun i e' => e' = { N := 22, np := 2, nx := 2, sl := [(0, .pl (.one (.v (.list false 1 (List.map rS list_))))), (5, .pl (.one (.v (.sc (.int .i64 i)))))], ob := [] }) hl' (shd [0, 5] [] 2 rfl) ?_
      rintro i y1' e' h1' rfl
      replace h1' : spec_l03All_l1 list_ i = some y1' := h1'
      unfold spec_l03All_l1 at h1'
      refine wpV_seq1 ?_
      refine wpV_seq1 ?_
      refine wpV_region ?_
      refine ops H' ?_
      refine opsN ?_
      refine wpV_split (fun hc' => ?_) (fun hc' => ?_)
      · replace h1' := (ifT hc').symm.trans h1'
        refine skipN ?_
        refine wpV_seq1 ?_
        refine wpV_block ?_
        refine wpV_seq1 ?_
        refine wpV_region ?_
        obtain ⟨x, hv', h1'⟩ := Option.bind_eq_some_iff.1 h1'
        have H' := And.intro (geti_f hv') H'
        refine ops H' ?_
        obtain ⟨x20, hy', h1'⟩ := Option.bind_eq_some_iff.1 h1'
        refine callG H' (fun _ => []) (W_spec_LineOk _ _ hy') ?_
        refine ops H' ?_
        refine opsN ?_
        refine wpV_split (fun hc' => ?_) (fun hc' => ?_)
        · replace h1' := (ifT hc').symm.trans h1'
          refine wpV_seq1 ?_
          refine wpV_region ?_
          refine ops H' ?_
          refine opsN ?_
          refine retN ?_
          obtain rfl := Option.some.inj h1'
          refine ⟨_, rfl, fun hr' => ?_⟩
          subst hr'
          obtain rfl := Option.some.inj h0'
          exact outG H' rfl rfl
        · replace h1' := (ifF hc').symm.trans h1'
          refine skipN ?_
          refine wpV_region ?_
          refine ops H' ?_
          refine opsN ?_
          obtain rfl := Option.some.inj h1'
          exact shd [0, 5] [] 2 ⟨_, rfl, rfl⟩
      · replace h1' := (ifF hc').symm.trans h1'
        refine exitN ?_
        obtain rfl := Option.some.inj h1'
        refine ⟨_, rfl, fun hr' => ?_⟩
        subst hr'
        exact shd [] [] 2 ⟨h0', rfl⟩
    · rintro e' ⟨h0', rfl⟩
      unfold spec_l03All_j1 at h0'
      refine wpV_seq1 ?_
      refine wpV_region ?_
      refine ops H' ?_
      refine opsN ?_
      refine retN ?_
      obtain rfl := Option.some.inj h0'
      exact outG H' rfl rfl
theorem W_spec_LinesOk (list_ : List ByteArray) (r' : Bool) (h0' : spec_LinesOk list_ = some r') : Fn X 146 [.one (.list false 1 (List.map rS list_))] [.one (.sc (.bool r'))] [] := by
  have H' := R_s
  unfold spec_LinesOk at h0'
  refine Fn.start (fn := f146) (N := 5) (res := [.tmp 2]) rfl rfl rfl rfl rfl (by simp) ?_
  refine enterG H' ?_
  refine wpV_seq1 ?_
  refine wpV_region ?_
  refine ops H' ?_
  refine opsN ?_
  refine wpV_seq1 ?_
  refine wpV_region ?_
  refine ops H' ?_
  obtain ⟨x4, hy', h0'⟩ := Option.bind_eq_some_iff.1 h0'
  refine callG H' (fun _ => []) (W_spec_l03All _ _ _ hy') ?_
  refine ops H' ?_
  refine opsN ?_
  refine retN ?_
  obtain rfl := Option.some.inj h0'
  exact outG H' rfl rfl
theorem W_spec_l22ChangeOk (x : T_impl_Change) (r' : Bool) (h0' : spec_l22ChangeOk x = some r') : Fn X 98 [.agg [.sc (.int .i64 x.Kind), .sc (.string x.Path), .sc (.string x.To), .list false 1 (List.map rS x.Lines)]] [.one (.sc (.bool r'))] [] := by
  have H' := And.intro t3 (And.intro t9 (And.intro t36 (And.intro t80 (R_s))))
  unfold spec_l22ChangeOk at h0'
  refine Fn.start (fn := f98) (N := 23) (res := [.tmp 2]) rfl rfl rfl rfl rfl (by simp) ?_
  refine enterG H' ?_
  refine wpV_seq1 ?_
  refine wpV_region ?_
  refine ops H' ?_
  refine opsN ?_
  refine wpV_seq1 ?_
  refine wpV_region ?_
  refine ops H' ?_
  obtain ⟨x5, hy', h0'⟩ := Option.bind_eq_some_iff.1 h0'
  refine callG H' (fun _ => []) (W_spec_l01In _ _ _ _ hy') ?_
  refine ops H' ?_
  obtain ⟨b, gh0', h0'⟩ := Option.bind_eq_some_iff.1 h0'
  refine opsV_cut 5 (fun e' => e' = { N := 23, np := 4, nx := 5, sl := [(1, .pl (.one (.ref 4 []))), (11, .pl (.one (.v (.sc (.bool b)))))], ob := [(4, .box true [.sc (.int .i64 x.Kind), .sc (.string x.Path), .sc (.string x.To), .list false 1 (List.map rS x.Lines)])] }) ?_ ?_
  · simp only [List.take_succ_cons, List.take_zero]
    refine opsV_sp (fun hc' => ?_) (fun hc' => ?_)
    · replace gh0' := (ifT hc').symm.trans gh0'
      refine ops H' ?_
      obtain rfl := Option.some.inj gh0'
      refine opsV_nil ?_
      exact ⟨rfl, shd [1, 11] [(4, 4)] 5 rfl⟩
    · replace gh0' := (ifF hc').symm.trans gh0'
      refine ops H' ?_
      obtain rfl := Option.some.inj gh0'
      refine opsV_nil ?_
      exact ⟨rfl, shd [1, 11] [(4, 4)] 5 rfl⟩
  · rintro e' rfl
    simp only [List.drop_succ_cons, List.drop_zero]
    refine ops H' ?_
    obtain ⟨b_1, gh0', h0'⟩ := Option.bind_eq_some_iff.1 h0'
    refine opsV_cut 5 (fun e' => e' = { N := 23, np := 4, nx := 5, sl := [(1, .pl (.one (.ref 4 []))), (17, .pl (.one (.v (.sc (.bool b_1)))))], ob := [(4, .box true [.sc (.int .i64 x.Kind), .sc (.string x.Path), .sc (.string x.To), .list false 1 (List.map rS x.Lines)])] }) ?_ ?_
    · simp only [List.take_succ_cons, List.take_zero]
      refine opsV_sp (fun hc' => ?_) (fun hc' => ?_)
      · replace gh0' := (ifT hc').symm.trans gh0'
        refine ops H' ?_
        obtain rfl := Option.some.inj gh0'
        refine opsV_nil ?_
        exact ⟨rfl, shd [1, 17] [(4, 4)] 5 rfl⟩
      · replace gh0' := (ifF hc').symm.trans gh0'
        refine ops H' ?_
        obtain rfl := Option.some.inj gh0'
        refine opsV_nil ?_
        exact ⟨rfl, shd [1, 17] [(4, 4)] 5 rfl⟩
    · rintro e' rfl
      simp only [List.drop_succ_cons, List.drop_zero]
      refine ops H' ?_
      obtain ⟨b_2, gh0', h0'⟩ := Option.bind_eq_some_iff.1 h0'
      refine opsV_cut 4 (fun e' => e' = { N := 23, np := 4, nx := 4, sl := [(22, .pl (.one (.v (.sc (.bool b_2)))))], ob := [] }) ?_ ?_
      · simp only [List.take_succ_cons, List.take_zero]
        refine opsV_sp (fun hc' => ?_) (fun hc' => ?_)
        · replace gh0' := (ifT hc').symm.trans gh0'
          refine ops H' ?_
          obtain ⟨x21, hy', gh0'⟩ := Option.bind_eq_some_iff.1 gh0'
          refine callG H' (fun _ => []) (W_spec_LinesOk _ _ hy') ?_
          refine ops H' ?_
          obtain rfl := Option.some.inj gh0'
          refine opsV_nil ?_
          exact ⟨rfl, shd [22] [] 4 rfl⟩
        · replace gh0' := (ifF hc').symm.trans gh0'
          refine ops H' ?_
          obtain rfl := Option.some.inj gh0'
          refine opsV_nil ?_
          exact ⟨rfl, shd [22] [] 4 rfl⟩
      · rintro e' rfl
        simp only [List.drop_succ_cons, List.drop_zero]
        refine ops H' ?_
        refine opsN ?_
        refine retN ?_
        obtain rfl := Option.some.inj h0'
        exact outG H' rfl rfl
theorem W_spec_Sealed (text : ByteArray) (r' : ByteArray × Bool) (h0' : spec_Sealed text = some r') : Fn X 99 [.one (.sc (.string text))] [.one (.sc (.string r'.1)), .one (.sc (.bool r'.2))] [] := by
  have H' := And.intro t3 (t9)
  unfold spec_Sealed at h0'
  refine Fn.start (fn := f99) (N := 12) (res := [.tmp 2, .tmp 3]) rfl rfl rfl rfl rfl (by simp) ?_
  refine enterG H' ?_
  refine wpV_seq1 ?_
  refine wpV_region ?_
  refine ops H' ?_
  refine opsN ?_
  refine wpV_seq1 ?_
  refine wpV_seq1 ?_
  refine wpV_region ?_
  refine ops H' ?_
  refine opsN ?_
  refine wpV_split (fun hc' => ?_) (fun hc' => ?_)
  · replace h0' := (ifT hc').symm.trans h0'
    refine wpV_seq1 ?_
    refine wpV_region ?_
    refine ops H' ?_
    refine opsN ?_
    refine retN ?_
    obtain rfl := Option.some.inj h0'
    exact outG H' rfl rfl
  · replace h0' := (ifF hc').symm.trans h0'
    refine skipN ?_
    refine wpV_seq1 ?_
    refine wpV_region ?_
    refine ops H' ?_
    obtain ⟨x9, hy', h0'⟩ := Option.bind_eq_some_iff.1 h0'
    refine callG H' (fun _ => []) (W_spec_SumOf _ _ hy') ?_
    obtain ⟨x10, hy', h0'⟩ := Option.bind_eq_some_iff.1 h0'
    refine callG H' (fun _ => []) (W_spec_l02Four _ _ hy') ?_
    obtain ⟨t, hv', h0'⟩ := Option.bind_eq_some_iff.1 h0'
    have H' := And.intro (sapp_f hv') H'
    refine ops H' ?_
    refine opsN ?_
    refine retN ?_
    obtain rfl := Option.some.inj h0'
    exact outG H' rfl rfl
end Go.TV.KFnExactReadBundle
