/- Walks. -/
import Derived.Test.YthfhiepgdeghpaaDoorKFnExactShowToldE
set_option linter.unusedVariables false
set_option linter.unusedSimpArgs false
set_option maxHeartbeats 8000000
set_option maxRecDepth 100000
namespace Go.TV.KFnExactShowTold
attribute [local irreducible] anyV wpV opsV Does thenV blockV RetL quV seqV
open Go.Proofs.Tryd Go.TV.F
theorem W_laws_szStringS (a : List ByteArray) (left : Int) (r' : Int) (h0' : laws_szStringS a left = some r') : Fn X 22 [.one (.list false 1 (List.map rS a)), .one (.sc (.int .i64 left))] [.one (.sc (.int .i64 r'))] [] := by
  have H' := And.intro t3 (And.intro t9 (And.intro t22 (R_s)))
  unfold laws_szStringS at h0'
  refine Fn.start (fn := f22) (N := 28) (res := [.tmp 4]) rfl rfl rfl rfl rfl (by simp) ?_
  refine enterG H' ?_
  refine wpV_seq1 ?_
  refine wpV_region ?_
  refine ops H' ?_
  refine opsN ?_
  refine wpV_seq1 ?_
  refine wpV_region ?_
  refine ops H' ?_
  refine opsN ?_
  refine wpV_seq1 ?_
  refine wpV_seq1 ?_
  refine wpV_region ?_
  refine ops H' ?_
  refine opsN ?_
  refine wpV_split (fun hc' => ?_) (fun hc' => ?_)
  · replace h0' := (ifT hc').symm.trans h0'
    refine wpV_seq1 ?_
    refine wpV_region ?_
    refine ops H' ?_
    refine opsN ?_
    refine retN ?_
    obtain rfl := Option.some.inj h0'
    exact outG H' rfl rfl
  · replace h0' := (ifF hc').symm.trans h0'
    refine skipN ?_
    refine wpV_seqJ (fun e' => ∃ left_1, laws_szStringS_j1 left_1 = some r' ∧ e' = { N := 28, np := 2, nx := 2, sl := [(1, .pl (.one (.v (.sc (.int .i64 left_1)))))], ob := [] }) ?_ ?_
    · refine wpV_seq1 ?_
      refine wpV_region ?_
      refine ops H' ?_
      refine opsN ?_
      obtain ⟨p, hl', h0'⟩ := Option.bind_eq_some_iff.1 h0'
      refine wpV_block ?_
      refine wpV_loopM (fun s' e' => ∃ left_2 i, s' = (left_2, i) ∧ e' = { N := 28, np := 2, nx := 2, sl := [(0, .pl (.one (.v (.list false 1 (List.map rS a))))), (1, .pl (.one (.v (.sc (.int .i64 left_2))))), (5, .pl (.one (.v (.sc (.int .i64 i)))))], ob := [] }) hl' (shd [0, 1, 5] [] 2 ⟨_, _, rfl, rfl⟩) ?_
      rintro s' y1' e' h1' ⟨left_2, i, rfl, rfl⟩
      replace h1' : laws_szStringS_l1 a left_2 i = some y1' := h1'
      unfold laws_szStringS_l1 at h1'
      refine wpV_seq1 ?_
      refine wpV_seq1 ?_
      refine wpV_region ?_
      refine ops H' ?_
      refine opsN ?_
      refine wpV_split (fun hc' => ?_) (fun hc' => ?_)
      · replace h1' := (ifT hc').symm.trans h1'
        refine skipN ?_
        refine wpV_seq1 ?_
        refine wpV_block ?_
        refine wpV_seq1 ?_
        refine wpV_region ?_
        obtain ⟨x, hv', h1'⟩ := Option.bind_eq_some_iff.1 h1'
        have H' := And.intro (geti_f hv') H'
        refine ops H' ?_
        refine opsN ?_
        refine wpV_seq1 ?_
        refine wpV_region ?_
        refine ops H' ?_
        refine opsN ?_
        refine wpV_split (fun hc' => ?_) (fun hc' => ?_)
        · replace h1' := (ifT hc').symm.trans h1'
          refine wpV_seq1 ?_
          refine wpV_region ?_
          refine ops H' ?_
          refine opsN ?_
          refine retN ?_
          obtain rfl := Option.some.inj h1'
          refine ⟨_, rfl, fun hr' => ?_⟩
          subst hr'
          obtain rfl := Option.some.inj h0'
          exact outG H' rfl rfl
        · replace h1' := (ifF hc').symm.trans h1'
          refine skipN ?_
          refine wpV_region ?_
          refine ops H' ?_
          refine opsN ?_
          obtain rfl := Option.some.inj h1'
          exact shd [0, 1, 5] [] 2 ⟨_, rfl, _, _, rfl, rfl⟩
      · replace h1' := (ifF hc').symm.trans h1'
        refine exitN ?_
        obtain rfl := Option.some.inj h1'
        refine ⟨_, rfl, fun hr' => ?_⟩
        subst hr'
        exact shd [1] [] 2 ⟨_, h0', rfl⟩
    · rintro e' ⟨left_1, h0', rfl⟩
      unfold laws_szStringS_j1 at h0'
      refine wpV_seq1 ?_
      refine wpV_region ?_
      refine ops H' ?_
      refine opsN ?_
      refine retN ?_
      obtain rfl := Option.some.inj h0'
      exact outG H' rfl rfl
theorem W_laws_szTold (a : T_laws_Told) (left : Int) (r' : Int) (h0' : laws_szTold a left = some r') : Fn X 6 [.agg [.sc (.int .i64 a.Kind), .sc (.int .i64 a.Code), .sc (.int .i64 a.Number), .list false 1 (List.map rS a.Lines)], .one (.sc (.int .i64 left))] [.one (.sc (.int .i64 r'))] [] := by
  have H' := And.intro t3 (And.intro t22 (And.intro t24 (R_s)))
  unfold laws_szTold at h0'
  refine Fn.start (fn := f6) (N := 12) (res := [.tmp 4]) rfl rfl rfl rfl rfl (by simp) ?_
  refine enterG H' ?_
  refine wpV_seq1 ?_
  refine wpV_region ?_
  refine ops H' ?_
  refine opsN ?_
  refine wpV_seq1 ?_
  refine wpV_region ?_
  refine ops H' ?_
  obtain ⟨x8, hy', h0'⟩ := Option.bind_eq_some_iff.1 h0'
  refine callG H' (fun _ => []) (W_laws_szStringS _ _ _ hy') ?_
  refine ops H' ?_
  refine opsN ?_
  refine wpV_seq1 ?_
  refine wpV_seq1 ?_
  refine wpV_region ?_
  refine ops H' ?_
  refine opsN ?_
  refine wpV_split (fun hc' => ?_) (fun hc' => ?_)
  · replace h0' := (ifT hc').symm.trans h0'
    refine wpV_seq1 ?_
    refine wpV_region ?_
    refine ops H' ?_
    refine opsN ?_
    refine retN ?_
    obtain rfl := Option.some.inj h0'
    exact outG H' rfl rfl
  · replace h0' := (ifF hc').symm.trans h0'
    refine skipN ?_
    refine wpV_seq1 ?_
    refine wpV_region ?_
    refine ops H' ?_
    refine opsN ?_
    refine retN ?_
    obtain rfl := Option.some.inj h0'
    exact outG H' rfl rfl
theorem W_laws_toStringS (a : List ByteArray) (r' : (List ByteArray)) (h0' : laws_toStringS a = some r') : Fn X 25 [.one (.list false 1 (List.map rS a))] [.one (.list true 1 (List.map rS r'))] [] := by
  have H' := And.intro t3 (And.intro t9 (And.intro t22 (R_s)))
  unfold laws_toStringS at h0'
  refine Fn.start (fn := f25) (N := 22) (res := [.tmp 2]) rfl rfl rfl rfl rfl (by simp) ?_
  refine enterG H' ?_
  refine wpV_seq1 ?_
  refine wpV_region ?_
  refine ops H' ?_
  refine opsN ?_
  refine wpV_seq1 ?_
  refine wpV_region ?_
  obtain ⟨x7, hv', h0'⟩ := Option.bind_eq_some_iff.1 h0'
  have H' := And.intro (mkl_f hv') H'
  refine ops H' ?_
  refine opsN ?_
  refine wpV_seqJ (fun e' => ∃ out_, laws_toStringS_j1 out_ = some r' ∧ e' = { N := 22, np := 1, nx := 2, sl := [(3, .pl (.one (.ref 1 [])))], ob := [(1, .list true 1 (List.map rS out_))] }) ?_ ?_
  · refine wpV_seq1 ?_
    refine wpV_region ?_
    refine ops H' ?_
    refine opsN ?_
    obtain ⟨p, hl', h0'⟩ := Option.bind_eq_some_iff.1 h0'
    refine wpV_block ?_
    refine wpV_loopM (fun s' e' => ∃ i out__1, s' = (i, out__1) ∧ e' = { N := 22, np := 1, nx := 2, sl := [(0, .pl (.one (.v (.list false 1 (List.map rS a))))), (3, .pl (.one (.ref 1 []))), (4, .pl (.one (.v (.sc (.int .i64 i)))))], ob := [(1, .list true 1 (List.map rS out__1))] }) hl' (shd [0, 3, 4] [(2, 1)] 2 ⟨_, _, rfl, rfl⟩) ?_
    rintro s' y1' e' h1' ⟨i, out__1, rfl, rfl⟩
    replace h1' : laws_toStringS_l1 a i out__1 = some y1' := h1'
    unfold laws_toStringS_l1 at h1'
    refine wpV_seq1 ?_
    refine wpV_seq1 ?_
    refine wpV_region ?_
    refine ops H' ?_
    refine opsN ?_
    refine wpV_split (fun hc' => ?_) (fun hc' => ?_)
    · replace h1' := (ifT hc').symm.trans h1'
      refine skipN ?_
      refine wpV_seq1 ?_
      refine wpV_block ?_
      refine wpV_region ?_
      obtain ⟨x, hv', h1'⟩ := Option.bind_eq_some_iff.1 h1'
      have H' := And.intro (geti_f hv') H'
      obtain ⟨x_1, hv', h1'⟩ := Option.bind_eq_some_iff.1 h1'
      have H' := And.intro (geti_f hv') H'
      refine ops H' ?_
      refine opsN ?_
      refine wpV_region ?_
      refine ops H' ?_
      refine opsN ?_
      obtain rfl := Option.some.inj h1'
      exact shd [0, 3, 4] [(1, 1)] 2 ⟨_, rfl, _, _, rfl, rfl⟩
    · replace h1' := (ifF hc').symm.trans h1'
      refine exitN ?_
      obtain rfl := Option.some.inj h1'
      refine ⟨_, rfl, fun hr' => ?_⟩
      subst hr'
      exact shd [3] [(1, 1)] 2 ⟨_, h0', rfl⟩
  · rintro e' ⟨out_, h0', rfl⟩
    unfold laws_toStringS_j1 at h0'
    refine wpV_seq1 ?_
    refine wpV_region ?_
    refine ops H' ?_
    refine opsN ?_
    refine retN ?_
    obtain rfl := Option.some.inj h0'
    exact outG H' rfl rfl
theorem W_laws_toTold (a : T_laws_Told) (r' : T_impl_Told) (h0' : laws_toTold a = some r') : Fn X 8 [.agg [.sc (.int .i64 a.Kind), .sc (.int .i64 a.Code), .sc (.int .i64 a.Number), .list false 1 (List.map rS a.Lines)]] [.agg [.sc (.int .i64 r'.Kind), .sc (.int .i64 r'.Code), .sc (.int .i64 r'.Number), .list true 1 (List.map rS r'.Lines)]] [] := by
  have H' := And.intro t3 (And.intro t22 (And.intro t24 (And.intro t27 (R_s))))
  unfold laws_toTold at h0'
  refine Fn.start (fn := f8) (N := 18) (res := [.cell 2 27]) rfl rfl rfl rfl rfl (by simp) ?_
  refine enterG H' ?_
  refine wpV_seq1 ?_
  refine wpV_region ?_
  refine ops H' ?_
  refine opsN ?_
  refine wpV_seq1 ?_
  refine wpV_region ?_
  refine ops H' ?_
  refine opsN ?_
  refine wpV_seq1 ?_
  refine wpV_region ?_
  refine ops H' ?_
  refine opsN ?_
  refine wpV_seq1 ?_
  refine wpV_region ?_
  refine ops H' ?_
  refine opsN ?_
  refine wpV_seq1 ?_
  refine wpV_region ?_
  refine ops H' ?_
  refine opsN ?_
  refine wpV_seq1 ?_
  refine wpV_region ?_
  refine ops H' ?_
  obtain ⟨x15, hy', h0'⟩ := Option.bind_eq_some_iff.1 h0'
  refine callG H' (fun _ => []) (W_laws_toStringS _ _ hy') ?_
  refine ops H' ?_
  refine opsN ?_
  refine wpV_seq1 ?_
  refine wpV_region ?_
  refine ops H' ?_
  refine opsN ?_
  refine retN ?_
  obtain rfl := Option.some.inj h0'
  exact outC H' rfl rfl
theorem W_spec_l01In (x : Int) (least : Int) (most : Int) (r' : Bool) (h0' : spec_l01In x least most = some r') : Fn X 23 [.one (.sc (.int .i64 x)), .one (.sc (.int .i64 least)), .one (.sc (.int .i64 most))] [.one (.sc (.bool r'))] [] := by
  have H' := t3
  unfold spec_l01In at h0'
  refine Fn.start (fn := f23) (N := 15) (res := [.tmp 6]) rfl rfl rfl rfl rfl (by simp) ?_
  refine enterG H' ?_
  refine wpV_seq1 ?_
  refine wpV_region ?_
  refine ops H' ?_
  refine opsN ?_
  refine wpV_seq1 ?_
  refine wpV_region ?_
  refine ops H' ?_
  obtain ⟨b, gh0', h0'⟩ := Option.bind_eq_some_iff.1 h0'
  refine opsV_cut 4 (fun e' => e' = { N := 15, np := 3, nx := 3, sl := [(14, .pl (.one (.v (.sc (.bool b)))))], ob := [] }) ?_ ?_
  · simp only [List.take_succ_cons, List.take_zero]
    refine opsV_sp (fun hc' => ?_) (fun hc' => ?_)
    · replace gh0' := (ifT hc').symm.trans gh0'
      refine ops H' ?_
      obtain rfl := Option.some.inj gh0'
      refine opsV_nil ?_
      exact ⟨rfl, shd [14] [] 3 rfl⟩
    · replace gh0' := (ifF hc').symm.trans gh0'
      refine ops H' ?_
      obtain rfl := Option.some.inj gh0'
      refine opsV_nil ?_
      exact ⟨rfl, shd [14] [] 3 rfl⟩
  · rintro e' rfl
    simp only [List.drop_succ_cons, List.drop_zero]
    refine ops H' ?_
    refine opsN ?_
    refine retN ?_
    obtain rfl := Option.some.inj h0'
    exact outG H' rfl rfl
theorem W_spec_l01Figure (x : Int) (r' : Int) (h0' : spec_l01Figure x = some r') : Fn X 52 [.one (.sc (.int .i64 x))] [.one (.sc (.int .u8 r'))] [] := by
  have H' := And.intro t3 (t5)
  unfold spec_l01Figure at h0'
  refine Fn.start (fn := f52) (N := 12) (res := [.tmp 2]) rfl rfl rfl rfl rfl (by simp) ?_
  refine enterG H' ?_
  refine wpV_seq1 ?_
  refine wpV_region ?_
  refine ops H' ?_
  refine opsN ?_
  refine wpV_seq1 ?_
  refine wpV_seq1 ?_
  refine wpV_region ?_
  refine ops H' ?_
  refine opsN ?_
  refine wpV_split (fun hc' => ?_) (fun hc' => ?_)
  · replace h0' := (ifT hc').symm.trans h0'
    refine wpV_seq1 ?_
    refine wpV_region ?_
    refine ops H' ?_
    refine opsN ?_
    refine retN ?_
    obtain rfl := Option.some.inj h0'
    exact outG H' rfl rfl
  · replace h0' := (ifF hc').symm.trans h0'
    refine skipN ?_
    refine wpV_seq1 ?_
    refine wpV_region ?_
    refine ops H' ?_
    refine opsN ?_
    refine retN ?_
    obtain rfl := Option.some.inj h0'
    exact outG H' rfl rfl
theorem W_spec_Decimal (n : Int) (r' : ByteArray) (h0' : spec_Decimal n = some r') : Fn X 24 [.one (.sc (.int .i64 n))] [.one (.sc (.string r'))] [] := by
  have H' := And.intro t3 (And.intro t5 (And.intro t9 (t36)))
  unfold spec_Decimal at h0'
  refine Fn.start (fn := f24) (N := 30) (res := [.tmp 2]) rfl rfl rfl rfl rfl (by simp) ?_
  refine enterG H' ?_
  refine wpV_seq1 ?_
  refine wpV_region ?_
  refine ops H' ?_
  refine opsN ?_
  refine wpV_seq1 ?_
  refine wpV_seq1 ?_
  refine wpV_region ?_
  refine ops H' ?_
  refine opsN ?_
  refine wpV_split (fun hc' => ?_) (fun hc' => ?_)
  · replace h0' := (ifT hc').symm.trans h0'
    refine wpV_seq1 ?_
    refine wpV_region ?_
    refine ops H' ?_
    refine opsN ?_
    refine retN ?_
    obtain rfl := Option.some.inj h0'
    exact outG H' rfl rfl
  · replace h0' := (ifF hc').symm.trans h0'
    refine skipN ?_
    refine wpV_seq1 ?_
    refine wpV_region ?_
    refine ops H' ?_
    refine opsN ?_
    refine wpV_seq1 ?_
    refine wpV_region ?_
    refine ops H' ?_
    refine opsN ?_
    refine wpV_seqJ (fun e' => ∃ s, spec_Decimal_j1 n s = some r' ∧ e' = { N := 30, np := 1, nx := 1, sl := [(3, .pl (.one (.v (.sc (.bool (decide (n < 0))))))), (4, .pl (.one (.v (.sc (.string s)))))], ob := [] }) ?_ ?_
    · obtain ⟨p, hl', h0'⟩ := Option.bind_eq_some_iff.1 h0'
      refine wpV_block ?_
      refine wpV_loopM (fun s' e' => ∃ n_1 s_1, s' = (n_1, s_1) ∧ e' = { N := 30, np := 1, nx := 1, sl := [(0, .pl (.one (.v (.sc (.int .i64 n_1))))), (3, .pl (.one (.v (.sc (.bool (decide (n < 0))))))), (4, .pl (.one (.v (.sc (.string s_1)))))], ob := [] }) hl' (shd [0, 3, 4] [] 1 ⟨_, _, rfl, rfl⟩) ?_
      rintro s' y1' e' h1' ⟨n_1, s_1, rfl, rfl⟩
      replace h1' : spec_Decimal_l1 n_1 s_1 = some y1' := h1'
      unfold spec_Decimal_l1 at h1'
      refine wpV_seq1 ?_
      refine wpV_seq1 ?_
      refine wpV_region ?_
      refine ops H' ?_
      refine opsN ?_
      refine wpV_split (fun hc' => ?_) (fun hc' => ?_)
      · replace h1' := (ifT hc').symm.trans h1'
        refine skipN ?_
        refine wpV_block ?_
        refine wpV_seq1 ?_
        refine wpV_region ?_
        refine ops H' ?_
        refine opsN ?_
        refine wpV_seqJ (fun e' => ∃ d, spec_Decimal_j2 n_1 s_1 d = some y1' ∧ e' = { N := 30, np := 1, nx := 1, sl := [(0, .pl (.one (.v (.sc (.int .i64 n_1))))), (3, .pl (.one (.v (.sc (.bool (decide (n < 0))))))), (4, .pl (.one (.v (.sc (.string s_1))))), (5, .pl (.one (.v (.sc (.int .i64 d)))))], ob := [] }) ?_ ?_
        · refine wpV_seq1 ?_
          refine wpV_region ?_
          refine ops H' ?_
          refine opsN ?_
          refine wpV_split (fun hc' => ?_) (fun hc' => ?_)
          · replace h1' := (ifT hc').symm.trans h1'
            refine wpV_region ?_
            refine ops H' ?_
            refine opsN ?_
            exact shd [0, 3, 4, 5] [] 1 ⟨_, h1', rfl⟩
          · replace h1' := (ifF hc').symm.trans h1'
            refine skipN ?_
            exact shd [0, 3, 4, 5] [] 1 ⟨_, h1', rfl⟩
        · rintro e' ⟨d, h1', rfl⟩
          unfold spec_Decimal_j2 at h1'
          refine wpV_seq1 ?_
          refine wpV_region ?_
          refine ops H' ?_
          obtain ⟨x19, hy', h1'⟩ := Option.bind_eq_some_iff.1 h1'
          refine callG H' (fun _ => []) (W_spec_l01Figure _ _ hy') ?_
          have H' := And.intro (show bytesOf [[V.sc (.int .u8 x19)]] = some [x19] from bytesOf_rK [x19]) H'
          obtain ⟨t_1, hv', h1'⟩ := Option.bind_eq_some_iff.1 h1'
          have H' := And.intro (sapp_f hv') H'
          refine ops H' ?_
          refine opsN ?_
          refine wpV_region ?_
          refine ops H' ?_
          refine opsN ?_
          obtain rfl := Option.some.inj h1'
          exact shd [0, 3, 4] [] 1 ⟨_, rfl, _, _, rfl, rfl⟩
      · replace h1' := (ifF hc').symm.trans h1'
        refine exitN ?_
        obtain rfl := Option.some.inj h1'
        refine ⟨_, rfl, fun hr' => ?_⟩
        subst hr'
        exact shd [3, 4] [] 1 ⟨_, h0', rfl⟩
    · rintro e' ⟨s, h0', rfl⟩
      unfold spec_Decimal_j1 at h0'
      refine wpV_seq1 ?_
      refine wpV_seq1 ?_
      refine wpV_region ?_
      refine ops H' ?_
      refine opsN ?_
      refine wpV_split (fun hc' => ?_) (fun hc' => ?_)
      · replace h0' := (ifT hc').symm.trans h0'
        refine wpV_seq1 ?_
        refine wpV_region ?_
        obtain ⟨t, hv', h0'⟩ := Option.bind_eq_some_iff.1 h0'
        have H' := And.intro (sapp_f hv') H'
        refine ops H' ?_
        refine opsN ?_
        refine retN ?_
        obtain rfl := Option.some.inj h0'
        exact outG H' rfl rfl
      · replace h0' := (ifF hc').symm.trans h0'
        refine skipN ?_
        refine wpV_seq1 ?_
        refine wpV_region ?_
        refine ops H' ?_
        refine opsN ?_
        refine retN ?_
        obtain rfl := Option.some.inj h0'
        exact outG H' rfl rfl
theorem W_spec_ShowTold (t : T_impl_Told) (r' : ByteArray) (h0' : spec_ShowTold t = some r') : Fn X 7 [.agg [.sc (.int .i64 t.Kind), .sc (.int .i64 t.Code), .sc (.int .i64 t.Number), .list false 1 (List.map rS t.Lines)]] [.one (.sc (.string r'))] [] := by
  have H' := And.intro t3 (And.intro t5 (And.intro t9 (And.intro t22 (And.intro t27 (And.intro t36 (And.intro R_s (R_u8)))))))
  unfold spec_ShowTold at h0'
  refine Fn.start (fn := f7) (N := 52) (res := [.tmp 2]) rfl rfl rfl rfl rfl (by simp) ?_
  refine enterG H' ?_
  refine wpV_seq1 ?_
  refine wpV_region ?_
  refine ops H' ?_
  refine opsN ?_
  refine wpV_seq1 ?_
  refine wpV_region ?_
  refine ops H' ?_
  refine opsN ?_
  refine wpV_seq1 ?_
  refine wpV_region ?_
  refine ops H' ?_
  refine opsN ?_
  refine wpV_seqJ (fun e' => ∃ s, spec_ShowTold_j1 t s = some r' ∧ e' = { N := 52, np := 4, nx := 5, sl := [(1, .pl (.one (.ref 4 []))), (4, .pl (.one (.v (.sc (.string s)))))], ob := [(4, .box true [.sc (.int .i64 t.Kind), .sc (.int .i64 t.Code), .sc (.int .i64 t.Number), .list false 1 (List.map rS t.Lines)])] }) ?_ ?_
  · refine wpV_seq1 ?_
    refine wpV_region ?_
    refine ops H' ?_
    obtain ⟨x10, hy', h0'⟩ := Option.bind_eq_some_iff.1 h0'
    refine callG H' (fun _ => []) (W_spec_l01In _ _ _ _ hy') ?_
    refine opsN ?_
    refine wpV_split (fun hc' => ?_) (fun hc' => ?_)
    · replace h0' := (ifT hc').symm.trans h0'
      refine wpV_region ?_
      obtain ⟨x_1, hv', h0'⟩ := Option.bind_eq_some_iff.1 h0'
      have H' := And.intro (geti_f hv') H'
      have H' := And.intro (show ([[V.sc (.string (ByteArray.mk #[110, 111, 110, 101]))], [V.sc (.string (ByteArray.mk #[99, 111, 109, 109, 105, 116]))], [V.sc (.string (ByteArray.mk #[116, 101, 120, 116]))], [V.sc (.string (ByteArray.mk #[110, 111, 116, 101, 115]))], [V.sc (.string (ByteArray.mk #[109, 101, 114, 103, 101]))], [V.sc (.string (ByteArray.mk #[110, 97, 109, 101, 115]))]] : List (List V))[t.Kind.toNat]? = some [V.sc (.string x_1)] from litR_f rS hv') H'
      have H' := And.intro (show (t.Kind.toNat < 6) = True from (geti_f hv').2.1) H'
      refine ops H' ?_
      refine opsN ?_
      exact shd [1, 4] [(4, 4)] 5 ⟨_, h0', rfl⟩
    · replace h0' := (ifF hc').symm.trans h0'
      refine skipN ?_
      exact shd [1, 4] [(4, 4)] 5 ⟨_, h0', rfl⟩
  · rintro e' ⟨s, h0', rfl⟩
    unfold spec_ShowTold_j1 at h0'
    refine wpV_seq1 ?_
    obtain ⟨t_1, hv', h0'⟩ := Option.bind_eq_some_iff.1 h0'
    have H' := And.intro (sapp_f hv') H'
    obtain ⟨x20, hy_x20, h0'⟩ := Option.bind_eq_some_iff.1 h0'
    obtain ⟨t_2, hv', h0'⟩ := Option.bind_eq_some_iff.1 h0'
    have H' := And.intro (sapp_f hv') H'
    obtain ⟨t_3, hv', h0'⟩ := Option.bind_eq_some_iff.1 h0'
    have H' := And.intro (sapp_f hv') H'
    obtain ⟨x25, hy_x25, h0'⟩ := Option.bind_eq_some_iff.1 h0'
    obtain ⟨t_4, hv', h0'⟩ := Option.bind_eq_some_iff.1 h0'
    have H' := And.intro (sapp_f hv') H'
    obtain ⟨t_5, hv', h0'⟩ := Option.bind_eq_some_iff.1 h0'
    have H' := And.intro (sapp_f hv') H'
    refine wpV_J (fun e' => e' = { N := 52, np := 4, nx := 6, sl := [(1, .pl (.one (.ref 4 []))), (5, .pl (.one (.ref 5 [])))], ob := [(4, .box true [.sc (.int .i64 t.Kind), .sc (.int .i64 t.Code), .sc (.int .i64 t.Number), .list false 1 (List.map rS t.Lines)]), (5, .list true 1 (List.map (rK .u8) (bytesL t_5)))] }) ?_ ?_
    · refine regAnyF [(3, 19, .pl (.one (.v (.sc (.int .i64 t.Code))))), (4, 20, .pl (.one (.v (.sc (.string x20))))), (5, 21, .pl (.one (.v (.sc (.string t_2))))), (6, 22, .pl (.one (.v (.sc (.string t_3))))), (8, 24, .pl (.one (.v (.sc (.int .i64 t.Number))))), (9, 25, .pl (.one (.v (.sc (.string x25))))), (10, 26, .pl (.one (.v (.sc (.string t_4))))), (11, 27, .pl (.one (.v (.sc (.string t_5)))))] ?_
      refine (?_ : anyF X ?ops5_0_0 _ _ ?P5_0_0 _)
      have d5_0_0_0' : anyF X ?ops5_0_0 [0, 1, 2, 3, 4, 5, 6, 7, 8, 9, 10, 11, 12, 13] [] ?P5_0_0 { N := 52, np := 4, nx := 6, sl := [(1, .pl (.one (.ref 4 []))), (5, .pl (.one (.ref 5 [])))], ob := [(4, .box true [.sc (.int .i64 t.Kind), .sc (.int .i64 t.Code), .sc (.int .i64 t.Number), .list false 1 (List.map rS t.Lines)]), (5, .list true 1 (List.map (rK .u8) (bytesL t_5)))] } := by
        refine fend (e2 := { N := 52, np := 4, nx := 6, sl := [(1, .pl (.one (.ref 4 []))), (5, .pl (.one (.ref 5 [])))], ob := [(4, .box true [.sc (.int .i64 t.Kind), .sc (.int .i64 t.Code), .sc (.int .i64 t.Number), .list false 1 (List.map rS t.Lines)]), (5, .list true 1 (List.map (rK .u8) (bytesL t_5)))] }) [] [] [] [] trivial ⟨rfl, shd [1, 5] [(4, 4), (5, 5)] 6 rfl⟩
      have d5_0_0_1' : anyF X ?ops5_0_0 [0, 1, 2, 3, 4, 5, 6, 7, 8, 9, 10, 11, 12] [] ?P5_0_0 { N := 52, np := 4, nx := 6, sl := [(1, .pl (.one (.ref 4 []))), (28, .pl (.one (.ref 5 [])))], ob := [(4, .box true [.sc (.int .i64 t.Kind), .sc (.int .i64 t.Code), .sc (.int .i64 t.Number), .list false 1 (List.map rS t.Lines)]), (5, .list true 1 (List.map (rK .u8) (bytesL t_5)))] } := by
        refine fnode [] [.m 13 [] [0, 1, 2, 3, 4, 5, 6, 7, 8, 9, 10, 11, 12, 13] []] [] [(13, false, [], [0, 1, 2, 3, 4, 5, 6, 7, 8, 9, 10, 11, 12, 13])] ⟨?_, trivial⟩
        · refine obM ?_
          refine ops H' ?_
          refine opsV_nil ⟨rfl, .inl ⟨rfl, ?_⟩⟩
          exact anyFShd [1, 5] [(4, 4), (5, 5)] 6 d5_0_0_0'
      have d5_0_0_2' : anyF X ?ops5_0_0 [0, 1, 2, 7] [(3, 19, .pl (.one (.v (.sc (.int .i64 t.Code))))), (4, 20, .pl (.one (.v (.sc (.string x20))))), (5, 21, .pl (.one (.v (.sc (.string t_2))))), (6, 22, .pl (.one (.v (.sc (.string t_3))))), (8, 24, .pl (.one (.v (.sc (.int .i64 t.Number))))), (9, 25, .pl (.one (.v (.sc (.string x25))))), (10, 26, .pl (.one (.v (.sc (.string t_4))))), (11, 27, .pl (.one (.v (.sc (.string t_5)))))] ?P5_0_0 { N := 52, np := 4, nx := 5, sl := [(1, .pl (.one (.ref 4 []))), (17, .pl (.one (.v (.sc (.string t_1))))), (18, .pl (.one (.addr 4 [] 0 0 1))), (23, .pl (.one (.addr 4 [] 0 0 2)))], ob := [(4, .box true [.sc (.int .i64 t.Kind), .sc (.int .i64 t.Code), .sc (.int .i64 t.Number), .list false 1 (List.map rS t.Lines)])] } := by
        refine fnode [3, 4, 5, 6, 8, 9, 10, 11] [.q 3 19 (.pl (.one (.v (.sc (.int .i64 t.Code))))) [], .q 4 20 (.pl (.one (.v (.sc (.string x20))))) [3], .q 5 21 (.pl (.one (.v (.sc (.string t_2))))) [4], .q 6 22 (.pl (.one (.v (.sc (.string t_3))))) [5], .q 8 24 (.pl (.one (.v (.sc (.int .i64 t.Number))))) [], .q 9 25 (.pl (.one (.v (.sc (.string x25))))) [4, 8], .q 10 26 (.pl (.one (.v (.sc (.string t_4))))) [6, 9], .q 11 27 (.pl (.one (.v (.sc (.string t_5))))) [10], .m 12 [11, 10, 6, 9, 5, 4, 8, 3] [0, 1, 2, 3, 4, 5, 6, 7, 8, 9, 10, 11, 12] []] [(3, 19), (4, 20), (5, 21), (6, 22), (8, 24), (9, 25), (10, 26), (11, 27)] [(3, true, [], []), (4, true, [3], []), (5, true, [4], []), (6, true, [5], []), (8, true, [], []), (9, true, [4, 8], []), (10, true, [6, 9], []), (11, true, [10], []), (12, false, [11, 10, 6, 9, 5, 4, 8, 3], [0, 1, 2, 3, 4, 5, 6, 7, 8, 9, 10, 11, 12])] ⟨?_, ?_, ?_, ?_, ?_, ?_, ?_, ?_, ?_, trivial⟩
        · refine obQ 0 ?_
          refine ops H' ?_
          refine opsV_nil ⟨rfl, shd [19, 1, 17, 18, 23] [(4, 4)] 5 rfl⟩
        · refine obQ 1 ?_
          refine callG H' (fun _ => []) (W_spec_Decimal _ _ hy_x20) ?_
          refine opsV_nil ⟨rfl, shd [20, 1, 17, 18, 23] [(4, 4)] 5 rfl⟩
        · refine obQ 2 ?_
          refine ops H' ?_
          refine opsV_nil ⟨rfl, shd [21, 1, 17, 18, 23] [(4, 4)] 5 rfl⟩
        · refine obQ 3 ?_
          refine ops H' ?_
          refine opsV_nil ⟨rfl, shd [22, 1, 17, 18, 23] [(4, 4)] 5 rfl⟩
        · refine obQ 4 ?_
          refine ops H' ?_
          refine opsV_nil ⟨rfl, shd [24, 1, 17, 18, 23] [(4, 4)] 5 rfl⟩
        · refine obQ 5 ?_
          refine callG H' (fun _ => []) (W_spec_Decimal _ _ hy_x25) ?_
          refine opsV_nil ⟨rfl, shd [25, 1, 17, 18, 23] [(4, 4)] 5 rfl⟩
        · refine obQ 6 ?_
          refine ops H' ?_
          refine opsV_nil ⟨rfl, shd [26, 1, 17, 18, 23] [(4, 4)] 5 rfl⟩
        · refine obQ 7 ?_
          refine ops H' ?_
          refine opsV_nil ⟨rfl, shd [27, 1, 17, 18, 23] [(4, 4)] 5 rfl⟩
        · refine obM ?_
          refine ops H' ?_
          refine opsV_nil ⟨rfl, .inl ⟨rfl, ?_⟩⟩
          exact anyFShd [1, 28] [(4, 4), (5, 5)] 6 d5_0_0_1'
      refine fpure H' 0 [0] [(3, 19), (4, 20), (5, 21), (6, 22), (8, 24), (9, 25), (10, 26), (11, 27)] ?_
      refine fpure H' 1 [0, 1] [(3, 19), (4, 20), (5, 21), (6, 22), (8, 24), (9, 25), (10, 26), (11, 27)] ?_
      refine fpure H' 2 [0, 1, 2] [(3, 19), (4, 20), (5, 21), (6, 22), (8, 24), (9, 25), (10, 26), (11, 27)] ?_
      refine fpure H' 7 [0, 1, 2, 7] [(3, 19), (4, 20), (5, 21), (6, 22), (8, 24), (9, 25), (10, 26), (11, 27)] ?_
      exact anyFShd [1, 17, 18, 23] [(4, 4)] 5 d5_0_0_2'
    · rintro e' rfl
      refine contN ?_
      refine wpV_seqJ (fun e' => ∃ out_, spec_ShowTold_j2 out_ = some r' ∧ e' = { N := 52, np := 4, nx := 5, sl := [(5, .pl (.one (.ref 4 [])))], ob := [(4, .list true 1 (List.map (rK .u8) out_))] }) ?_ ?_
      · refine wpV_seq1 ?_
        refine wpV_region ?_
        refine ops H' ?_
        refine opsN ?_
        obtain ⟨p, hl', h0'⟩ := Option.bind_eq_some_iff.1 h0'
        refine wpV_block ?_
        refine wpV_loopM (fun s' e' => ∃ i out__1, s' = (i, out__1) ∧ e' = { N := 52, np := 4, nx := 6, sl := [(1, .pl (.one (.ref 4 []))), (5, .pl (.one (.ref 5 []))), (6, .pl (.one (.v (.sc (.int .i64 i)))))], ob := [(4, .box true [.sc (.int .i64 t.Kind), .sc (.int .i64 t.Code), .sc (.int .i64 t.Number), .list false 1 (List.map rS t.Lines)]), (5, .list true 1 (List.map (rK .u8) out__1))] }) hl' (shd [1, 5, 6] [(4, 4), (5, 5)] 6 ⟨_, _, rfl, rfl⟩) ?_
        rintro s' y1' e' h1' ⟨i, out__1, rfl, rfl⟩
        replace h1' : spec_ShowTold_l1 t i out__1 = some y1' := h1'
        unfold spec_ShowTold_l1 at h1'
        refine wpV_seq1 ?_
        refine wpV_seq1 ?_
        refine wpV_region ?_
        refine ops H' ?_
        obtain ⟨b, gh1', h1'⟩ := Option.bind_eq_some_iff.1 h1'
        refine opsV_cut 3 (fun e' => e' = { N := 52, np := 4, nx := 6, sl := [(1, .pl (.one (.ref 4 []))), (5, .pl (.one (.ref 5 []))), (6, .pl (.one (.v (.sc (.int .i64 i))))), (37, .pl (.one (.v (.sc (.bool b)))))], ob := [(4, .box true [.sc (.int .i64 t.Kind), .sc (.int .i64 t.Code), .sc (.int .i64 t.Number), .list false 1 (List.map rS t.Lines)]), (5, .list true 1 (List.map (rK .u8) out__1))] }) ?_ ?_
        · simp only [List.take_succ_cons, List.take_zero]
          refine opsV_sp (fun hc' => ?_) (fun hc' => ?_)
          · replace gh1' := (ifT hc').symm.trans gh1'
            refine ops H' ?_
            obtain rfl := Option.some.inj gh1'
            refine opsV_nil ?_
            exact ⟨rfl, shd [1, 5, 6, 37] [(4, 4), (5, 5)] 6 rfl⟩
          · replace gh1' := (ifF hc').symm.trans gh1'
            refine ops H' ?_
            obtain rfl := Option.some.inj gh1'
            refine opsV_nil ?_
            exact ⟨rfl, shd [1, 5, 6, 37] [(4, 4), (5, 5)] 6 rfl⟩
        · rintro e' rfl
          simp only [List.drop_succ_cons, List.drop_zero]
          refine opsN ?_
          refine wpV_split (fun hc' => ?_) (fun hc' => ?_)
          · replace h1' := (ifT hc').symm.trans h1'
            refine skipN ?_
            refine wpV_seq1 ?_
            refine wpV_block ?_
            refine wpV_region ?_
            obtain ⟨x, hv', h1'⟩ := Option.bind_eq_some_iff.1 h1'
            have H' := And.intro (geti_f hv') H'
            obtain ⟨t_6, hv', h1'⟩ := Option.bind_eq_some_iff.1 h1'
            have H' := And.intro (sapp_f hv') H'
            obtain ⟨t_7, hv', h1'⟩ := Option.bind_eq_some_iff.1 h1'
            have H' := And.intro (sapp_f hv') H'
            obtain ⟨l, hv', h1'⟩ := Option.bind_eq_some_iff.1 h1'
            have H' := And.intro (appn_f hv') H'
            refine ops H' ?_
            refine opsN ?_
            refine wpV_region ?_
            refine ops H' ?_
            refine opsN ?_
            obtain rfl := Option.some.inj h1'
            exact shd [1, 5, 6] [(4, 4), (5, 5)] 6 ⟨_, rfl, _, _, rfl, rfl⟩
          · replace h1' := (ifF hc').symm.trans h1'
            refine exitN ?_
            obtain rfl := Option.some.inj h1'
            refine ⟨_, rfl, fun hr' => ?_⟩
            subst hr'
            exact shd [5] [(5, 4)] 5 ⟨_, h0', rfl⟩
      · rintro e' ⟨out_, h0', rfl⟩
        unfold spec_ShowTold_j2 at h0'
        refine wpV_seq1 ?_
        refine wpV_region ?_
        refine ops H' ?_
        refine opsN ?_
        refine retN ?_
        obtain rfl := Option.some.inj h0'
        exact outG H' rfl rfl
theorem W_impl_kindName (kind : Int) (r' : ByteArray) (h0' : impl_kindName kind = some r') : Fn X 27 [.one (.sc (.int .i64 kind))] [.one (.sc (.string r'))] [] := by
  have H' := t3
  unfold impl_kindName at h0'
  refine Fn.start (fn := f27) (N := 14) (res := [.tmp 2]) rfl rfl rfl rfl rfl (by simp) ?_
  refine enterG H' ?_
  refine wpV_seq1 ?_
  refine wpV_region ?_
  refine ops H' ?_
  refine opsN ?_
  refine wpV_seq1 ?_
  refine wpV_seq1 ?_
  refine wpV_region ?_
  refine ops H' ?_
  refine opsN ?_
  refine wpV_block ?_
  refine wpV_seq1 ?_
  refine wpV_region ?_
  refine ops H' ?_
  refine opsN ?_
  refine wpV_split (fun hc' => ?_) (fun hc' => ?_)
  · replace h0' := (ifT hc').symm.trans h0'
    refine wpV_seq1 ?_
    refine wpV_region ?_
    refine ops H' ?_
    refine opsN ?_
    refine retN ?_
    obtain rfl := Option.some.inj h0'
    exact outG H' rfl rfl
  · replace h0' := (ifF hc').symm.trans h0'
    refine wpV_seq1 ?_
    refine wpV_region ?_
    refine ops H' ?_
    refine opsN ?_
    refine wpV_split (fun hc' => ?_) (fun hc' => ?_)
    · replace h0' := (ifT hc').symm.trans h0'
      refine wpV_seq1 ?_
      refine wpV_region ?_
      refine ops H' ?_
      refine opsN ?_
      refine retN ?_
      obtain rfl := Option.some.inj h0'
      exact outG H' rfl rfl
    · replace h0' := (ifF hc').symm.trans h0'
      refine wpV_seq1 ?_
      refine wpV_region ?_
      refine ops H' ?_
      refine opsN ?_
      refine wpV_split (fun hc' => ?_) (fun hc' => ?_)
      · replace h0' := (ifT hc').symm.trans h0'
        refine wpV_seq1 ?_
        refine wpV_region ?_
        refine ops H' ?_
        refine opsN ?_
        refine retN ?_
        obtain rfl := Option.some.inj h0'
        exact outG H' rfl rfl
      · replace h0' := (ifF hc').symm.trans h0'
        refine wpV_seq1 ?_
        refine wpV_region ?_
        refine ops H' ?_
        refine opsN ?_
        refine wpV_split (fun hc' => ?_) (fun hc' => ?_)
        · replace h0' := (ifT hc').symm.trans h0'
          refine wpV_seq1 ?_
          refine wpV_region ?_
          refine ops H' ?_
          refine opsN ?_
          refine retN ?_
          obtain rfl := Option.some.inj h0'
          exact outG H' rfl rfl
        · replace h0' := (ifF hc').symm.trans h0'
          refine wpV_seq1 ?_
          refine wpV_region ?_
          refine ops H' ?_
          refine opsN ?_
          refine wpV_split (fun hc' => ?_) (fun hc' => ?_)
          · replace h0' := (ifT hc').symm.trans h0'
            refine wpV_seq1 ?_
            refine wpV_region ?_
            refine ops H' ?_
            refine opsN ?_
            refine retN ?_
            obtain rfl := Option.some.inj h0'
            exact outG H' rfl rfl
          · replace h0' := (ifF hc').symm.trans h0'
            refine skipN ?_
            refine wpV_seq1 ?_
            refine wpV_region ?_
            refine ops H' ?_
            refine opsN ?_
            refine retN ?_
            obtain rfl := Option.some.inj h0'
            exact outG H' rfl rfl
theorem W_strconv_Itoa (i : Int) (r' : ByteArray) (h0' : strconv_Itoa i = some r') : Fn X 54 [.one (.sc (.int .i64 i))] [.one (.sc (.string r'))] [] := by
  unfold strconv_Itoa at h0'
  split at h0'
  case isFalse => cases h0'
  rename_i hs
  obtain rfl := Option.some.inj h0'
  exact Fn_intS ⟨_, Go.Proofs.Tryd.func54, rfl, rfl⟩ (fun w hg => by
    obtain ⟨y, hy, hy2⟩ := hg _ _ (by rfl : X.G 0 = some (isTab .u64 Go.Lib.pow10Tab))
    exact Go.Proofs.Any.strconv_Itoa { Go.Proofs.Tryd.lays171 with } i hs.1 hs.2 w (isTab_var (by rfl) hy hy2))
theorem W_impl_Decimal (n : Int) (r' : ByteArray) (h0' : impl_Decimal n = some r') : Fn X 28 [.one (.sc (.int .i64 n))] [.one (.sc (.string r'))] [] := by
  have H' := trivial
  unfold impl_Decimal at h0'
  refine Fn.start (fn := f28) (N := 5) (res := [.tmp 2]) rfl rfl rfl rfl rfl (by simp) ?_
  refine enterG H' ?_
  refine wpV_seq1 ?_
  refine wpV_region ?_
  refine ops H' ?_
  refine opsN ?_
  refine wpV_seq1 ?_
  refine wpV_region ?_
  refine ops H' ?_
  obtain ⟨x4, hy', h0'⟩ := Option.bind_eq_some_iff.1 h0'
  refine callG H' (fun _ => []) (W_strconv_Itoa _ _ hy') ?_
  refine ops H' ?_
  refine opsN ?_
  refine retN ?_
  obtain rfl := Option.some.inj h0'
  exact outG H' rfl rfl
section
open Go.RowKit Go.Proofs Go
theorem strings_Builder_WriteString_bz : ∃ j, Tryd.prog.info? 48 = some j ∧ j.size = 2 := by
  have : (Tryd.prog.info? 48).map (·.size) = some 2 := by kernel_rfl
  obtain ⟨j, h1, h2⟩ := Option.map_eq_some_iff.1 this
  exact ⟨j, h1, h2⟩
theorem strings_Builder_WriteString_bl : liesAt Tryd.prog Tryd.prog.depth 48 (2 / Tryd.prog.cellsOf 48) 0 48 1 = true := by kernel_rfl
theorem strings_Builder_WriteString_copyCheck_used (b : Nat) (w : World) (h0 : w.cell? ⟨b, 0, none⟩ = some (.pointer (some ⟨b, 0, none⟩))) :
    Calls Tryd.prog 53 #[.pointer (some ⟨b, 0, none⟩)] w fun e w' => e = .returned (.tuple #[]) ∧ w' = w := by
  obtain ⟨j, hj, _⟩ := strings_Builder_WriteString_bz
  go_enter Tryd.func53, Tryd.ntmps53
  go_wp2
  rw [Go.Lib.run_neq_ptr_same w _ Tryd.underlying46 hj]
  go_wp2
  go_end0
  exact ⟨rfl, rfl⟩
theorem strings_Builder_WriteString_copyCheck_fresh (b : Nat) (w : World) (h0 : w.cell? ⟨b, 0, none⟩ = some (.pointer none)) (hsh : w.shape? b = some (48, 2)) (hfz : w.frozen? ⟨b, 0, none⟩ = false) :
    Calls Tryd.prog 53 #[.pointer (some ⟨b, 0, none⟩)] w fun e w' => e = .returned (.tuple #[]) ∧ w' = w.setCell ⟨b, 0, none⟩ (.pointer (some ⟨b, 0, none⟩)) := by
  obtain ⟨j, hj, hjs⟩ := strings_Builder_WriteString_bz
  go_enter Tryd.func53, Tryd.ntmps53
  go_wp2
  rw [Go.Lib.run_to_unsafe w ⟨b, 0, none⟩ Tryd.underlying46 Tryd.underlying89 hj (by rw [hjs]; decide) hsh (Nat.zero_lt_succ 1)]
  simp only [Result.andThen]
  rw [Oper.upon_value]
  go_wp2
  rw [run_callFunc_extern Tryd.func66 (by kernel_rfl) (by kernel_rfl) (by kernel_rfl) (e := Extern.AbiNoEscape.same) (by kernel_rfl)]
  rw [Go.Lib.run_noEscape]
  simp only [Result.andThen]
  rw [Oper.upon_value]
  go_wp2
  rw [Go.Lib.run_from_unsafe w ⟨b, 0, none⟩ Tryd.underlying89 Tryd.underlying46 hj hsh strings_Builder_WriteString_bl]
  simp only [Result.andThen]
  rw [Oper.upon_value]
  go_wp2
  go_end0
  exact ⟨rfl, rfl⟩
theorem strings_Builder_WriteString_binfo : ∃ i, Tryd.prog.info? 5 = some i ∧ i.zero = some (.int .u8 0) ∧ i.size = 1 ∧ i.bytes = 1 := by
  have : (Tryd.prog.info? 5).map (fun i => (i.zero, i.size, i.bytes)) = some (some (.int .u8 0), 1, 1) := by kernel_rfl
  obtain ⟨i, h1, h2⟩ := Option.map_eq_some_iff.1 this
  injection h2 with h2 h3
  injection h3 with h3 h4
  exact ⟨i, h1, h2, h3, h4⟩
theorem strings_Builder_WriteString_bWrite (b : Nat) (p v : Value) (s x : ByteArray) (w : World) (hbk : w.heap[b]? = some (.cells #[p, v] 48 (0, 0))) (hp : p = .pointer none ∨ p = .pointer (some ⟨b, 0, none⟩)) (hown : w.ownsRow 0 5 1 v s.size (Go.Lib.strCells s)) (hne : v.ownBlock ≠ some b) (hlen : s.size + x.size ≤ 549755813888) :
    Calls Tryd.prog 26 #[.pointer (some ⟨b, 0, none⟩), .string x] w fun e w' => e = .returned (.tuple #[.int .i64 x.size, .nilIface]) ∧ ∃ v', w'.heap[b]? = some (.cells #[.pointer (some ⟨b, 0, none⟩), v'] 48 (0, 0)) ∧ w'.ownsRow 0 5 1 v' (s.size + x.size) (Go.Lib.strCells s ++ Go.Lib.strCells x) ∧ v'.ownBlock ≠ some b ∧
      w'.os = w.os ∧ w'.tape = w.tape ∧ w'.output = w.output ∧ w.heap.size ≤ w'.heap.size ∧ (∀ k, k < w.heap.size → k ≠ b → v.ownBlock ≠ some k → w'.heap[k]? = w.heap[k]?) ∧ (∀ g, v'.ownBlock = some g → v.ownBlock = some g ∨ w.heap.size ≤ g) ∧ (v = .slice none 0 0 → x.size = 0 → v' = .slice none 0 0) := by
  obtain ⟨i0, hi, hz0, hz1, hz2⟩ := strings_Builder_WriteString_binfo
  have hblt : b < w.heap.size := by
    rcases Nat.lt_or_ge b w.heap.size with h' | h'
    · exact h'
    · simp [Array.getElem?_eq_none h'] at hbk
  have hc0 : w.cell? ⟨b, 0, none⟩ = some p := by rw [Go.Lib.cell_of_heap hbk]; rfl
  have hsh : w.shape? b = some (48, 2) := by simp [World.shape?, hbk]
  have hfz : w.frozen? ⟨b, 0, none⟩ = false := Go.Lib.frozen_of_heap hbk 0
  -- behind the look at the copy
  have key : Calls Tryd.prog 53 #[.pointer (some ⟨b, 0, none⟩)] w fun e w1 => e = .returned (.tuple #[]) ∧ w1.heap[b]? = some (.cells #[.pointer (some ⟨b, 0, none⟩), v] 48 (0, 0)) ∧ w1.os = w.os ∧ w1.tape = w.tape ∧ w1.output = w.output ∧ w1.heap.size = w.heap.size ∧ (∀ k, k ≠ b → w1.heap[k]? = w.heap[k]?) := by
    rcases hp with rfl | rfl
    · refine (strings_Builder_WriteString_copyCheck_fresh b w hc0 hsh hfz).mono ?_
      rintro e w1 ⟨rfl, rfl⟩
      refine ⟨rfl, ?_, rfl, rfl, rfl, by simp [World.setCell], fun k hk => Below.heap_setCell _ _ _ _ hk⟩
      simp [World.setCell, Array.getElem?_modify, hbk]
    · refine (strings_Builder_WriteString_copyCheck_used b w hc0).mono ?_
      rintro e w1 ⟨rfl, rfl⟩
      exact ⟨rfl, hbk, rfl, rfl, rfl, rfl, fun _ _ => rfl⟩
  have e53 : ∀ args w, (callFunc 53 args).run Tryd.prog w = .ok (.enter 53 args) w := enters_of Tryd.func53 (by kernel_rfl) rfl
  go_enter Tryd.func26, Tryd.ntmps26
  go_wp2_with (go_at_fn 53; refine key.mono ?_)
  rintro e w1 ⟨rfl, hbk1, o1, o2, o3, o4, o5⟩
  have hown1 : w1.ownsRow 0 5 1 v s.size (Go.Lib.strCells s) := by
    refine ⟨hown.1, ?_⟩
    rcases hown.2 with h | ⟨g, cap, cur, rfl, h2, h3, h4⟩
    · exact .inl h
    · exact .inr ⟨g, cap, cur, rfl, h2, by rw [o5 g (fun q => hne (by simp [Value.ownBlock, q]))]; exact h3, h4⟩
  have c1 : w1.cell? ⟨b, 1, none⟩ = some v := by rw [Go.Lib.cell_of_heap hbk1]; rfl
  obtain ⟨v', w2, hr, hown2, hgrow, hnew, hnil⟩ := Go.TV.append_bld (P := Tryd.prog) w1 36 9 36 5 i0 Tryd.underlying36 Tryd.underlying9 hi hz0 hz1 hz2 v s.size (Go.Lib.strCells s) hown1 x hlen
  go_wp2_with (at_builtin; refine Go.TV.wpList_app2 rfl _ _ 36 9 rfl rfl rfl hr ?_)
  rintro v2 w3 ⟨e1, e2⟩
  rw [e1, e2]
  clear e1 e2
  have hb2 : w2.heap[b]? = some (.cells #[.pointer (some ⟨b, 0, none⟩), v] 48 (0, 0)) := by
    rw [hgrow.block b (by omega) (fun e => hne e.symm)]
    exact hbk1
  have d0 : w2.cell? ⟨b, 0, none⟩ = some (.pointer (some ⟨b, 0, none⟩)) := by rw [Go.Lib.cell_of_heap hb2]; rfl
  have d1 : w2.cell? ⟨b, 1, none⟩ = some v := by rw [Go.Lib.cell_of_heap hb2]; rfl
  have f1 : w2.frozen? ⟨b, 1, none⟩ = false := Go.Lib.frozen_of_heap hb2 1
  obtain ⟨ao, n', cap, rfl⟩ : ∃ ao n' cap, v' = .slice ao n' cap := by
    rcases hown2.2 with ⟨hv, _⟩ | ⟨g, cap, cur, hv, _⟩
    · exact ⟨_, _, _, hv⟩
    · exact ⟨_, _, _, hv⟩
  go_wp2
  go_ret2
  have hne2 : (Value.slice ao n' cap).ownBlock ≠ some b := fun q => by
    rcases hnew b q with h | h
    · exact hne h
    · omega
  refine ⟨rfl, _, ?_, ?_, hne2, hgrow.os.trans o1, hgrow.tape.trans o2, hgrow.output.trans o3, ?_, ?_, ?_, hnil⟩
  · simp [World.setCell, Array.getElem?_modify, hb2]
  · refine ⟨hown2.1, ?_⟩
    rcases hown2.2 with h | ⟨g, cap', cur, h1, h2, h3, h4⟩
    · exact .inl h
    · refine .inr ⟨g, cap', cur, h1, h2, ?_, h4⟩
      rw [Below.heap_setCell _ _ _ _ (fun q => hne2 (by rw [h1, q]; rfl))]
      exact h3
  · have := hgrow.size
    simp [World.setCell]
    omega
  · intro k hk hkb hkv
    rw [Below.heap_setCell _ _ _ _ hkb, hgrow.block k (by omega) (fun q => hkv q.symm), o5 k hkb]
  · intro g hg
    rcases hnew g hg with h | h
    · exact .inl h
    · right
      omega
end
theorem W_strings_Builder_WriteString (b : ByteArray) (x : ByteArray) (r' : ByteArray) (h0' : strings_Builder_WriteString b x = some r') : Fn X 26 [.one (.bld 48 5 b), .one (.sc (.string x))] [.one (.sc (.int .i64 (x.size : Int))), .one (.sc .nilIface)] [(0, .bld 48 5 r')] := by
  unfold strings_Builder_WriteString at h0'
  split at h0'
  case isFalse => cases h0'
  rename_i hs
  obtain rfl := Option.some.inj h0'
  exact Fn_bldWrite ⟨_, Go.Proofs.Tryd.func26, rfl, rfl⟩ (fun bb p v w h1 h2 h3 h4 => strings_Builder_WriteString_bWrite bb p v b x w h1 h2 h3 h4 hs)
section
open Go.RowKit Go.Proofs Go
theorem strings_Builder_String_strBytes (s : ByteArray) (h : s.size = 0) : s = ByteArray.empty := by
  apply ByteArray.ext
  have : s.data.size = 0 := h
  exact Array.eq_empty_of_size_eq_zero this
theorem strings_Builder_String_bString (b : Nat) (p v : Value) (s : ByteArray) (w : World) (hbk : w.heap[b]? = some (.cells #[p, v] 48 (0, 0))) (hown : w.ownsRow 0 5 1 v s.size (Go.Lib.strCells s)) (hne : v.ownBlock ≠ some b) (hz : s.size = 0 → v = .slice none 0 0) :
    Calls Tryd.prog 29 #[.pointer (some ⟨b, 0, none⟩)] w fun e w' => e = .returned (.string s) ∧ w'.os = w.os ∧ w'.tape = w.tape ∧ w'.output = w.output ∧ w.heap.size ≤ w'.heap.size ∧ (∀ k, k < w.heap.size → k ≠ b → v.ownBlock ≠ some k → w'.heap[k]? = w.heap[k]?) := by
  have mixed : Tryd.prog.follows .mixedOrders = true := by kernel_rfl
  by_cases h0 : s.size = 0
  · have hs := strings_Builder_String_strBytes s h0
    subst hs
    have hv := hz h0
    subst hv
    have hUS : ∀ (W : World) (q : Option Addr), (Builtin.unsafeString_ #[74, 3] 9 #[.pointer q, .int .i64 0]).run Tryd.prog W = .ok (.string .empty) W := fun W q => Go.Lib.run_unsafeString_none W _ _ _ q
    have c1 : w.drew.cell? ⟨b, 1, none⟩ = some (.slice none 0 0) := by
      have : w.drew.heap[b]? = some (.cells #[p, .slice none 0 0] 48 (0, 0)) := hbk
      rw [Go.Lib.cell_of_heap this]; rfl
    have hSD : (Builtin.unsafeSliceData_ #[36] 74 #[.slice none 0 0]).run Tryd.prog w.drew = .ok (.pointer none) w.drew := rfl
    go_enter Tryd.func29, Tryd.ntmps29
    go_wp2
    go_region_o
    all_goals (go_wp2; go_ret; exact ⟨rfl, rfl, rfl, rfl, Nat.le_refl _, fun _ _ _ _ => rfl⟩)
  · have hl : s.data.toList.length = s.size := rfl
    have hl0 : s.data.toList ≠ [] := fun q => h0 (by
      rw [q] at hl
      exact hl.symm)
    obtain ⟨g, cap, cur, rfl, hbg, hg, hnc, hcm, hcs, htake⟩ : ∃ g cap cur, v = .slice (some ⟨g, 0, none⟩) s.size cap ∧ 0 ≤ g ∧ w.heap[g]? = some (.cells cur 5 (0, 0)) ∧ s.size ≤ cap ∧ cap ≤ maxLen ∧ cur.size = cap * 1 ∧ cur.toList.take (s.size * 1) = Go.Lib.strCells s := by
      rcases hown.2 with ⟨_, hz⟩ | ⟨g, cap, cur, hv, r⟩
      · exact absurd hz h0
      · exact ⟨g, cap, cur, hv, r⟩
    have c1 : w.drew.cell? ⟨b, 1, none⟩ = some (.slice (some ⟨g, 0, none⟩) s.size cap) := by
      have : w.drew.heap[b]? = some (.cells #[p, .slice (some ⟨g, 0, none⟩) s.size cap] 48 (0, 0)) := hbk
      rw [Go.Lib.cell_of_heap this]; rfl
    have hSD : (Builtin.unsafeSliceData_ #[36] 74 #[.slice (some ⟨g, 0, none⟩) s.size cap]).run Tryd.prog w.drew = .ok (.pointer (some ⟨g, 0, none⟩)) w.drew :=
      Go.Lib.run_unsafeSliceData_row _ _ _ _ _ _ (by omega)
    have hUS : (Builtin.unsafeString_ #[74, 3] 9 #[.pointer (some ⟨g, 0, none⟩), .int .i64 s.size]).run Tryd.prog w.drew = .ok (.string s) (w.drew.freeze ⟨g, 0, none⟩ s.size) := by
      have := Go.Lib.run_unsafeString_row (P := Tryd.prog) w.drew 74 3 9 5 Tryd.underlying74 (by kernel_rfl) g cur.size (by have hg' : w.drew.heap[g]? = some (.cells cur 5 (0, 0)) := hg; simp [World.shape?, hg']) s.data.toList hl0 (by omega) (by unfold maxLen at hcm; omega) (fun j x hx => by
        have := hown.cells (g := g) rfl j (.int .u8 x.toNat) (by simp only [Go.Lib.strCells, List.getElem?_map, hx, Option.map_some])
        exact this)
      rw [hl] at this
      rw [this]
    have hfr : ∀ k, k ≠ g → (w.drew.freeze ⟨g, 0, none⟩ s.size).heap[k]? = w.heap[k]? := fun k hk => by
      unfold World.freeze
      rw [if_neg h0]
      simp only [Array.getElem?_modify]
      rw [if_neg (fun q => hk q.symm)]
      rfl
    have hsz : (w.drew.freeze ⟨g, 0, none⟩ s.size).heap.size = w.heap.size := by
      unfold World.freeze
      rw [if_neg h0]
      exact Array.size_modify
    have ho : (w.drew.freeze ⟨g, 0, none⟩ s.size).os = w.os ∧ (w.drew.freeze ⟨g, 0, none⟩ s.size).tape = w.tape ∧ (w.drew.freeze ⟨g, 0, none⟩ s.size).output = w.output := by
      unfold World.freeze
      rw [if_neg h0]
      exact ⟨rfl, rfl, rfl⟩
    go_enter Tryd.func29, Tryd.ntmps29
    go_wp2
    go_region_o
    all_goals (go_wp2; go_ret; exact ⟨rfl, ho.1, ho.2.1, ho.2.2, Nat.le_of_eq hsz.symm, fun k _ _ hk => hfr k (fun q => hk (by rw [q]; rfl))⟩)
end
theorem W_strings_Builder_String (b : ByteArray) (r' : ByteArray) (h0' : strings_Builder_String b = some r') : Fn X 29 [.one (.bld 48 5 b)] [.one (.sc (.string r'))] [] := by
  obtain rfl := Option.some.inj h0'
  exact Fn_bldString ⟨_, Go.Proofs.Tryd.func29, rfl, rfl⟩ (fun bb p v w h1 h2 h3 h4 => strings_Builder_String_bString bb p v b w h1 h2 h3 h4)
theorem W_impl_ShowTold (t : T_impl_Told) (r' : ByteArray) (h0' : impl_ShowTold t = some r') : Fn X 9 [.agg [.sc (.int .i64 t.Kind), .sc (.int .i64 t.Code), .sc (.int .i64 t.Number), .list false 1 (List.map rS t.Lines)]] [.one (.sc (.string r'))] [] := by
  have H' := And.intro t3 (And.intro t9 (And.intro t22 (And.intro t27 (And.intro t48 (R_s)))))
  unfold impl_ShowTold at h0'
  refine Fn.start (fn := f9) (N := 39) (res := [.tmp 2]) rfl rfl rfl rfl rfl (by simp) ?_
  refine enterG H' ?_
  refine wpV_seq1 ?_
  refine wpV_region ?_
  refine ops H' ?_
  refine opsN ?_
  refine wpV_seq1 ?_
  refine wpV_region ?_
  refine opsV_bldN H' 5 ?_
  refine opsN ?_
  refine wpV_seq1 ?_
  obtain ⟨x8, hy_x8, h0'⟩ := Option.bind_eq_some_iff.1 h0'
  obtain ⟨t_1, hv', h0'⟩ := Option.bind_eq_some_iff.1 h0'
  have H' := And.intro (sapp_f hv') H'
  obtain ⟨x12, hy_x12, h0'⟩ := Option.bind_eq_some_iff.1 h0'
  obtain ⟨t_2, hv', h0'⟩ := Option.bind_eq_some_iff.1 h0'
  have H' := And.intro (sapp_f hv') H'
  obtain ⟨t_3, hv', h0'⟩ := Option.bind_eq_some_iff.1 h0'
  have H' := And.intro (sapp_f hv') H'
  obtain ⟨x17, hy_x17, h0'⟩ := Option.bind_eq_some_iff.1 h0'
  obtain ⟨t_4, hv', h0'⟩ := Option.bind_eq_some_iff.1 h0'
  have H' := And.intro (sapp_f hv') H'
  obtain ⟨t_5, hv', h0'⟩ := Option.bind_eq_some_iff.1 h0'
  have H' := And.intro (sapp_f hv') H'
  obtain ⟨x20, hy_x20, h0'⟩ := Option.bind_eq_some_iff.1 h0'
  refine wpV_J (fun e' => e' = { N := 39, np := 4, nx := 6, sl := [(1, .pl (.one (.ref 4 []))), (3, .pl (.one (.ref 5 [])))], ob := [(4, .box true [.sc (.int .i64 t.Kind), .sc (.int .i64 t.Code), .sc (.int .i64 t.Number), .list false 1 (List.map rS t.Lines)]), (5, .bld 48 5 x20)] }) ?_ ?_
  · refine regAnyF [(1, 7, .pl (.one (.v (.sc (.int .i64 t.Kind))))), (2, 8, .pl (.one (.v (.sc (.string x8))))), (3, 9, .pl (.one (.v (.sc (.string t_1))))), (5, 11, .pl (.one (.v (.sc (.int .i64 t.Code))))), (6, 12, .pl (.one (.v (.sc (.string x12))))), (7, 13, .pl (.one (.v (.sc (.string t_2))))), (8, 14, .pl (.one (.v (.sc (.string t_3))))), (10, 16, .pl (.one (.v (.sc (.int .i64 t.Number))))), (11, 17, .pl (.one (.v (.sc (.string x17))))), (12, 18, .pl (.one (.v (.sc (.string t_4))))), (13, 19, .pl (.one (.v (.sc (.string t_5)))))] ?_
    refine (?_ : anyF X ?ops2_0_0 _ _ ?P2_0_0 _)
    have d2_0_0_0' : anyF X ?ops2_0_0 [0, 1, 2, 3, 4, 5, 6, 7, 8, 9, 10, 11, 12, 13, 14] [] ?P2_0_0 { N := 39, np := 4, nx := 6, sl := [(1, .pl (.one (.ref 4 []))), (3, .pl (.one (.ref 5 [])))], ob := [(4, .box true [.sc (.int .i64 t.Kind), .sc (.int .i64 t.Code), .sc (.int .i64 t.Number), .list false 1 (List.map rS t.Lines)]), (5, .bld 48 5 x20)] } := by
      refine fend (e2 := { N := 39, np := 4, nx := 6, sl := [(1, .pl (.one (.ref 4 []))), (3, .pl (.one (.ref 5 [])))], ob := [(4, .box true [.sc (.int .i64 t.Kind), .sc (.int .i64 t.Code), .sc (.int .i64 t.Number), .list false 1 (List.map rS t.Lines)]), (5, .bld 48 5 x20)] }) [] [] [] [] trivial ⟨rfl, shd [1, 3] [(4, 4), (5, 5)] 6 rfl⟩
    have d2_0_0_1' : anyF X ?ops2_0_0 [0, 4, 9] [(1, 7, .pl (.one (.v (.sc (.int .i64 t.Kind))))), (2, 8, .pl (.one (.v (.sc (.string x8))))), (3, 9, .pl (.one (.v (.sc (.string t_1))))), (5, 11, .pl (.one (.v (.sc (.int .i64 t.Code))))), (6, 12, .pl (.one (.v (.sc (.string x12))))), (7, 13, .pl (.one (.v (.sc (.string t_2))))), (8, 14, .pl (.one (.v (.sc (.string t_3))))), (10, 16, .pl (.one (.v (.sc (.int .i64 t.Number))))), (11, 17, .pl (.one (.v (.sc (.string x17))))), (12, 18, .pl (.one (.v (.sc (.string t_4))))), (13, 19, .pl (.one (.v (.sc (.string t_5)))))] ?P2_0_0 { N := 39, np := 4, nx := 6, sl := [(1, .pl (.one (.ref 4 []))), (3, .pl (.one (.ref 5 []))), (6, .pl (.one (.addr 4 [] 0 0 0))), (10, .pl (.one (.addr 4 [] 0 0 1))), (15, .pl (.one (.addr 4 [] 0 0 2)))], ob := [(4, .box true [.sc (.int .i64 t.Kind), .sc (.int .i64 t.Code), .sc (.int .i64 t.Number), .list false 1 (List.map rS t.Lines)]), (5, .bld 48 5 (ByteArray.mk #[]))] } := by
      refine fnode [1, 2, 3, 5, 6, 7, 8, 10, 11, 12, 13] [.q 1 7 (.pl (.one (.v (.sc (.int .i64 t.Kind))))) [], .q 2 8 (.pl (.one (.v (.sc (.string x8))))) [1], .q 3 9 (.pl (.one (.v (.sc (.string t_1))))) [2], .q 5 11 (.pl (.one (.v (.sc (.int .i64 t.Code))))) [], .q 6 12 (.pl (.one (.v (.sc (.string x12))))) [2, 5], .q 7 13 (.pl (.one (.v (.sc (.string t_2))))) [3, 6], .q 8 14 (.pl (.one (.v (.sc (.string t_3))))) [7], .q 10 16 (.pl (.one (.v (.sc (.int .i64 t.Number))))) [], .q 11 17 (.pl (.one (.v (.sc (.string x17))))) [6, 10], .q 12 18 (.pl (.one (.v (.sc (.string t_4))))) [8, 11], .q 13 19 (.pl (.one (.v (.sc (.string t_5))))) [12], .m 14 [11, 13, 6, 10, 12, 2, 5, 8, 1, 7, 3] [0, 1, 2, 3, 4, 5, 6, 7, 8, 9, 10, 11, 12, 13, 14] []] [(1, 7), (2, 8), (3, 9), (5, 11), (6, 12), (7, 13), (8, 14), (10, 16), (11, 17), (12, 18), (13, 19)] [(1, true, [], []), (2, true, [1], []), (3, true, [2], []), (5, true, [], []), (6, true, [2, 5], []), (7, true, [3, 6], []), (8, true, [7], []), (10, true, [], []), (11, true, [6, 10], []), (12, true, [8, 11], []), (13, true, [12], []), (14, false, [11, 13, 6, 10, 12, 2, 5, 8, 1, 7, 3], [0, 1, 2, 3, 4, 5, 6, 7, 8, 9, 10, 11, 12, 13, 14])] ⟨?_, ?_, ?_, ?_, ?_, ?_, ?_, ?_, ?_, ?_, ?_, ?_, trivial⟩
      · refine obQ 0 ?_
        refine ops H' ?_
        refine opsV_nil ⟨rfl, shd [7, 1, 3, 6, 10, 15] [(4, 4), (5, 5)] 6 rfl⟩
      · refine obQ 1 ?_
        refine callG H' (fun _ => []) (W_impl_kindName _ _ hy_x8) ?_
        refine opsV_nil ⟨rfl, shd [8, 1, 3, 6, 10, 15] [(4, 4), (5, 5)] 6 rfl⟩
      · refine obQ 2 ?_
        refine ops H' ?_
        refine opsV_nil ⟨rfl, shd [9, 1, 3, 6, 10, 15] [(4, 4), (5, 5)] 6 rfl⟩
      · refine obQ 3 ?_
        refine ops H' ?_
        refine opsV_nil ⟨rfl, shd [11, 1, 3, 6, 10, 15] [(4, 4), (5, 5)] 6 rfl⟩
      · refine obQ 4 ?_
        refine callG H' (fun _ => []) (W_impl_Decimal _ _ hy_x12) ?_
        refine opsV_nil ⟨rfl, shd [12, 1, 3, 6, 10, 15] [(4, 4), (5, 5)] 6 rfl⟩
      · refine obQ 5 ?_
        refine ops H' ?_
        refine opsV_nil ⟨rfl, shd [13, 1, 3, 6, 10, 15] [(4, 4), (5, 5)] 6 rfl⟩
      · refine obQ 6 ?_
        refine ops H' ?_
        refine opsV_nil ⟨rfl, shd [14, 1, 3, 6, 10, 15] [(4, 4), (5, 5)] 6 rfl⟩
      · refine obQ 7 ?_
        refine ops H' ?_
        refine opsV_nil ⟨rfl, shd [16, 1, 3, 6, 10, 15] [(4, 4), (5, 5)] 6 rfl⟩
      · refine obQ 8 ?_
        refine callG H' (fun _ => []) (W_impl_Decimal _ _ hy_x17) ?_
        refine opsV_nil ⟨rfl, shd [17, 1, 3, 6, 10, 15] [(4, 4), (5, 5)] 6 rfl⟩
      · refine obQ 9 ?_
        refine ops H' ?_
        refine opsV_nil ⟨rfl, shd [18, 1, 3, 6, 10, 15] [(4, 4), (5, 5)] 6 rfl⟩
      · refine obQ 10 ?_
        refine ops H' ?_
        refine opsV_nil ⟨rfl, shd [19, 1, 3, 6, 10, 15] [(4, 4), (5, 5)] 6 rfl⟩
      · refine obM ?_
        refine callG H' (fun _ => [0]) (W_strings_Builder_WriteString _ _ _ hy_x20) ?_
        refine opsV_nil ⟨rfl, .inl ⟨rfl, ?_⟩⟩
        exact anyFShd [1, 3] [(4, 4), (5, 5)] 6 d2_0_0_0'
    refine fpure H' 0 [0] [(1, 7), (2, 8), (3, 9), (5, 11), (6, 12), (7, 13), (8, 14), (10, 16), (11, 17), (12, 18), (13, 19)] ?_
    refine fpure H' 4 [0, 4] [(1, 7), (2, 8), (3, 9), (5, 11), (6, 12), (7, 13), (8, 14), (10, 16), (11, 17), (12, 18), (13, 19)] ?_
    refine fpure H' 9 [0, 4, 9] [(1, 7), (2, 8), (3, 9), (5, 11), (6, 12), (7, 13), (8, 14), (10, 16), (11, 17), (12, 18), (13, 19)] ?_
    exact anyFShd [1, 3, 6, 10, 15] [(4, 4), (5, 5)] 6 d2_0_0_1'
  · rintro e' rfl
    refine contN ?_
    refine wpV_seqJ (fun e' => ∃ b, impl_ShowTold_j1 b = some r' ∧ e' = { N := 39, np := 4, nx := 5, sl := [(3, .pl (.one (.ref 4 [])))], ob := [(4, .bld 48 5 b)] }) ?_ ?_
    · refine wpV_seq1 ?_
      refine wpV_region ?_
      obtain ⟨x27, hv', h0'⟩ := Option.bind_eq_some_iff.1 h0'
      have H' := And.intro (cutH_f hv') H'
      refine ops H' ?_
      refine opsN ?_
      obtain ⟨p, hl', h0'⟩ := Option.bind_eq_some_iff.1 h0'
      refine wpV_block ?_
      refine wpV_loopM (fun s' e' => ∃ x29 b_1, s' = (x29, b_1) ∧ e' = { N := 39, np := 4, nx := 5, sl := [(3, .pl (.one (.ref 4 []))), (27, .pl (.one (.v (.list false 1 (List.map rS x27))))), (28, .pl (.one (.v (.sc (.int .i64 (x27.length : Int)))))), (29, .pl (.one (.v (.sc (.int .i64 x29)))))], ob := [(4, .bld 48 5 b_1)] }) hl' (shd [3, 27, 28, 29] [(5, 4)] 5 ⟨_, _, rfl, rfl⟩) ?_
      rintro s' y1' e' h1' ⟨x29, b_1, rfl, rfl⟩
      replace h1' : impl_ShowTold_l1 x27 x29 b_1 = some y1' := h1'
      unfold impl_ShowTold_l1 at h1'
      refine wpV_seq1 ?_
      refine wpV_region ?_
      refine ops H' ?_
      refine opsN ?_
      refine wpV_seq1 ?_
      refine wpV_split (fun hc' => ?_) (fun hc' => ?_)
      · replace h1' := (ifT hc').symm.trans h1'
        refine skipN ?_
        refine wpV_seq1 ?_
        refine wpV_block ?_
        refine wpV_seq1 ?_
        refine wpV_region ?_
        obtain ⟨x, hv', h1'⟩ := Option.bind_eq_some_iff.1 h1'
        have H' := And.intro (geti_f hv') H'
        refine ops H' ?_
        refine opsN ?_
        refine wpV_region ?_
        obtain ⟨t_6, hv', h1'⟩ := Option.bind_eq_some_iff.1 h1'
        have H' := And.intro (sapp_f hv') H'
        obtain ⟨t_7, hv', h1'⟩ := Option.bind_eq_some_iff.1 h1'
        have H' := And.intro (sapp_f hv') H'
        refine ops H' ?_
        obtain ⟨x36, hy', h1'⟩ := Option.bind_eq_some_iff.1 h1'
        refine callG H' (fun _ => [0]) (W_strings_Builder_WriteString _ _ _ hy') ?_
        refine opsN ?_
        refine wpV_region ?_
        refine ops H' ?_
        refine opsN ?_
        obtain rfl := Option.some.inj h1'
        exact shd [3, 27, 28, 29] [(4, 4)] 5 ⟨_, rfl, _, _, rfl, rfl⟩
      · replace h1' := (ifF hc').symm.trans h1'
        refine exitN ?_
        obtain rfl := Option.some.inj h1'
        refine ⟨_, rfl, fun hr' => ?_⟩
        subst hr'
        exact shd [3] [(4, 4)] 5 ⟨_, h0', rfl⟩
    · rintro e' ⟨b, h0', rfl⟩
      unfold impl_ShowTold_j1 at h0'
      refine wpV_seq1 ?_
      refine wpV_region ?_
      obtain ⟨x38, hy', h0'⟩ := Option.bind_eq_some_iff.1 h0'
      refine callG H' (fun _ => [0]) (W_strings_Builder_String _ _ hy') ?_
      refine ops H' ?_
      refine opsN ?_
      refine retN ?_
      obtain rfl := Option.some.inj h0'
      exact outG H' rfl rfl
theorem W_laws_eqStringS (a : List ByteArray) (b : List ByteArray) (r' : Bool) (h0' : laws_eqStringS a b = some r') : Fn X 13 [.one (.list false 1 (List.map rS a)), .one (.list false 1 (List.map rS b))] [.one (.sc (.bool r'))] [] := by
  have H' := And.intro t3 (And.intro t9 (And.intro t22 (R_s)))
  unfold laws_eqStringS at h0'
  refine Fn.start (fn := f13) (N := 26) (res := [.tmp 4]) rfl rfl rfl rfl rfl (by simp) ?_
  refine enterG H' ?_
  refine wpV_seq1 ?_
  refine wpV_region ?_
  refine ops H' ?_
  refine opsN ?_
  refine wpV_seq1 ?_
  refine wpV_seq1 ?_
  refine wpV_region ?_
  refine ops H' ?_
  refine opsN ?_
  refine wpV_split (fun hc' => ?_) (fun hc' => ?_)
  · replace h0' := (ifT hc').symm.trans h0'
    refine wpV_seq1 ?_
    refine wpV_region ?_
    refine ops H' ?_
    refine opsN ?_
    refine retN ?_
    obtain rfl := Option.some.inj h0'
    exact outG H' rfl rfl
  · replace h0' := (ifF hc').symm.trans h0'
    refine skipN ?_
    refine wpV_seqJ (fun e' => laws_eqStringS_j1 = some r' ∧ e' = { N := 26, np := 2, nx := 2, sl := [], ob := [] }) ?_ ?_
    · refine wpV_seq1 ?_
      refine wpV_region ?_
      refine ops H' ?_
      refine opsN ?_
      obtain ⟨p, hl', h0'⟩ := Option.bind_eq_some_iff.1 h0'
      refine wpV_block ?_
      refine wpV_loopM (fun i e' => e' = { N := 26, np := 2, nx := 2, sl := [(0, .pl (.one (.v (.list false 1 (List.map rS a))))), (1, .pl (.one (.v (.list false 1 (List.map rS b))))), (5, .pl (.one (.v (.sc (.int .i64 i)))))], ob := [] }) hl' (shd [0, 1, 5] [] 2 rfl) ?_
      rintro i y1' e' h1' rfl
      replace h1' : laws_eqStringS_l1 a b i = some y1' := h1'
      unfold laws_eqStringS_l1 at h1'
      refine wpV_seq1 ?_
      refine wpV_seq1 ?_
      refine wpV_region ?_
      refine ops H' ?_
      refine opsN ?_
      refine wpV_split (fun hc' => ?_) (fun hc' => ?_)
      · replace h1' := (ifT hc').symm.trans h1'
        refine skipN ?_
        refine wpV_seq1 ?_
        refine wpV_block ?_
        refine wpV_seq1 ?_
        refine regQ ?_
        obtain ⟨x, hv', h1'⟩ := Option.bind_eq_some_iff.1 h1'
        have H' := And.intro (geti_f hv') H'
        obtain ⟨x_1, hv', h1'⟩ := Option.bind_eq_some_iff.1 h1'
        have H' := And.intro (geti_f hv') H'
        refine ops H' ?_
        refine quN ?_
        refine wpV_split (fun hc' => ?_) (fun hc' => ?_)
        · replace h1' := (ifT hc').symm.trans h1'
          refine wpV_seq1 ?_
          refine wpV_region ?_
          refine ops H' ?_
          refine opsN ?_
          refine retN ?_
          obtain rfl := Option.some.inj h1'
          refine ⟨_, rfl, fun hr' => ?_⟩
          subst hr'
          obtain rfl := Option.some.inj h0'
          exact outG H' rfl rfl
        · replace h1' := (ifF hc').symm.trans h1'
          refine skipN ?_
          refine wpV_region ?_
          refine ops H' ?_
          refine opsN ?_
          obtain rfl := Option.some.inj h1'
          exact shd [0, 1, 5] [] 2 ⟨_, rfl, rfl⟩
      · replace h1' := (ifF hc').symm.trans h1'
        refine exitN ?_
        obtain rfl := Option.some.inj h1'
        refine ⟨_, rfl, fun hr' => ?_⟩
        subst hr'
        exact shd [] [] 2 ⟨h0', rfl⟩
    · rintro e' ⟨h0', rfl⟩
      unfold laws_eqStringS_j1 at h0'
      refine wpV_seq1 ?_
      refine wpV_region ?_
      refine ops H' ?_
      refine opsN ?_
      refine retN ?_
      obtain rfl := Option.some.inj h0'
      exact outG H' rfl rfl
theorem W_laws_eqTold (a : T_impl_Told) (b : T_impl_Told) (r' : Bool) (h0' : laws_eqTold a b = some r') : Fn X 10 [.agg [.sc (.int .i64 a.Kind), .sc (.int .i64 a.Code), .sc (.int .i64 a.Number), .list false 1 (List.map rS a.Lines)], .agg [.sc (.int .i64 b.Kind), .sc (.int .i64 b.Code), .sc (.int .i64 b.Number), .list false 1 (List.map rS b.Lines)]] [.one (.sc (.bool r'))] [] := by
  have H' := And.intro t3 (And.intro t22 (And.intro t27 (R_s)))
  unfold laws_eqTold at h0'
  refine Fn.start (fn := f10) (N := 26) (res := [.tmp 4]) rfl rfl rfl rfl rfl (by simp) ?_
  refine enterG H' ?_
  refine wpV_seq1 ?_
  refine wpV_region ?_
  refine ops H' ?_
  refine opsN ?_
  refine wpV_seq1 ?_
  refine wpV_seq1 ?_
  refine wpV_region ?_
  refine ops H' ?_
  refine opsN ?_
  refine wpV_split (fun hc' => ?_) (fun hc' => ?_)
  · replace h0' := (ifT hc').symm.trans h0'
    refine wpV_seq1 ?_
    refine wpV_region ?_
    refine ops H' ?_
    refine opsN ?_
    refine retN ?_
    obtain rfl := Option.some.inj h0'
    exact outG H' rfl rfl
  · replace h0' := (ifF hc').symm.trans h0'
    refine skipN ?_
    refine wpV_seq1 ?_
    refine wpV_seq1 ?_
    refine wpV_region ?_
    refine ops H' ?_
    refine opsN ?_
    refine wpV_split (fun hc' => ?_) (fun hc' => ?_)
    · replace h0' := (ifT hc').symm.trans h0'
      refine wpV_seq1 ?_
      refine wpV_region ?_
      refine ops H' ?_
      refine opsN ?_
      refine retN ?_
      obtain rfl := Option.some.inj h0'
      exact outG H' rfl rfl
    · replace h0' := (ifF hc').symm.trans h0'
      refine skipN ?_
      refine wpV_seq1 ?_
      refine wpV_seq1 ?_
      refine wpV_region ?_
      refine ops H' ?_
      refine opsN ?_
      refine wpV_split (fun hc' => ?_) (fun hc' => ?_)
      · replace h0' := (ifT hc').symm.trans h0'
        refine wpV_seq1 ?_
        refine wpV_region ?_
        refine ops H' ?_
        refine opsN ?_
        refine retN ?_
        obtain rfl := Option.some.inj h0'
        exact outG H' rfl rfl
      · replace h0' := (ifF hc').symm.trans h0'
        refine skipN ?_
        refine wpV_seq1 ?_
        refine wpV_seq1 ?_
        refine wpV_region ?_
        refine ops H' ?_
        obtain ⟨x24, hy', h0'⟩ := Option.bind_eq_some_iff.1 h0'
        refine callG H' (fun _ => []) (W_laws_eqStringS _ _ _ hy') ?_
        refine ops H' ?_
        refine opsN ?_
        refine wpV_split (fun hc' => ?_) (fun hc' => ?_)
        · replace h0' := (ifT hc').symm.trans h0'
          refine wpV_seq1 ?_
          refine wpV_region ?_
          refine ops H' ?_
          refine opsN ?_
          refine retN ?_
          obtain rfl := Option.some.inj h0'
          exact outG H' rfl rfl
        · replace h0' := (ifF hc').symm.trans h0'
          refine skipN ?_
          refine wpV_seq1 ?_
          refine wpV_region ?_
          refine ops H' ?_
          refine opsN ?_
          refine retN ?_
          obtain rfl := Option.some.inj h0'
          exact outG H' rfl rfl
theorem W_laws_FnExactShowTold (aT : T_laws_Told) (r' : Bool) (h0' : laws_FnExactShowTold aT = some r') : Fn X 3 [.agg [.sc (.int .i64 aT.Kind), .sc (.int .i64 aT.Code), .sc (.int .i64 aT.Number), .list false 1 (List.map rS aT.Lines)]] [.one (.sc (.bool r'))] [] := by
  have H' := And.intro t3 (And.intro t9 (And.intro t24 (And.intro t27 (R_s))))
  unfold laws_FnExactShowTold at h0'
  refine Fn.start (fn := f3) (N := 27) (res := [.tmp 2]) rfl rfl rfl rfl rfl (by simp) ?_
  refine enterG H' ?_
  refine wpV_seq1 ?_
  refine wpV_region ?_
  refine ops H' ?_
  refine opsN ?_
  refine wpV_seq1 ?_
  refine wpV_region ?_
  refine ops H' ?_
  refine opsN ?_
  refine wpV_seq1 ?_
  refine wpV_region ?_
  refine ops H' ?_
  obtain ⟨x9, hy', h0'⟩ := Option.bind_eq_some_iff.1 h0'
  refine callG H' (fun _ => []) (W_laws_szTold _ _ _ hy') ?_
  refine ops H' ?_
  refine opsN ?_
  refine wpV_seq1 ?_
  refine wpV_seq1 ?_
  refine wpV_region ?_
  refine ops H' ?_
  refine opsN ?_
  refine wpV_split (fun hc' => ?_) (fun hc' => ?_)
  · replace h0' := (ifT hc').symm.trans h0'
    refine wpV_seq1 ?_
    refine wpV_region ?_
    refine ops H' ?_
    refine opsN ?_
    refine retN ?_
    obtain rfl := Option.some.inj h0'
    exact outG H' rfl rfl
  · replace h0' := (ifF hc').symm.trans h0'
    refine skipN ?_
    refine wpV_seq1 ?_
    refine wpV_region ?_
    refine ops H' ?_
    obtain ⟨x13, hy', h0'⟩ := Option.bind_eq_some_iff.1 h0'
    refine callG H' (fun _ => []) (W_laws_toTold _ _ hy') ?_
    obtain ⟨x14, hy', h0'⟩ := Option.bind_eq_some_iff.1 h0'
    refine callG H' (fun _ => []) (W_spec_ShowTold _ _ hy') ?_
    refine ops H' ?_
    refine opsN ?_
    refine wpV_seq1 ?_
    refine wpV_region ?_
    refine ops H' ?_
    obtain ⟨x16, hy', h0'⟩ := Option.bind_eq_some_iff.1 h0'
    refine callG H' (fun _ => []) (W_laws_toTold _ _ hy') ?_
    refine ops H' ?_
    refine opsN ?_
    refine wpV_seq1 ?_
    refine wpV_region ?_
    refine ops H' ?_
    obtain ⟨x18, hy', h0'⟩ := Option.bind_eq_some_iff.1 h0'
    refine callG H' (fun _ => []) (W_impl_ShowTold _ _ hy') ?_
    refine ops H' ?_
    refine opsN ?_
    refine wpV_seq1 ?_
    refine wpV_seq1 ?_
    refine wpV_region ?_
    refine ops H' ?_
    refine opsN ?_
    refine wpV_split (fun hc' => ?_) (fun hc' => ?_)
    · replace h0' := (ifT hc').symm.trans h0'
      refine wpV_seq1 ?_
      refine wpV_region ?_
      refine ops H' ?_
      refine opsN ?_
      refine retN ?_
      obtain rfl := Option.some.inj h0'
      exact outG H' rfl rfl
    · replace h0' := (ifF hc').symm.trans h0'
      refine skipN ?_
      refine wpV_seq1 ?_
      refine wpV_seq1 ?_
      obtain ⟨x24, hy_x24, h0'⟩ := Option.bind_eq_some_iff.1 h0'
      obtain ⟨x25, hy_x25, h0'⟩ := Option.bind_eq_some_iff.1 h0'
      refine wpV_J (fun e' => e' = { N := 27, np := 4, nx := 4, sl := [(26, .pl (.one (.v (.sc (.bool (!x25))))))], ob := [] }) ?_ ?_
      · refine regAnyF [(1, 23, .pl (.agg [.v (.sc (.int .i64 aT.Kind)), .v (.sc (.int .i64 aT.Code)), .v (.sc (.int .i64 aT.Number)), .v (.list false 1 (List.map rS aT.Lines))])), (3, 25, .pl (.one (.v (.sc (.bool x25))))), (4, 26, .pl (.one (.v (.sc (.bool (!x25))))))] ?_
        refine (?_ : anyF X ?ops10_0_0 _ _ ?P10_0_0 _)
        have d10_0_0_0' : anyF X ?ops10_0_0 [0, 1, 2] [(3, 25, .pl (.one (.v (.sc (.bool x25))))), (4, 26, .pl (.one (.v (.sc (.bool (!x25))))))] ?P10_0_0 { N := 27, np := 4, nx := 6, sl := [(22, .pl (.agg [.v (.sc (.int .i64 x16.Kind)), .v (.sc (.int .i64 x16.Code)), .v (.sc (.int .i64 x16.Number)), .ref 4 [(0, 0, 3)]])), (24, .pl (.agg [.v (.sc (.int .i64 x24.Kind)), .v (.sc (.int .i64 x24.Code)), .v (.sc (.int .i64 x24.Number)), .ref 5 []]))], ob := [(4, .box true [.sc (.int .i64 x16.Kind), .sc (.int .i64 x16.Code), .sc (.int .i64 x16.Number), .list true 1 (List.map rS x16.Lines)]), (5, .list true 1 (List.map rS x24.Lines))] } := by
          refine fend (e2 := { N := 27, np := 4, nx := 6, sl := [(25, .pl (.one (.v (.sc (.bool x25))))), (26, .pl (.one (.v (.sc (.bool (!x25)))))), (22, .pl (.agg [.v (.sc (.int .i64 x16.Kind)), .v (.sc (.int .i64 x16.Code)), .v (.sc (.int .i64 x16.Number)), .ref 4 [(0, 0, 3)]])), (24, .pl (.agg [.v (.sc (.int .i64 x24.Kind)), .v (.sc (.int .i64 x24.Code)), .v (.sc (.int .i64 x24.Number)), .ref 5 []]))], ob := [(4, .box true [.sc (.int .i64 x16.Kind), .sc (.int .i64 x16.Code), .sc (.int .i64 x16.Number), .list true 1 (List.map rS x16.Lines)]), (5, .list true 1 (List.map rS x24.Lines))] }) [3, 4] [.q 3 25 (.pl (.one (.v (.sc (.bool x25))))) [], .q 4 26 (.pl (.one (.v (.sc (.bool (!x25)))))) [3]] [(3, 25), (4, 26)] [(3, true, [], []), (4, true, [3], [])] ⟨?_, ?_, trivial⟩ ⟨rfl, shd [26] [] 4 rfl⟩
          · refine obQ 0 ?_
            refine callG H' (fun _ => []) (W_laws_eqTold _ _ _ hy_x25) ?_
            refine opsV_nil ⟨rfl, shd [25, 22, 24] [(4, 4), (5, 5)] 6 rfl⟩
          · refine obQ 1 ?_
            refine ops H' ?_
            refine opsV_nil ⟨rfl, shd [26, 22, 24] [(4, 4), (5, 5)] 6 rfl⟩
        have d10_0_0_1' : anyF X ?ops10_0_0 [0] [(1, 23, .pl (.agg [.v (.sc (.int .i64 aT.Kind)), .v (.sc (.int .i64 aT.Code)), .v (.sc (.int .i64 aT.Number)), .v (.list false 1 (List.map rS aT.Lines))])), (3, 25, .pl (.one (.v (.sc (.bool x25))))), (4, 26, .pl (.one (.v (.sc (.bool (!x25))))))] ?P10_0_0 { N := 27, np := 4, nx := 6, sl := [(1, .pl (.one (.ref 4 []))), (22, .pl (.agg [.v (.sc (.int .i64 x16.Kind)), .v (.sc (.int .i64 x16.Code)), .v (.sc (.int .i64 x16.Number)), .ref 5 [(0, 0, 3)]]))], ob := [(4, .box true [.sc (.int .i64 aT.Kind), .sc (.int .i64 aT.Code), .sc (.int .i64 aT.Number), .list false 1 (List.map rS aT.Lines)]), (5, .box true [.sc (.int .i64 x16.Kind), .sc (.int .i64 x16.Code), .sc (.int .i64 x16.Number), .list true 1 (List.map rS x16.Lines)])] } := by
          refine fnode [1] [.q 1 23 (.pl (.agg [.v (.sc (.int .i64 aT.Kind)), .v (.sc (.int .i64 aT.Code)), .v (.sc (.int .i64 aT.Number)), .v (.list false 1 (List.map rS aT.Lines))])) [], .m 2 [1] [0, 1, 2] [(3, 25, .pl (.one (.v (.sc (.bool x25))))), (4, 26, .pl (.one (.v (.sc (.bool (!x25))))))]] [(1, 23), (3, 25), (4, 26)] [(1, true, [], []), (2, false, [1], [0, 1, 2])] ⟨?_, ?_, trivial⟩
          · refine obQ 0 ?_
            refine ops H' ?_
            refine opsV_nil ⟨rfl, shd [23, 1, 22] [(4, 4), (5, 5)] 6 rfl⟩
          · refine obM ?_
            refine callG H' (fun _ => []) (W_laws_toTold _ _ hy_x24) ?_
            refine opsV_nil ⟨rfl, .inl ⟨rfl, ?_⟩⟩
            exact anyFShd [22, 24] [(5, 4), (9, 5)] 6 d10_0_0_0'
        have d10_0_0_2' : anyF X ?ops10_0_0 [1, 2] [(3, 25, .pl (.one (.v (.sc (.bool x25))))), (4, 26, .pl (.one (.v (.sc (.bool (!x25))))))] ?P10_0_0 { N := 27, np := 4, nx := 6, sl := [(5, .pl (.one (.ref 4 []))), (24, .pl (.agg [.v (.sc (.int .i64 x24.Kind)), .v (.sc (.int .i64 x24.Code)), .v (.sc (.int .i64 x24.Number)), .ref 5 []]))], ob := [(4, .box true [.sc (.int .i64 x16.Kind), .sc (.int .i64 x16.Code), .sc (.int .i64 x16.Number), .list true 1 (List.map rS x16.Lines)]), (5, .list true 1 (List.map rS x24.Lines))] } := by
          refine fnode [] [.m 0 [] [0, 1, 2] [(3, 25, .pl (.one (.v (.sc (.bool x25))))), (4, 26, .pl (.one (.v (.sc (.bool (!x25))))))]] [(3, 25), (4, 26)] [(0, false, [], [0, 1, 2])] ⟨?_, trivial⟩
          · refine obM ?_
            refine ops H' ?_
            refine opsV_nil ⟨rfl, .inl ⟨rfl, ?_⟩⟩
            exact anyFShd [22, 24] [(4, 4), (5, 5)] 6 d10_0_0_0'
        have d10_0_0_3' : anyF X ?ops10_0_0 [] [(1, 23, .pl (.agg [.v (.sc (.int .i64 aT.Kind)), .v (.sc (.int .i64 aT.Code)), .v (.sc (.int .i64 aT.Number)), .v (.list false 1 (List.map rS aT.Lines))])), (3, 25, .pl (.one (.v (.sc (.bool x25))))), (4, 26, .pl (.one (.v (.sc (.bool (!x25))))))] ?P10_0_0 { N := 27, np := 4, nx := 6, sl := [(1, .pl (.one (.ref 4 []))), (5, .pl (.one (.ref 5 [])))], ob := [(4, .box true [.sc (.int .i64 aT.Kind), .sc (.int .i64 aT.Code), .sc (.int .i64 aT.Number), .list false 1 (List.map rS aT.Lines)]), (5, .box true [.sc (.int .i64 x16.Kind), .sc (.int .i64 x16.Code), .sc (.int .i64 x16.Number), .list true 1 (List.map rS x16.Lines)])] } := by
          refine fnode [1] [.q 1 23 (.pl (.agg [.v (.sc (.int .i64 aT.Kind)), .v (.sc (.int .i64 aT.Code)), .v (.sc (.int .i64 aT.Number)), .v (.list false 1 (List.map rS aT.Lines))])) [], .m 0 [] [0] [(1, 23, .pl (.agg [.v (.sc (.int .i64 aT.Kind)), .v (.sc (.int .i64 aT.Code)), .v (.sc (.int .i64 aT.Number)), .v (.list false 1 (List.map rS aT.Lines))])), (3, 25, .pl (.one (.v (.sc (.bool x25))))), (4, 26, .pl (.one (.v (.sc (.bool (!x25))))))], .m 2 [1] [1, 2] [(3, 25, .pl (.one (.v (.sc (.bool x25))))), (4, 26, .pl (.one (.v (.sc (.bool (!x25))))))]] [(1, 23), (3, 25), (4, 26)] [(1, true, [], []), (0, false, [], [0]), (2, false, [1], [1, 2])] ⟨?_, ?_, ?_, trivial⟩
          · refine obQ 0 ?_
            refine ops H' ?_
            refine opsV_nil ⟨rfl, shd [23, 1, 5] [(4, 4), (5, 5)] 6 rfl⟩
          · refine obM ?_
            refine ops H' ?_
            refine opsV_nil ⟨rfl, .inl ⟨rfl, ?_⟩⟩
            exact anyFShd [1, 22] [(4, 4), (5, 5)] 6 d10_0_0_1'
          · refine obM ?_
            refine callG H' (fun _ => []) (W_laws_toTold _ _ hy_x24) ?_
            refine opsV_nil ⟨rfl, .inl ⟨rfl, ?_⟩⟩
            exact anyFShd [5, 24] [(5, 4), (9, 5)] 6 d10_0_0_2'
        exact anyFShd [1, 5] [(4, 4), (15, 5)] 6 d10_0_0_3'
      · rintro e' rfl
        refine contN ?_
        refine wpV_split (fun hc' => ?_) (fun hc' => ?_)
        · replace h0' := (ifT hc').symm.trans h0'
          refine wpV_seq1 ?_
          refine wpV_region ?_
          refine ops H' ?_
          refine opsN ?_
          refine retN ?_
          obtain rfl := Option.some.inj h0'
          exact outG H' rfl rfl
        · replace h0' := (ifF hc').symm.trans h0'
          refine skipN ?_
          refine wpV_seq1 ?_
          refine wpV_region ?_
          refine ops H' ?_
          refine opsN ?_
          refine retN ?_
          obtain rfl := Option.some.inj h0'
          exact outG H' rfl rfl
end Go.TV.KFnExactShowTold
