/- Walks. -/
import Derived.Test.YthfhiepgdeghpaaDoorKFnIntentsE
set_option linter.unusedVariables false
set_option linter.unusedSimpArgs false
set_option maxHeartbeats 8000000
set_option maxRecDepth 100000
namespace Go.TV.KFnIntents
attribute [local irreducible] anyV wpV opsV Does thenV blockV RetL quV seqV
open Go.Proofs.Tryd Go.TV.F
theorem W_laws_big (code : List Int) (r' : Bool) (h0' : laws_big code = some r') : Fn X 16 [.one (.list false 1 (List.map (rK .u8) code))] [.one (.sc (.bool r'))] [] := by
  have H' := And.intro t3 (And.intro t36 (R_u8))
  unfold laws_big at h0'
  refine Fn.start (fn := f16) (N := 6) (res := [.tmp 2]) rfl rfl rfl rfl rfl (by simp) ?_
  refine enterG H' ?_
  refine wpV_seq1 ?_
  refine wpV_region ?_
  refine ops H' ?_
  refine opsN ?_
  refine wpV_seq1 ?_
  refine wpV_region ?_
  refine ops H' ?_
  refine opsN ?_
  refine retN ?_
  obtain rfl := Option.some.inj h0'
  exact outG H' rfl rfl
theorem W_spec_l01New (code : List Int) (r' : T_spec_l01Cur) (h0' : spec_l01New code = some r') : Fn X 42 [.one (.list false 1 (List.map (rK .u8) code))] [.one (.box true [.list false 1 (List.map (rK .u8) r'.b), .sc (.int .i64 r'.i), .sc (.int .i64 r'.h)])] [] := by
  have H' := And.intro t3 (And.intro t5 (And.intro t36 (And.intro t87 (R_u8))))
  unfold spec_l01New at h0'
  refine Fn.start (fn := f42) (N := 32) (res := [.tmp 2]) rfl rfl rfl rfl rfl (by simp) ?_
  refine enterG H' ?_
  refine wpV_seq1 ?_
  refine wpV_region ?_
  refine ops H' ?_
  refine opsN ?_
  refine wpV_seq1 ?_
  refine wpV_region ?_
  refine ops H' ?_
  refine opsN ?_
  refine wpV_seqJ (fun e' => ∃ h, spec_l01New_j1 code h = some r' ∧ e' = { N := 32, np := 1, nx := 1, sl := [(0, .pl (.one (.v (.list false 1 (List.map (rK .u8) code))))), (3, .pl (.one (.v (.sc (.int .i64 h)))))], ob := [] }) ?_ ?_
  · refine wpV_seq1 ?_
    refine wpV_region ?_
    refine ops H' ?_
    refine opsN ?_
    obtain ⟨p, hl', h0'⟩ := Option.bind_eq_some_iff.1 h0'
    refine wpV_block ?_
    refine wpV_loopM (fun s' e' => ∃ h_1 i, s' = (h_1, i) ∧ e' = { N := 32, np := 1, nx := 1, sl := [(0, .pl (.one (.v (.list false 1 (List.map (rK .u8) code))))), (3, .pl (.one (.v (.sc (.int .i64 h_1))))), (4, .pl (.one (.v (.sc (.int .i64 i)))))], ob := [] }) hl' (shd [0, 3, 4] [] 1 ⟨_, _, rfl, rfl⟩) ?_
    rintro s' y1' e' h1' ⟨h_1, i, rfl, rfl⟩
    replace h1' : spec_l01New_l1 code h_1 i = some y1' := h1'
    unfold spec_l01New_l1 at h1'
    refine wpV_seq1 ?_
    refine wpV_seq1 ?_
    refine wpV_region ?_
    refine ops H' ?_
    obtain ⟨b, gh1', h1'⟩ := Option.bind_eq_some_iff.1 h1'
    refine opsV_cut 3 (fun e' => e' = { N := 32, np := 1, nx := 1, sl := [(0, .pl (.one (.v (.list false 1 (List.map (rK .u8) code))))), (3, .pl (.one (.v (.sc (.int .i64 h_1))))), (4, .pl (.one (.v (.sc (.int .i64 i))))), (15, .pl (.one (.v (.sc (.bool b)))))], ob := [] }) ?_ ?_
    · simp only [List.take_succ_cons, List.take_zero]
      refine opsV_sp (fun hc' => ?_) (fun hc' => ?_)
      · replace gh1' := (ifT hc').symm.trans gh1'
        refine ops H' ?_
        obtain rfl := Option.some.inj gh1'
        refine opsV_nil ?_
        exact ⟨rfl, shd [0, 3, 4, 15] [] 1 rfl⟩
      · replace gh1' := (ifF hc').symm.trans gh1'
        refine ops H' ?_
        obtain rfl := Option.some.inj gh1'
        refine opsV_nil ?_
        exact ⟨rfl, shd [0, 3, 4, 15] [] 1 rfl⟩
    · rintro e' rfl
      simp only [List.drop_succ_cons, List.drop_zero]
      refine opsN ?_
      refine wpV_split (fun hc' => ?_) (fun hc' => ?_)
      · replace h1' := (ifT hc').symm.trans h1'
        refine skipN ?_
        refine wpV_seq1 ?_
        refine wpV_block ?_
        refine wpV_region ?_
        obtain ⟨x, hv', h1'⟩ := Option.bind_eq_some_iff.1 h1'
        have H' := And.intro (geti_f hv') H'
        refine ops H' ?_
        refine opsN ?_
        refine wpV_region ?_
        refine ops H' ?_
        refine opsN ?_
        obtain rfl := Option.some.inj h1'
        exact shd [0, 3, 4] [] 1 ⟨_, rfl, _, _, rfl, rfl⟩
      · replace h1' := (ifF hc').symm.trans h1'
        refine exitN ?_
        obtain rfl := Option.some.inj h1'
        refine ⟨_, rfl, fun hr' => ?_⟩
        subst hr'
        exact shd [0, 3] [] 1 ⟨_, h0', rfl⟩
  · rintro e' ⟨h, h0', rfl⟩
    unfold spec_l01New_j1 at h0'
    refine wpV_seq1 ?_
    refine wpV_region ?_
    refine ops H' ?_
    refine opsN ?_
    refine retN ?_
    obtain rfl := Option.some.inj h0'
    exact outG H' rfl rfl
theorem W_spec_l01In (x : Int) (least : Int) (most : Int) (r' : Bool) (h0' : spec_l01In x least most = some r') : Fn X 23 [.one (.sc (.int .i64 x)), .one (.sc (.int .i64 least)), .one (.sc (.int .i64 most))] [.one (.sc (.bool r'))] [] := by
  have H' := t3
  unfold spec_l01In at h0'
  refine Fn.start (fn := f23) (N := 15) (res := [.tmp 6]) rfl rfl rfl rfl rfl (by simp) ?_
  refine enterG H' ?_
  refine wpV_seq1 ?_
  refine wpV_region ?_
  refine ops H' ?_
  refine opsN ?_
  refine wpV_seq1 ?_
  refine wpV_region ?_
  refine ops H' ?_
  obtain ⟨b, gh0', h0'⟩ := Option.bind_eq_some_iff.1 h0'
  refine opsV_cut 4 (fun e' => e' = { N := 15, np := 3, nx := 3, sl := [(14, .pl (.one (.v (.sc (.bool b)))))], ob := [] }) ?_ ?_
  · simp only [List.take_succ_cons, List.take_zero]
    refine opsV_sp (fun hc' => ?_) (fun hc' => ?_)
    · replace gh0' := (ifT hc').symm.trans gh0'
      refine ops H' ?_
      obtain rfl := Option.some.inj gh0'
      refine opsV_nil ?_
      exact ⟨rfl, shd [14] [] 3 rfl⟩
    · replace gh0' := (ifF hc').symm.trans gh0'
      refine ops H' ?_
      obtain rfl := Option.some.inj gh0'
      refine opsV_nil ?_
      exact ⟨rfl, shd [14] [] 3 rfl⟩
  · rintro e' rfl
    simp only [List.drop_succ_cons, List.drop_zero]
    refine ops H' ?_
    refine opsN ?_
    refine retN ?_
    obtain rfl := Option.some.inj h0'
    exact outG H' rfl rfl
theorem W_spec_l01Figure (x : Int) (r' : Int) (h0' : spec_l01Figure x = some r') : Fn X 52 [.one (.sc (.int .i64 x))] [.one (.sc (.int .u8 r'))] [] := by
  have H' := And.intro t3 (t5)
  unfold spec_l01Figure at h0'
  refine Fn.start (fn := f52) (N := 12) (res := [.tmp 2]) rfl rfl rfl rfl rfl (by simp) ?_
  refine enterG H' ?_
  refine wpV_seq1 ?_
  refine wpV_region ?_
  refine ops H' ?_
  refine opsN ?_
  refine wpV_seq1 ?_
  refine wpV_seq1 ?_
  refine wpV_region ?_
  refine ops H' ?_
  refine opsN ?_
  refine wpV_split (fun hc' => ?_) (fun hc' => ?_)
  · replace h0' := (ifT hc').symm.trans h0'
    refine wpV_seq1 ?_
    refine wpV_region ?_
    refine ops H' ?_
    refine opsN ?_
    refine retN ?_
    obtain rfl := Option.some.inj h0'
    exact outG H' rfl rfl
  · replace h0' := (ifF hc').symm.trans h0'
    refine skipN ?_
    refine wpV_seq1 ?_
    refine wpV_region ?_
    refine ops H' ?_
    refine opsN ?_
    refine retN ?_
    obtain rfl := Option.some.inj h0'
    exact outG H' rfl rfl
theorem W_spec_Decimal (n : Int) (r' : ByteArray) (h0' : spec_Decimal n = some r') : Fn X 24 [.one (.sc (.int .i64 n))] [.one (.sc (.string r'))] [] := by
  have H' := And.intro t3 (And.intro t5 (And.intro t9 (t36)))
  unfold spec_Decimal at h0'
  refine Fn.start (fn := f24) (N := 30) (res := [.tmp 2]) rfl rfl rfl rfl rfl (by simp) ?_
  refine enterG H' ?_
  refine wpV_seq1 ?_
  refine wpV_region ?_
  refine ops H' ?_
  refine opsN ?_
  refine wpV_seq1 ?_
  refine wpV_seq1 ?_
  refine wpV_region ?_
  refine ops H' ?_
  refine opsN ?_
  refine wpV_split (fun hc' => ?_) (fun hc' => ?_)
  · replace h0' := (ifT hc').symm.trans h0'
    refine wpV_seq1 ?_
    refine wpV_region ?_
    refine ops H' ?_
    refine opsN ?_
    refine retN ?_
    obtain rfl := Option.some.inj h0'
    exact outG H' rfl rfl
  · replace h0' := (ifF hc').symm.trans h0'
    refine skipN ?_
    refine wpV_seq1 ?_
    refine wpV_region ?_
    refine ops H' ?_
    refine opsN ?_
    refine wpV_seq1 ?_
    refine wpV_region ?_
    refine ops H' ?_
    refine opsN ?_
    refine wpV_seqJ (fun e' => ∃ s, spec_Decimal_j1 n s = some r' ∧ e' = { N := 30, np := 1, nx := 1, sl := [(3, .pl (.one (.v (.sc (.bool (decide (n < 0))))))), (4, .pl (.one (.v (.sc (.string s)))))], ob := [] }) ?_ ?_
    · obtain ⟨p, hl', h0'⟩ := Option.bind_eq_some_iff.1 h0'
      refine wpV_block ?_
      refine wpV_loopM (fun s' e' => ∃ n_1 s_1, s' = (n_1, s_1) ∧ e' = { N := 30, np := 1, nx := 1, sl := [(0, .pl (.one (.v (.sc (.int .i64 n_1))))), (3, .pl (.one (.v (.sc (.bool (decide (n < 0))))))), (4, .pl (.one (.v (.sc (.string s_1)))))], ob := [] }) hl' (shd [0, 3, 4] [] 1 ⟨_, _, rfl, rfl⟩) ?_
      rintro s' y1' e' h1' ⟨n_1, s_1, rfl, rfl⟩
      replace h1' : spec_Decimal_l1 n_1 s_1 = some y1' := h1'
      unfold spec_Decimal_l1 at h1'
      refine wpV_seq1 ?_
      refine wpV_seq1 ?_
      refine wpV_region ?_
      refine ops H' ?_
      refine opsN ?_
      refine wpV_split (fun hc' => ?_) (fun hc' => ?_)
      · replace h1' := (ifT hc').symm.trans h1'
        refine skipN ?_
        refine wpV_block ?_
        refine wpV_seq1 ?_
        refine wpV_region ?_
        refine ops H' ?_
        refine opsN ?_
        refine wpV_seqJ (fun e' => ∃ d, spec_Decimal_j2 n_1 s_1 d = some y1' ∧ e' = { N := 30, np := 1, nx := 1, sl := [(0, .pl (.one (.v (.sc (.int .i64 n_1))))), (3, .pl (.one (.v (.sc (.bool (decide (n < 0))))))), (4, .pl (.one (.v (.sc (.string s_1))))), (5, .pl (.one (.v (.sc (.int .i64 d)))))], ob := [] }) ?_ ?_
        · refine wpV_seq1 ?_
          refine wpV_region ?_
          refine ops H' ?_
          refine opsN ?_
          refine wpV_split (fun hc' => ?_) (fun hc' => ?_)
          · replace h1' := (ifT hc').symm.trans h1'
            refine wpV_region ?_
            refine ops H' ?_
            refine opsN ?_
            exact shd [0, 3, 4, 5] [] 1 ⟨_, h1', rfl⟩
          · replace h1' := (ifF hc').symm.trans h1'
            refine skipN ?_
            exact shd [0, 3, 4, 5] [] 1 ⟨_, h1', rfl⟩
        · rintro e' ⟨d, h1', rfl⟩
          unfold spec_Decimal_j2 at h1'
          refine wpV_seq1 ?_
          refine wpV_region ?_
          refine ops H' ?_
          obtain ⟨x19, hy', h1'⟩ := Option.bind_eq_some_iff.1 h1'
          refine callG H' (fun _ => []) (W_spec_l01Figure _ _ hy') ?_
          have H' := And.intro (show bytesOf [[V.sc (.int .u8 x19)]] = some [x19] from bytesOf_rK [x19]) H'
          obtain ⟨t_1, hv', h1'⟩ := Option.bind_eq_some_iff.1 h1'
          have H' := And.intro (sapp_f hv') H'
          refine ops H' ?_
          refine opsN ?_
          refine wpV_region ?_
          refine ops H' ?_
          refine opsN ?_
          obtain rfl := Option.some.inj h1'
          exact shd [0, 3, 4] [] 1 ⟨_, rfl, _, _, rfl, rfl⟩
      · replace h1' := (ifF hc').symm.trans h1'
        refine exitN ?_
        obtain rfl := Option.some.inj h1'
        refine ⟨_, rfl, fun hr' => ?_⟩
        subst hr'
        exact shd [3, 4] [] 1 ⟨_, h0', rfl⟩
    · rintro e' ⟨s, h0', rfl⟩
      unfold spec_Decimal_j1 at h0'
      refine wpV_seq1 ?_
      refine wpV_seq1 ?_
      refine wpV_region ?_
      refine ops H' ?_
      refine opsN ?_
      refine wpV_split (fun hc' => ?_) (fun hc' => ?_)
      · replace h0' := (ifT hc').symm.trans h0'
        refine wpV_seq1 ?_
        refine wpV_region ?_
        obtain ⟨t, hv', h0'⟩ := Option.bind_eq_some_iff.1 h0'
        have H' := And.intro (sapp_f hv') H'
        refine ops H' ?_
        refine opsN ?_
        refine retN ?_
        obtain rfl := Option.some.inj h0'
        exact outG H' rfl rfl
      · replace h0' := (ifF hc').symm.trans h0'
        refine skipN ?_
        refine wpV_seq1 ?_
        refine wpV_region ?_
        refine ops H' ?_
        refine opsN ?_
        refine retN ?_
        obtain rfl := Option.some.inj h0'
        exact outG H' rfl rfl
theorem W_spec_FileName (id : Int) (r' : ByteArray) (h0' : spec_FileName id = some r') : Fn X 63 [.one (.sc (.int .i64 id))] [.one (.sc (.string r'))] [] := by
  have H' := t9
  unfold spec_FileName at h0'
  refine Fn.start (fn := f63) (N := 9) (res := [.tmp 2]) rfl rfl rfl rfl rfl (by simp) ?_
  refine enterG H' ?_
  refine wpV_seq1 ?_
  refine wpV_region ?_
  refine ops H' ?_
  refine opsN ?_
  refine wpV_seq1 ?_
  refine wpV_seq1 ?_
  refine wpV_region ?_
  refine ops H' ?_
  obtain ⟨x4, hy', h0'⟩ := Option.bind_eq_some_iff.1 h0'
  refine callG H' (fun _ => []) (W_spec_l01In _ _ _ _ hy') ?_
  refine ops H' ?_
  refine opsN ?_
  refine wpV_split (fun hc' => ?_) (fun hc' => ?_)
  · replace h0' := (ifT hc').symm.trans h0'
    refine wpV_seq1 ?_
    refine wpV_region ?_
    refine ops H' ?_
    refine opsN ?_
    refine retN ?_
    obtain rfl := Option.some.inj h0'
    exact outG H' rfl rfl
  · replace h0' := (ifF hc').symm.trans h0'
    refine skipN ?_
    refine wpV_seq1 ?_
    refine wpV_region ?_
    refine ops H' ?_
    obtain ⟨x7, hy', h0'⟩ := Option.bind_eq_some_iff.1 h0'
    refine callG H' (fun _ => []) (W_spec_Decimal _ _ hy') ?_
    obtain ⟨t, hv', h0'⟩ := Option.bind_eq_some_iff.1 h0'
    have H' := And.intro (sapp_f hv') H'
    refine ops H' ?_
    refine opsN ?_
    refine retN ?_
    obtain rfl := Option.some.inj h0'
    exact outG H' rfl rfl
theorem W_spec_l01Byte (c : T_spec_l01Cur) (r' : Int × T_spec_l01Cur) (h0' : spec_l01Byte c = some r') : Fn X 50 [.one (.box true [.list false 1 (List.map (rK .u8) c.b), .sc (.int .i64 c.i), .sc (.int .i64 c.h)])] [.one (.sc (.int .i64 r'.1))] [(0, .box true [.list false 1 (List.map (rK .u8) r'.2.b), .sc (.int .i64 r'.2.i), .sc (.int .i64 r'.2.h)])] := by
  have H' := And.intro t3 (And.intro t5 (And.intro t36 (And.intro t87 (R_u8))))
  unfold spec_l01Byte at h0'
  refine Fn.start (fn := f50) (N := 58) (res := [.tmp 2]) rfl rfl rfl rfl rfl (by simp) ?_
  refine enterG H' ?_
  refine wpV_seq1 ?_
  refine wpV_region ?_
  refine ops H' ?_
  refine opsN ?_
  refine wpV_seq1 ?_
  refine wpV_region ?_
  refine ops H' ?_
  refine opsN ?_
  refine wpV_seq1 ?_
  refine regQ ?_
  refine ops H' ?_
  refine quN ?_
  refine wpV_seq1 ?_
  refine wpV_seq1 ?_
  refine regQ ?_
  refine ops H' ?_
  refine quN ?_
  refine wpV_split (fun hc' => ?_) (fun hc' => ?_)
  · replace h0' := (ifT hc').symm.trans h0'
    refine wpV_seq1 ?_
    refine regQ ?_
    obtain ⟨x, hv', h0'⟩ := Option.bind_eq_some_iff.1 h0'
    have H' := And.intro (geti_f hv') H'
    refine ops H' ?_
    refine quN ?_
    refine wpV_region ?_
    refine ops H' ?_
    refine opsN ?_
    refine wpV_seq1 ?_
    refine wpV_region ?_
    refine ops H' ?_
    refine opsN ?_
    refine retN ?_
    obtain rfl := Option.some.inj h0'
    exact outG H' rfl rfl
  · replace h0' := (ifF hc').symm.trans h0'
    refine skipN ?_
    refine wpV_seq1 ?_
    refine wpV_region ?_
    refine ops H' ?_
    refine opsN ?_
    refine retN ?_
    obtain rfl := Option.some.inj h0'
    exact outG H' rfl rfl
theorem W_spec_l01Below (c : T_spec_l01Cur) (n : Int) (r' : Int × T_spec_l01Cur) (h0' : spec_l01Below c n = some r') : Fn X 51 [.one (.box true [.list false 1 (List.map (rK .u8) c.b), .sc (.int .i64 c.i), .sc (.int .i64 c.h)]), .one (.sc (.int .i64 n))] [.one (.sc (.int .i64 r'.1))] [(0, .box true [.list false 1 (List.map (rK .u8) r'.2.b), .sc (.int .i64 r'.2.i), .sc (.int .i64 r'.2.h)])] := by
  have H' := And.intro t3 (R_u8)
  unfold spec_l01Below at h0'
  refine Fn.start (fn := f51) (N := 37) (res := [.tmp 4]) rfl rfl rfl rfl rfl (by simp) ?_
  refine enterG H' ?_
  refine wpV_seq1 ?_
  refine wpV_region ?_
  refine ops H' ?_
  refine opsN ?_
  refine wpV_seq1 ?_
  refine wpV_seq1 ?_
  refine wpV_region ?_
  refine ops H' ?_
  refine opsN ?_
  refine wpV_split (fun hc' => ?_) (fun hc' => ?_)
  · replace h0' := (ifT hc').symm.trans h0'
    refine wpV_seq1 ?_
    refine wpV_region ?_
    refine ops H' ?_
    refine opsN ?_
    refine retN ?_
    obtain rfl := Option.some.inj h0'
    exact outG H' rfl rfl
  · replace h0' := (ifF hc').symm.trans h0'
    refine skipN ?_
    refine wpV_seq1 ?_
    refine wpV_seq1 ?_
    refine wpV_region ?_
    refine ops H' ?_
    refine opsN ?_
    refine wpV_split (fun hc' => ?_) (fun hc' => ?_)
    · replace h0' := (ifT hc').symm.trans h0'
      refine wpV_seq1 ?_
      refine wpV_region ?_
      refine ops H' ?_
      obtain ⟨x14, hy', h0'⟩ := Option.bind_eq_some_iff.1 h0'
      refine callGD H' (fun _ => [0]) (W_spec_l01Byte _ _ hy') ?_
      obtain ⟨u, hv', h0'⟩ := Option.bind_eq_some_iff.1 h0'
      have H' := And.intro (chkF hv') H'
      refine ops H' ?_
      refine opsN ?_
      refine retN ?_
      obtain rfl := Option.some.inj h0'
      exact outG H' rfl rfl
    · replace h0' := (ifF hc').symm.trans h0'
      refine skipN ?_
      refine wpV_seq1 ?_
      refine wpV_region ?_
      refine ops H' ?_
      obtain ⟨x18, hy', h0'⟩ := Option.bind_eq_some_iff.1 h0'
      refine callGD H' (fun _ => [0]) (W_spec_l01Byte _ _ hy') ?_
      refine ops H' ?_
      refine opsN ?_
      refine wpV_seq1 ?_
      refine wpV_region ?_
      refine ops H' ?_
      obtain ⟨x20, hy', h0'⟩ := Option.bind_eq_some_iff.1 h0'
      refine callGD H' (fun _ => [0]) (W_spec_l01Byte _ _ hy') ?_
      refine ops H' ?_
      refine opsN ?_
      refine wpV_seq1 ?_
      refine wpV_region ?_
      refine ops H' ?_
      obtain ⟨x22, hy', h0'⟩ := Option.bind_eq_some_iff.1 h0'
      refine callGD H' (fun _ => [0]) (W_spec_l01Byte _ _ hy') ?_
      refine ops H' ?_
      refine opsN ?_
      refine wpV_seq1 ?_
      refine wpV_region ?_
      refine ops H' ?_
      obtain ⟨x24, hy', h0'⟩ := Option.bind_eq_some_iff.1 h0'
      refine callGD H' (fun _ => [0]) (W_spec_l01Byte _ _ hy') ?_
      refine ops H' ?_
      refine opsN ?_
      refine wpV_seq1 ?_
      refine wpV_region ?_
      obtain ⟨u_1, hv', h0'⟩ := Option.bind_eq_some_iff.1 h0'
      have H' := And.intro (chkF hv') H'
      refine ops H' ?_
      refine opsN ?_
      refine retN ?_
      obtain rfl := Option.some.inj h0'
      exact outG H' rfl rfl
theorem W_spec_l01Once (c : T_spec_l01Cur) (n : Int) (r' : Bool × T_spec_l01Cur) (h0' : spec_l01Once c n = some r') : Fn X 64 [.one (.box true [.list false 1 (List.map (rK .u8) c.b), .sc (.int .i64 c.i), .sc (.int .i64 c.h)]), .one (.sc (.int .i64 n))] [.one (.sc (.bool r'.1))] [(0, .box true [.list false 1 (List.map (rK .u8) r'.2.b), .sc (.int .i64 r'.2.i), .sc (.int .i64 r'.2.h)])] := by
  have H' := And.intro t3 (R_u8)
  unfold spec_l01Once at h0'
  refine Fn.start (fn := f64) (N := 9) (res := [.tmp 4]) rfl rfl rfl rfl rfl (by simp) ?_
  refine enterG H' ?_
  refine wpV_seq1 ?_
  refine wpV_region ?_
  refine ops H' ?_
  refine opsN ?_
  refine wpV_seq1 ?_
  refine wpV_region ?_
  refine ops H' ?_
  obtain ⟨x7, hy', h0'⟩ := Option.bind_eq_some_iff.1 h0'
  refine callGD H' (fun _ => [0]) (W_spec_l01Below _ _ _ hy') ?_
  refine ops H' ?_
  refine opsN ?_
  refine retN ?_
  obtain rfl := Option.some.inj h0'
  exact outG H' rfl rfl
theorem W_spec_l01Pick (c : T_spec_l01Cur) (list_ : List ByteArray) (r' : ByteArray × T_spec_l01Cur) (h0' : spec_l01Pick c list_ = some r') : Fn X 65 [.one (.box true [.list false 1 (List.map (rK .u8) c.b), .sc (.int .i64 c.i), .sc (.int .i64 c.h)]), .one (.list false 1 (List.map rS list_))] [.one (.sc (.string r'.1))] [(0, .box true [.list false 1 (List.map (rK .u8) r'.2.b), .sc (.int .i64 r'.2.i), .sc (.int .i64 r'.2.h)])] := by
  have H' := And.intro t9 (And.intro t22 (And.intro R_s (R_u8)))
  unfold spec_l01Pick at h0'
  refine Fn.start (fn := f65) (N := 12) (res := [.tmp 4]) rfl rfl rfl rfl rfl (by simp) ?_
  refine enterG H' ?_
  refine wpV_seq1 ?_
  refine wpV_region ?_
  refine ops H' ?_
  refine opsN ?_
  refine wpV_seq1 ?_
  refine wpV_region ?_
  refine ops H' ?_
  obtain ⟨x9, hy', h0'⟩ := Option.bind_eq_some_iff.1 h0'
  refine callGD H' (fun _ => [0]) (W_spec_l01Below _ _ _ hy') ?_
  obtain ⟨x, hv', h0'⟩ := Option.bind_eq_some_iff.1 h0'
  have H' := And.intro (geti_f hv') H'
  refine ops H' ?_
  refine opsN ?_
  refine retN ?_
  obtain rfl := Option.some.inj h0'
  exact outG H' rfl rfl
theorem W_spec_l18Names (c : T_spec_l01Cur) (r' : (List ByteArray) × T_spec_l01Cur) (h0' : spec_l18Names c = some r') : Fn X 41 [.one (.box true [.list false 1 (List.map (rK .u8) c.b), .sc (.int .i64 c.i), .sc (.int .i64 c.h)])] [.one (.list true 1 (List.map rS r'.1))] [(0, .box true [.list false 1 (List.map (rK .u8) r'.2.b), .sc (.int .i64 r'.2.i), .sc (.int .i64 r'.2.h)])] := by
  have H' := And.intro t3 (And.intro t9 (And.intro t22 (And.intro R_s (R_u8))))
  unfold spec_l18Names at h0'
  refine Fn.start (fn := f41) (N := 80) (res := [.tmp 2]) rfl rfl rfl rfl rfl (by simp) ?_
  refine enterG H' ?_
  refine wpV_seq1 ?_
  refine wpV_region ?_
  refine ops H' ?_
  refine opsN ?_
  refine wpV_seq1 ?_
  refine wpV_region ?_
  refine ops H' ?_
  refine opsN ?_
  refine wpV_seqJ (fun e' => ∃ c_1 c_2 c_3 out_, spec_l18Names_j1 c_1 c_2 c_3 out_ = some r' ∧ e' = { N := 80, np := 1, nx := 2, sl := [(0, .pl (.one (.ref 0 []))), (3, .pl (.one (.ref 1 [])))], ob := [(0, .box true [.list false 1 (List.map (rK .u8) c_1), .sc (.int .i64 c_2), .sc (.int .i64 c_3)]), (1, .list true 1 (List.map rS out_))] }) ?_ ?_
  · refine wpV_seq1 ?_
    refine wpV_region ?_
    refine ops H' ?_
    refine opsN ?_
    obtain ⟨p_2, hl', h0'⟩ := Option.bind_eq_some_iff.1 h0'
    refine wpV_block ?_
    refine wpV_loopM (fun s' e' => ∃ i_1 c_4 c_5 c_6 out__5, s' = (i_1, c_4, c_5, c_6, out__5) ∧ e' = { N := 80, np := 1, nx := 2, sl := [(0, .pl (.one (.ref 0 []))), (3, .pl (.one (.ref 1 []))), (4, .pl (.one (.v (.sc (.int .i64 i_1)))))], ob := [(0, .box true [.list false 1 (List.map (rK .u8) c_4), .sc (.int .i64 c_5), .sc (.int .i64 c_6)]), (1, .list true 1 (List.map rS out__5))] }) hl' (shd [0, 3, 4] [(0, 0), (2, 1)] 2 ⟨_, _, _, _, _, rfl, rfl⟩) ?_
    rintro s' y1' e' h1' ⟨i_1, c_4, c_5, c_6, out__5, rfl, rfl⟩
    replace h1' : spec_l18Names_l3 i_1 c_4 c_5 c_6 out__5 = some y1' := h1'
    unfold spec_l18Names_l3 at h1'
    refine wpV_seq1 ?_
    refine wpV_seq1 ?_
    refine wpV_region ?_
    refine ops H' ?_
    refine opsN ?_
    refine wpV_split (fun hc' => ?_) (fun hc' => ?_)
    · replace h1' := (ifT hc').symm.trans h1'
      refine skipN ?_
      refine wpV_seq1 ?_
      refine wpV_block ?_
      refine wpV_seq1 ?_
      refine wpV_region ?_
      refine ops H' ?_
      refine opsN ?_
      refine wpV_seqJ (fun e' => ∃ name, spec_l18Names_j4 i_1 c_4 c_5 c_6 out__5 name = some y1' ∧ e' = { N := 80, np := 1, nx := 2, sl := [(0, .pl (.one (.ref 0 []))), (3, .pl (.one (.ref 1 []))), (4, .pl (.one (.v (.sc (.int .i64 i_1))))), (5, .pl (.one (.v (.sc (.string name)))))], ob := [(0, .box true [.list false 1 (List.map (rK .u8) c_4), .sc (.int .i64 c_5), .sc (.int .i64 c_6)]), (1, .list true 1 (List.map rS out__5))] }) ?_ ?_
      · refine wpV_seq1 ?_
        refine wpV_region ?_
        refine ops H' ?_
        refine opsN ?_
        refine wpV_split (fun hc' => ?_) (fun hc' => ?_)
        · replace h1' := (ifT hc').symm.trans h1'
          refine wpV_region ?_
          refine ops H' ?_
          obtain ⟨x17, hy', h1'⟩ := Option.bind_eq_some_iff.1 h1'
          refine callG H' (fun _ => []) (W_spec_FileName _ _ hy') ?_
          refine ops H' ?_
          refine opsN ?_
          exact shd [0, 3, 4, 5] [(0, 0), (1, 1)] 2 ⟨_, h1', rfl⟩
        · replace h1' := (ifF hc').symm.trans h1'
          refine skipN ?_
          exact shd [0, 3, 4, 5] [(0, 0), (1, 1)] 2 ⟨_, h1', rfl⟩
      · rintro e' ⟨name, h1', rfl⟩
        unfold spec_l18Names_j4 at h1'
        refine wpV_seq1 ?_
        refine wpV_region ?_
        refine ops H' ?_
        obtain ⟨x19, hy', h1'⟩ := Option.bind_eq_some_iff.1 h1'
        refine callGD H' (fun _ => [0]) (W_spec_l01Once _ _ _ hy') ?_
        refine opsN ?_
        refine wpV_split (fun hc' => ?_) (fun hc' => ?_)
        · replace h1' := (ifT hc').symm.trans h1'
          refine wpV_region ?_
          obtain ⟨l_2, hv', h1'⟩ := Option.bind_eq_some_iff.1 h1'
          have H' := And.intro (app1_f hv') H'
          refine ops H' ?_
          refine opsN ?_
          refine wpV_region ?_
          refine ops H' ?_
          refine opsN ?_
          obtain rfl := Option.some.inj h1'
          exact shd [0, 3, 4] [(0, 0), (1, 1)] 2 ⟨_, rfl, _, _, _, _, _, rfl, rfl⟩
        · replace h1' := (ifF hc').symm.trans h1'
          refine skipN ?_
          refine wpV_region ?_
          refine ops H' ?_
          refine opsN ?_
          obtain rfl := Option.some.inj h1'
          exact shd [0, 3, 4] [(0, 0), (1, 1)] 2 ⟨_, rfl, _, _, _, _, _, rfl, rfl⟩
    · replace h1' := (ifF hc').symm.trans h1'
      refine exitN ?_
      obtain rfl := Option.some.inj h1'
      refine ⟨_, rfl, fun hr' => ?_⟩
      subst hr'
      exact shd [0, 3] [(0, 0), (1, 1)] 2 ⟨_, _, _, _, h0', rfl⟩
  · rintro e' ⟨c_1, c_2, c_3, out_, h0', rfl⟩
    unfold spec_l18Names_j1 at h0'
    refine wpV_seqJ (fun e' => ∃ out__1, spec_l18Names_j2 c_1 c_2 c_3 out__1 = some r' ∧ e' = { N := 80, np := 1, nx := 2, sl := [(0, .pl (.one (.ref 0 []))), (3, .pl (.one (.ref 1 [])))], ob := [(0, .box true [.list false 1 (List.map (rK .u8) c_1), .sc (.int .i64 c_2), .sc (.int .i64 c_3)]), (1, .list true 1 (List.map rS out__1))] }) ?_ ?_
    · refine wpV_seq1 ?_
      refine wpV_region ?_
      refine ops H' ?_
      refine opsN ?_
      obtain ⟨p, hl', h0'⟩ := Option.bind_eq_some_iff.1 h0'
      refine wpV_block ?_
      refine wpV_loopM (fun s' e' => ∃ i out__2, s' = (i, out__2) ∧ e' = { N := 80, np := 1, nx := 2, sl := [(0, .pl (.one (.ref 0 []))), (3, .pl (.one (.ref 1 []))), (6, .pl (.one (.v (.sc (.int .i64 i)))))], ob := [(0, .box true [.list false 1 (List.map (rK .u8) c_1), .sc (.int .i64 c_2), .sc (.int .i64 c_3)]), (1, .list true 1 (List.map rS out__2))] }) hl' (shd [0, 3, 6] [(0, 0), (1, 1)] 2 ⟨_, _, rfl, rfl⟩) ?_
      rintro s' y1' e' h1' ⟨i, out__2, rfl, rfl⟩
      replace h1' : spec_l18Names_l1 i out__2 = some y1' := h1'
      unfold spec_l18Names_l1 at h1'
      refine wpV_seq1 ?_
      refine wpV_seq1 ?_
      refine wpV_region ?_
      refine ops H' ?_
      refine opsN ?_
      refine wpV_split (fun hc' => ?_) (fun hc' => ?_)
      · replace h1' := (ifT hc').symm.trans h1'
        refine skipN ?_
        refine wpV_seqJ (fun e' => ∃ out__3, spec_l18Names_j3 i out__3 = some y1' ∧ e' = { N := 80, np := 1, nx := 2, sl := [(0, .pl (.one (.ref 0 []))), (3, .pl (.one (.ref 1 []))), (6, .pl (.one (.v (.sc (.int .i64 i)))))], ob := [(0, .box true [.list false 1 (List.map (rK .u8) c_1), .sc (.int .i64 c_2), .sc (.int .i64 c_3)]), (1, .list true 1 (List.map rS out__3))] }) ?_ ?_
        · refine wpV_block ?_
          refine wpV_seq1 ?_
          refine wpV_region ?_
          refine ops H' ?_
          refine opsN ?_
          obtain ⟨p_1, hl', h1'⟩ := Option.bind_eq_some_iff.1 h1'
          refine wpV_block ?_
          refine wpV_loopM (fun s' e' => ∃ k out__4, s' = (k, out__4) ∧ e' = { N := 80, np := 1, nx := 2, sl := [(0, .pl (.one (.ref 0 []))), (3, .pl (.one (.ref 1 []))), (6, .pl (.one (.v (.sc (.int .i64 i))))), (7, .pl (.one (.v (.sc (.int .i64 k)))))], ob := [(0, .box true [.list false 1 (List.map (rK .u8) c_1), .sc (.int .i64 c_2), .sc (.int .i64 c_3)]), (1, .list true 1 (List.map rS out__4))] }) hl' (shd [0, 3, 6, 7] [(0, 0), (1, 1)] 2 ⟨_, _, rfl, rfl⟩) ?_
          rintro s' y2' e' h2' ⟨k, out__4, rfl, rfl⟩
          replace h2' : spec_l18Names_l2 k out__4 = some y2' := h2'
          unfold spec_l18Names_l2 at h2'
          refine wpV_seq1 ?_
          refine wpV_seq1 ?_
          refine wpV_region ?_
          refine ops H' ?_
          refine opsN ?_
          refine wpV_split (fun hc' => ?_) (fun hc' => ?_)
          · replace h2' := (ifT hc').symm.trans h2'
            refine skipN ?_
            refine wpV_seq1 ?_
            refine wpV_block ?_
            refine wpV_seq1 ?_
            refine regQ ?_
            obtain ⟨x, hv', h2'⟩ := Option.bind_eq_some_iff.1 h2'
            have H' := And.intro (geti_f hv') H'
            obtain ⟨x_1, hv', h2'⟩ := Option.bind_eq_some_iff.1 h2'
            have H' := And.intro (geti_f hv') H'
            refine ops H' ?_
            refine quN ?_
            refine wpV_split (fun hc' => ?_) (fun hc' => ?_)
            · replace h2' := (ifT hc').symm.trans h2'
              refine wpV_seq1 ?_
              refine wpV_region ?_
              refine ops H' ?_
              refine opsN ?_
              refine wpV_seq1 ?_
              refine wpV_region ?_
              refine ops H' ?_
              refine opsN ?_
              refine wpV_region ?_
              obtain ⟨x_2, hv', h2'⟩ := Option.bind_eq_some_iff.1 h2'
              have H' := And.intro (geti_f hv') H'
              refine ops H' ?_
              refine opsN ?_
              refine wpV_region ?_
              refine ops H' ?_
              refine opsN ?_
              obtain rfl := Option.some.inj h2'
              exact shd [0, 3, 6, 7] [(0, 0), (1, 1)] 2 ⟨_, rfl, _, _, rfl, rfl⟩
            · replace h2' := (ifF hc').symm.trans h2'
              refine skipN ?_
              refine wpV_region ?_
              refine ops H' ?_
              refine opsN ?_
              obtain rfl := Option.some.inj h2'
              exact shd [0, 3, 6, 7] [(0, 0), (1, 1)] 2 ⟨_, rfl, _, _, rfl, rfl⟩
          · replace h2' := (ifF hc').symm.trans h2'
            refine exitN ?_
            obtain rfl := Option.some.inj h2'
            refine ⟨_, rfl, fun hr' => ?_⟩
            subst hr'
            exact shd [0, 3, 6] [(0, 0), (1, 1)] 2 ⟨_, h1', rfl⟩
        · rintro e' ⟨out__3, h1', rfl⟩
          unfold spec_l18Names_j3 at h1'
          refine wpV_region ?_
          refine ops H' ?_
          refine opsN ?_
          obtain rfl := Option.some.inj h1'
          exact shd [0, 3, 6] [(0, 0), (1, 1)] 2 ⟨_, rfl, _, _, rfl, rfl⟩
      · replace h1' := (ifF hc').symm.trans h1'
        refine exitN ?_
        obtain rfl := Option.some.inj h1'
        refine ⟨_, rfl, fun hr' => ?_⟩
        subst hr'
        exact shd [0, 3] [(0, 0), (1, 1)] 2 ⟨_, h0', rfl⟩
    · rintro e' ⟨out__1, h0', rfl⟩
      unfold spec_l18Names_j2 at h0'
      refine wpV_seq1 ?_
      refine wpV_seq1 ?_
      refine wpV_region ?_
      refine ops H' ?_
      obtain ⟨x65, hy', h0'⟩ := Option.bind_eq_some_iff.1 h0'
      refine callGD H' (fun _ => [0]) (W_spec_l01Below _ _ _ hy') ?_
      refine opsN ?_
      refine wpV_block ?_
      refine wpV_seq1 ?_
      refine wpV_region ?_
      refine ops H' ?_
      refine opsN ?_
      refine wpV_split (fun hc' => ?_) (fun hc' => ?_)
      · replace h0' := (ifT hc').symm.trans h0'
        refine wpV_region ?_
        refine ops H' ?_
        refine opsV_frz H' 3 ?_
        obtain ⟨x71, hy', h0'⟩ := Option.bind_eq_some_iff.1 h0'
        refine callGD H' (fun _ => [0]) (W_spec_l01Pick _ _ _ hy') ?_
        obtain ⟨l, hv', h0'⟩ := Option.bind_eq_some_iff.1 h0'
        have H' := And.intro (app1_f hv') H'
        refine ops H' ?_
        refine opsN ?_
        refine wpV_seq1 ?_
        refine wpV_region ?_
        refine ops H' ?_
        refine opsN ?_
        refine retN ?_
        obtain rfl := Option.some.inj h0'
        exact outG H' rfl rfl
      · replace h0' := (ifF hc').symm.trans h0'
        refine wpV_seq1 ?_
        refine wpV_region ?_
        refine ops H' ?_
        refine opsN ?_
        refine wpV_split (fun hc' => ?_) (fun hc' => ?_)
        · replace h0' := (ifT hc').symm.trans h0'
          refine wpV_region ?_
          obtain ⟨l_1, hv', h0'⟩ := Option.bind_eq_some_iff.1 h0'
          have H' := And.intro (app1_f hv') H'
          refine ops H' ?_
          refine opsN ?_
          refine wpV_seq1 ?_
          refine wpV_region ?_
          refine ops H' ?_
          refine opsN ?_
          refine retN ?_
          obtain rfl := Option.some.inj h0'
          exact outG H' rfl rfl
        · replace h0' := (ifF hc').symm.trans h0'
          refine skipN ?_
          refine wpV_seq1 ?_
          refine wpV_region ?_
          refine ops H' ?_
          refine opsN ?_
          refine retN ?_
          obtain rfl := Option.some.inj h0'
          exact outG H' rfl rfl
theorem W_spec_DrawIntentText (code : List Int) (r' : (List ByteArray)) (h0' : spec_DrawIntentText code = some r') : Fn X 17 [.one (.list false 1 (List.map (rK .u8) code))] [.one (.list true 1 (List.map rS r'))] [] := by
  have H' := And.intro R_s (R_u8)
  unfold spec_DrawIntentText at h0'
  refine Fn.start (fn := f17) (N := 6) (res := [.tmp 2]) rfl rfl rfl rfl rfl (by simp) ?_
  refine enterG H' ?_
  refine wpV_seq1 ?_
  refine wpV_region ?_
  refine ops H' ?_
  refine opsN ?_
  refine wpV_seq1 ?_
  refine wpV_region ?_
  refine ops H' ?_
  obtain ⟨x4, hy', h0'⟩ := Option.bind_eq_some_iff.1 h0'
  refine callGD H' (fun _ => []) (W_spec_l01New _ _ hy') ?_
  obtain ⟨x5, hy', h0'⟩ := Option.bind_eq_some_iff.1 h0'
  refine callGD H' (fun _ => [0]) (W_spec_l18Names _ _ hy') ?_
  refine ops H' ?_
  refine opsN ?_
  refine retN ?_
  obtain rfl := Option.some.inj h0'
  exact outG H' rfl rfl
theorem W_spec_l01Var (n : Int) (r' : ByteArray) (h0' : spec_l01Var n = some r') : Fn X 43 [.one (.sc (.int .i64 n))] [.one (.sc (.string r'))] [] := by
  have H' := And.intro t3 (And.intro t5 (And.intro t9 (And.intro t36 (R_u8))))
  unfold spec_l01Var at h0'
  refine Fn.start (fn := f43) (N := 22) (res := [.tmp 2]) rfl rfl rfl rfl rfl (by simp) ?_
  refine enterG H' ?_
  refine wpV_seq1 ?_
  refine wpV_region ?_
  refine ops H' ?_
  refine opsN ?_
  refine wpV_seq1 ?_
  refine wpV_region ?_
  refine ops H' ?_
  refine opsN ?_
  refine wpV_seqJ (fun e' => ∃ n_1 out_, spec_l01Var_j1 n_1 out_ = some r' ∧ e' = { N := 22, np := 1, nx := 2, sl := [(0, .pl (.one (.v (.sc (.int .i64 n_1))))), (3, .pl (.one (.ref 1 [])))], ob := [(1, .list true 1 (List.map (rK .u8) out_))] }) ?_ ?_
  · obtain ⟨p, hl', h0'⟩ := Option.bind_eq_some_iff.1 h0'
    refine wpV_block ?_
    refine wpV_loopM (fun s' e' => ∃ n_2 out__1, s' = (n_2, out__1) ∧ e' = { N := 22, np := 1, nx := 2, sl := [(0, .pl (.one (.v (.sc (.int .i64 n_2))))), (3, .pl (.one (.ref 1 [])))], ob := [(1, .list true 1 (List.map (rK .u8) out__1))] }) hl' (shd [0, 3] [(1, 1)] 2 ⟨_, _, rfl, rfl⟩) ?_
    rintro s' y1' e' h1' ⟨n_2, out__1, rfl, rfl⟩
    replace h1' : spec_l01Var_l1 n_2 out__1 = some y1' := h1'
    unfold spec_l01Var_l1 at h1'
    refine wpV_seq1 ?_
    refine wpV_seq1 ?_
    refine wpV_region ?_
    refine ops H' ?_
    refine opsN ?_
    refine wpV_split (fun hc' => ?_) (fun hc' => ?_)
    · replace h1' := (ifT hc').symm.trans h1'
      refine skipN ?_
      refine wpV_block ?_
      refine wpV_seq1 ?_
      refine wpV_region ?_
      obtain ⟨l_1, hv', h1'⟩ := Option.bind_eq_some_iff.1 h1'
      have H' := And.intro (app1_f hv') H'
      refine ops H' ?_
      refine opsN ?_
      refine wpV_region ?_
      refine ops H' ?_
      refine opsN ?_
      obtain rfl := Option.some.inj h1'
      exact shd [0, 3] [(1, 1)] 2 ⟨_, rfl, _, _, rfl, rfl⟩
    · replace h1' := (ifF hc').symm.trans h1'
      refine exitN ?_
      obtain rfl := Option.some.inj h1'
      refine ⟨_, rfl, fun hr' => ?_⟩
      subst hr'
      exact shd [0, 3] [(1, 1)] 2 ⟨_, _, h0', rfl⟩
  · rintro e' ⟨n_1, out_, h0', rfl⟩
    unfold spec_l01Var_j1 at h0'
    refine wpV_seq1 ?_
    refine wpV_region ?_
    obtain ⟨l, hv', h0'⟩ := Option.bind_eq_some_iff.1 h0'
    have H' := And.intro (app1_f hv') H'
    refine ops H' ?_
    refine opsN ?_
    refine retN ?_
    obtain rfl := Option.some.inj h0'
    exact outG H' rfl rfl
theorem W_spec_l18IsName (name : ByteArray) (r' : Bool) (h0' : spec_l18IsName name = some r') : Fn X 44 [.one (.sc (.string name))] [.one (.sc (.bool r'))] [] := by
  have H' := And.intro t3 (t9)
  unfold spec_l18IsName at h0'
  refine Fn.start (fn := f44) (N := 14) (res := [.tmp 2]) rfl rfl rfl rfl rfl (by simp) ?_
  refine enterG H' ?_
  refine wpV_seq1 ?_
  refine wpV_region ?_
  refine ops H' ?_
  refine opsN ?_
  refine wpV_seqJ (fun e' => spec_l18IsName_j1 name = some r' ∧ e' = { N := 14, np := 1, nx := 1, sl := [(0, .pl (.one (.v (.sc (.string name)))))], ob := [] }) ?_ ?_
  · refine wpV_seq1 ?_
    refine wpV_region ?_
    refine ops H' ?_
    refine opsN ?_
    obtain ⟨p, hl', h0'⟩ := Option.bind_eq_some_iff.1 h0'
    refine wpV_block ?_
    refine wpV_loopM (fun i e' => e' = { N := 14, np := 1, nx := 1, sl := [(0, .pl (.one (.v (.sc (.string name))))), (3, .pl (.one (.v (.sc (.int .i64 i)))))], ob := [] }) hl' (shd [0, 3] [] 1 rfl) ?_
    rintro i y1' e' h1' rfl
    replace h1' : spec_l18IsName_l1 name i = some y1' := h1'
    unfold spec_l18IsName_l1 at h1'
    refine wpV_seq1 ?_
    refine wpV_seq1 ?_
    refine wpV_region ?_
    refine ops H' ?_
    refine opsN ?_
    refine wpV_split (fun hc' => ?_) (fun hc' => ?_)
    · replace h1' := (ifT hc').symm.trans h1'
      refine skipN ?_
      refine wpV_seq1 ?_
      refine wpV_block ?_
      refine wpV_seq1 ?_
      refine wpV_region ?_
      refine ops H' ?_
      obtain ⟨x10, hy', h1'⟩ := Option.bind_eq_some_iff.1 h1'
      refine callG H' (fun _ => []) (W_spec_FileName _ _ hy') ?_
      refine ops H' ?_
      refine opsN ?_
      refine wpV_split (fun hc' => ?_) (fun hc' => ?_)
      · replace h1' := (ifT hc').symm.trans h1'
        refine wpV_seq1 ?_
        refine wpV_region ?_
        refine ops H' ?_
        refine opsN ?_
        refine retN ?_
        obtain rfl := Option.some.inj h1'
        refine ⟨_, rfl, fun hr' => ?_⟩
        subst hr'
        obtain rfl := Option.some.inj h0'
        exact outG H' rfl rfl
      · replace h1' := (ifF hc').symm.trans h1'
        refine skipN ?_
        refine wpV_region ?_
        refine ops H' ?_
        refine opsN ?_
        obtain rfl := Option.some.inj h1'
        exact shd [0, 3] [] 1 ⟨_, rfl, rfl⟩
    · replace h1' := (ifF hc').symm.trans h1'
      refine exitN ?_
      obtain rfl := Option.some.inj h1'
      refine ⟨_, rfl, fun hr' => ?_⟩
      subst hr'
      exact shd [0] [] 1 ⟨h0', rfl⟩
  · rintro e' ⟨h0', rfl⟩
    unfold spec_l18IsName_j1 at h0'
    refine wpV_seq1 ?_
    refine wpV_region ?_
    refine ops H' ?_
    refine opsN ?_
    refine retN ?_
    obtain rfl := Option.some.inj h0'
    exact outG H' rfl rfl
theorem W_spec_l17Short (s : ByteArray) (r' : ByteArray) (h0' : spec_l17Short s = some r') : Fn X 45 [.one (.sc (.string s))] [.one (.sc (.string r'))] [] := by
  have H' := t9
  unfold spec_l17Short at h0'
  refine Fn.start (fn := f45) (N := 8) (res := [.tmp 2]) rfl rfl rfl rfl rfl (by simp) ?_
  refine enterG H' ?_
  refine wpV_seq1 ?_
  refine wpV_region ?_
  refine ops H' ?_
  refine opsN ?_
  refine wpV_seq1 ?_
  refine wpV_region ?_
  refine ops H' ?_
  obtain ⟨x5, hy', h0'⟩ := Option.bind_eq_some_iff.1 h0'
  refine callG H' (fun _ => []) (W_spec_l01Var _ _ hy') ?_
  obtain ⟨t, hv', h0'⟩ := Option.bind_eq_some_iff.1 h0'
  have H' := And.intro (sapp_f hv') H'
  refine ops H' ?_
  refine opsN ?_
  refine retN ?_
  obtain rfl := Option.some.inj h0'
  exact outG H' rfl rfl
theorem W_spec_SumMore (sum : Int) (text : ByteArray) (r' : Int) (h0' : spec_SumMore sum text = some r') : Fn X 68 [.one (.sc (.int .u32 sum)), .one (.sc (.string text))] [.one (.sc (.int .u32 r'))] [] := by
  have H' := And.intro t3 (And.intro t5 (And.intro t9 (t76)))
  unfold spec_SumMore at h0'
  refine Fn.start (fn := f68) (N := 33) (res := [.tmp 4]) rfl rfl rfl rfl rfl (by simp) ?_
  refine enterG H' ?_
  refine wpV_seq1 ?_
  refine wpV_region ?_
  refine ops H' ?_
  refine opsN ?_
  refine wpV_seqJ (fun e' => ∃ sum_1, spec_SumMore_j1 sum_1 = some r' ∧ e' = { N := 33, np := 2, nx := 2, sl := [(0, .pl (.one (.v (.sc (.int .u32 sum_1)))))], ob := [] }) ?_ ?_
  · refine wpV_seq1 ?_
    refine wpV_region ?_
    refine ops H' ?_
    refine opsN ?_
    obtain ⟨p, hl', h0'⟩ := Option.bind_eq_some_iff.1 h0'
    refine wpV_block ?_
    refine wpV_loopM (fun s' e' => ∃ sum_2 i, s' = (sum_2, i) ∧ e' = { N := 33, np := 2, nx := 2, sl := [(0, .pl (.one (.v (.sc (.int .u32 sum_2))))), (1, .pl (.one (.v (.sc (.string text))))), (5, .pl (.one (.v (.sc (.int .i64 i)))))], ob := [] }) hl' (shd [0, 1, 5] [] 2 ⟨_, _, rfl, rfl⟩) ?_
    rintro s' y1' e' h1' ⟨sum_2, i, rfl, rfl⟩
    replace h1' : spec_SumMore_l1 text sum_2 i = some y1' := h1'
    unfold spec_SumMore_l1 at h1'
    refine wpV_seq1 ?_
    refine wpV_seq1 ?_
    refine wpV_region ?_
    refine ops H' ?_
    refine opsN ?_
    refine wpV_split (fun hc' => ?_) (fun hc' => ?_)
    · replace h1' := (ifT hc').symm.trans h1'
      refine skipN ?_
      refine wpV_seqJ (fun e' => ∃ sum_3, spec_SumMore_j2 i sum_3 = some y1' ∧ e' = { N := 33, np := 2, nx := 2, sl := [(0, .pl (.one (.v (.sc (.int .u32 sum_3))))), (1, .pl (.one (.v (.sc (.string text))))), (5, .pl (.one (.v (.sc (.int .i64 i)))))], ob := [] }) ?_ ?_
      · refine wpV_block ?_
        refine wpV_seq1 ?_
        refine wpV_region ?_
        obtain ⟨x17, hv', h1'⟩ := Option.bind_eq_some_iff.1 h1'
        have H' := And.intro (sidx_f hv') H'
        refine ops H' ?_
        refine opsN ?_
        refine wpV_seq1 ?_
        refine wpV_region ?_
        refine ops H' ?_
        refine opsN ?_
        obtain ⟨p_1, hl', h1'⟩ := Option.bind_eq_some_iff.1 h1'
        refine wpV_block ?_
        refine wpV_loopM (fun s' e' => ∃ sum_4 k, s' = (sum_4, k) ∧ e' = { N := 33, np := 2, nx := 2, sl := [(0, .pl (.one (.v (.sc (.int .u32 sum_4))))), (1, .pl (.one (.v (.sc (.string text))))), (5, .pl (.one (.v (.sc (.int .i64 i))))), (6, .pl (.one (.v (.sc (.int .i64 k)))))], ob := [] }) hl' (shd [0, 1, 5, 6] [] 2 ⟨_, _, rfl, rfl⟩) ?_
        rintro s' y2' e' h2' ⟨sum_4, k, rfl, rfl⟩
        replace h2' : spec_SumMore_l2 sum_4 k = some y2' := h2'
        unfold spec_SumMore_l2 at h2'
        refine wpV_seq1 ?_
        refine wpV_seq1 ?_
        refine wpV_region ?_
        refine ops H' ?_
        refine opsN ?_
        refine wpV_split (fun hc' => ?_) (fun hc' => ?_)
        · replace h2' := (ifT hc').symm.trans h2'
          refine skipN ?_
          refine wpV_seq1 ?_
          refine wpV_block ?_
          refine wpV_seq1 ?_
          refine wpV_region ?_
          refine ops H' ?_
          refine opsN ?_
          refine wpV_seq1 ?_
          refine wpV_region ?_
          refine ops H' ?_
          refine opsN ?_
          refine wpV_seq1 ?_
          refine wpV_region ?_
          refine ops H' ?_
          refine opsN ?_
          refine wpV_split (fun hc' => ?_) (fun hc' => ?_)
          · replace h2' := (ifT hc').symm.trans h2'
            refine wpV_region ?_
            refine ops H' ?_
            refine opsN ?_
            refine wpV_region ?_
            refine ops H' ?_
            refine opsN ?_
            obtain rfl := Option.some.inj h2'
            exact shd [0, 1, 5, 6] [] 2 ⟨_, rfl, _, _, rfl, rfl⟩
          · replace h2' := (ifF hc').symm.trans h2'
            refine skipN ?_
            refine wpV_region ?_
            refine ops H' ?_
            refine opsN ?_
            obtain rfl := Option.some.inj h2'
            exact shd [0, 1, 5, 6] [] 2 ⟨_, rfl, _, _, rfl, rfl⟩
        · replace h2' := (ifF hc').symm.trans h2'
          refine exitN ?_
          obtain rfl := Option.some.inj h2'
          refine ⟨_, rfl, fun hr' => ?_⟩
          subst hr'
          exact shd [0, 1, 5] [] 2 ⟨_, h1', rfl⟩
      · rintro e' ⟨sum_3, h1', rfl⟩
        unfold spec_SumMore_j2 at h1'
        refine wpV_region ?_
        refine ops H' ?_
        refine opsN ?_
        obtain rfl := Option.some.inj h1'
        exact shd [0, 1, 5] [] 2 ⟨_, rfl, _, _, rfl, rfl⟩
    · replace h1' := (ifF hc').symm.trans h1'
      refine exitN ?_
      obtain rfl := Option.some.inj h1'
      refine ⟨_, rfl, fun hr' => ?_⟩
      subst hr'
      exact shd [0] [] 2 ⟨_, h0', rfl⟩
  · rintro e' ⟨sum_1, h0', rfl⟩
    unfold spec_SumMore_j1 at h0'
    refine wpV_seq1 ?_
    refine wpV_region ?_
    refine ops H' ?_
    refine opsN ?_
    refine retN ?_
    obtain rfl := Option.some.inj h0'
    exact outG H' rfl rfl
theorem W_spec_SumOf (text : ByteArray) (r' : Int) (h0' : spec_SumOf text = some r') : Fn X 56 [.one (.sc (.string text))] [.one (.sc (.int .u32 r'))] [] := by
  have H' := trivial
  unfold spec_SumOf at h0'
  refine Fn.start (fn := f56) (N := 5) (res := [.tmp 2]) rfl rfl rfl rfl rfl (by simp) ?_
  refine enterG H' ?_
  refine wpV_seq1 ?_
  refine wpV_region ?_
  refine ops H' ?_
  refine opsN ?_
  refine wpV_seq1 ?_
  refine wpV_region ?_
  refine ops H' ?_
  obtain ⟨x4, hy', h0'⟩ := Option.bind_eq_some_iff.1 h0'
  refine callG H' (fun _ => []) (W_spec_SumMore _ _ _ hy') ?_
  refine ops H' ?_
  refine opsN ?_
  refine retN ?_
  obtain rfl := Option.some.inj h0'
  exact outG H' rfl rfl
theorem W_spec_l02Four (x : Int) (r' : ByteArray) (h0' : spec_l02Four x = some r') : Fn X 55 [.one (.sc (.int .u32 x))] [.one (.sc (.string r'))] [] := by
  have H' := And.intro t5 (And.intro t9 (And.intro t36 (t76)))
  unfold spec_l02Four at h0'
  refine Fn.start (fn := f55) (N := 16) (res := [.tmp 2]) rfl rfl rfl rfl rfl (by simp) ?_
  refine enterG H' ?_
  refine wpV_seq1 ?_
  refine wpV_region ?_
  refine ops H' ?_
  refine opsN ?_
  refine wpV_seq1 ?_
  refine wpV_region ?_
  have H' := And.intro (show bytesOf [[V.sc (.int .u8 (wk .u8 (shrI .u32 x 24)))], [V.sc (.int .u8 (wk .u8 (shrI .u32 x 16)))], [V.sc (.int .u8 (wk .u8 (shrI .u32 x 8)))], [V.sc (.int .u8 (wk .u8 x))]] = some [(wk .u8 (shrI .u32 x 24)), (wk .u8 (shrI .u32 x 16)), (wk .u8 (shrI .u32 x 8)), (wk .u8 x)] from bytesOf_rK [(wk .u8 (shrI .u32 x 24)), (wk .u8 (shrI .u32 x 16)), (wk .u8 (shrI .u32 x 8)), (wk .u8 x)]) H'
  refine ops H' ?_
  refine opsN ?_
  refine retN ?_
  obtain rfl := Option.some.inj h0'
  exact outG H' rfl rfl
theorem W_spec_Sealed (text : ByteArray) (r' : ByteArray × Bool) (h0' : spec_Sealed text = some r') : Fn X 46 [.one (.sc (.string text))] [.one (.sc (.string r'.1)), .one (.sc (.bool r'.2))] [] := by
  have H' := And.intro t3 (t9)
  unfold spec_Sealed at h0'
  refine Fn.start (fn := f46) (N := 12) (res := [.tmp 2, .tmp 3]) rfl rfl rfl rfl rfl (by simp) ?_
  refine enterG H' ?_
  refine wpV_seq1 ?_
  refine wpV_region ?_
  refine ops H' ?_
  refine opsN ?_
  refine wpV_seq1 ?_
  refine wpV_seq1 ?_
  refine wpV_region ?_
  refine ops H' ?_
  refine opsN ?_
  refine wpV_split (fun hc' => ?_) (fun hc' => ?_)
  · replace h0' := (ifT hc').symm.trans h0'
    refine wpV_seq1 ?_
    refine wpV_region ?_
    refine ops H' ?_
    refine opsN ?_
    refine retN ?_
    obtain rfl := Option.some.inj h0'
    exact outG H' rfl rfl
  · replace h0' := (ifF hc').symm.trans h0'
    refine skipN ?_
    refine wpV_seq1 ?_
    refine wpV_region ?_
    refine ops H' ?_
    obtain ⟨x9, hy', h0'⟩ := Option.bind_eq_some_iff.1 h0'
    refine callG H' (fun _ => []) (W_spec_SumOf _ _ hy') ?_
    obtain ⟨x10, hy', h0'⟩ := Option.bind_eq_some_iff.1 h0'
    refine callG H' (fun _ => []) (W_spec_l02Four _ _ hy') ?_
    obtain ⟨t, hv', h0'⟩ := Option.bind_eq_some_iff.1 h0'
    have H' := And.intro (sapp_f hv') H'
    refine ops H' ?_
    refine opsN ?_
    refine retN ?_
    obtain rfl := Option.some.inj h0'
    exact outG H' rfl rfl
theorem W_spec_IntentText (names : List ByteArray) (r' : ByteArray × Bool) (h0' : spec_IntentText names = some r') : Fn X 18 [.one (.list false 1 (List.map rS names))] [.one (.sc (.string r'.1)), .one (.sc (.bool r'.2))] [] := by
  have H' := And.intro t3 (And.intro t9 (And.intro t22 (R_s)))
  unfold spec_IntentText at h0'
  refine Fn.start (fn := f18) (N := 52) (res := [.tmp 2, .tmp 3]) rfl rfl rfl rfl rfl (by simp) ?_
  refine enterG H' ?_
  refine wpV_seq1 ?_
  refine wpV_region ?_
  refine ops H' ?_
  refine opsN ?_
  refine wpV_seq1 ?_
  refine wpV_seq1 ?_
  refine wpV_region ?_
  refine ops H' ?_
  refine opsN ?_
  refine wpV_split (fun hc' => ?_) (fun hc' => ?_)
  · replace h0' := (ifT hc').symm.trans h0'
    refine wpV_seq1 ?_
    refine wpV_region ?_
    refine ops H' ?_
    refine opsN ?_
    refine retN ?_
    obtain rfl := Option.some.inj h0'
    exact outG H' rfl rfl
  · replace h0' := (ifF hc').symm.trans h0'
    refine skipN ?_
    refine wpV_seq1 ?_
    refine wpV_region ?_
    refine ops H' ?_
    obtain ⟨x11, hy', h0'⟩ := Option.bind_eq_some_iff.1 h0'
    refine callG H' (fun _ => []) (W_spec_l01Var _ _ hy') ?_
    obtain ⟨t, hv', h0'⟩ := Option.bind_eq_some_iff.1 h0'
    have H' := And.intro (sapp_f hv') H'
    refine ops H' ?_
    refine opsN ?_
    refine wpV_seqJ (fun e' => ∃ s, spec_IntentText_j1 s = some r' ∧ e' = { N := 52, np := 1, nx := 1, sl := [(4, .pl (.one (.v (.sc (.string s)))))], ob := [] }) ?_ ?_
    · refine wpV_seq1 ?_
      refine wpV_region ?_
      refine ops H' ?_
      refine opsN ?_
      obtain ⟨p, hl', h0'⟩ := Option.bind_eq_some_iff.1 h0'
      refine wpV_block ?_
      refine wpV_loopM (fun s' e' => ∃ s_1 i, s' = (s_1, i) ∧ e' = { N := 52, np := 1, nx := 1, sl := [(0, .pl (.one (.v (.list false 1 (List.map rS names))))), (4, .pl (.one (.v (.sc (.string s_1))))), (5, .pl (.one (.v (.sc (.int .i64 i)))))], ob := [] }) hl' (shd [0, 4, 5] [] 1 ⟨_, _, rfl, rfl⟩) ?_
      rintro s' y1' e' h1' ⟨s_1, i, rfl, rfl⟩
      replace h1' : spec_IntentText_l1 names s_1 i = some y1' := h1'
      unfold spec_IntentText_l1 at h1'
      refine wpV_seq1 ?_
      refine wpV_seq1 ?_
      refine wpV_region ?_
      refine ops H' ?_
      refine opsN ?_
      refine wpV_split (fun hc' => ?_) (fun hc' => ?_)
      · replace h1' := (ifT hc').symm.trans h1'
        refine skipN ?_
        refine wpV_seq1 ?_
        refine wpV_block ?_
        refine wpV_seq1 ?_
        refine wpV_seq1 ?_
        refine regQ ?_
        obtain ⟨x, hv', h1'⟩ := Option.bind_eq_some_iff.1 h1'
        have H' := And.intro (geti_f hv') H'
        refine ops H' ?_
        obtain ⟨x23, hy', h1'⟩ := Option.bind_eq_some_iff.1 h1'
        refine callGQ H' (W_spec_l18IsName _ _ hy') ?_
        refine ops H' ?_
        obtain ⟨b, gh1', h1'⟩ := Option.bind_eq_some_iff.1 h1'
        refine quV_cut 15 (fun e' => e' = { N := 52, np := 1, nx := 1, sl := [(0, .pl (.one (.v (.list false 1 (List.map rS names))))), (4, .pl (.one (.v (.sc (.string s_1))))), (5, .pl (.one (.v (.sc (.int .i64 i))))), (40, .pl (.one (.v (.sc (.bool b)))))], ob := [] }) ?_ ?_
        · simp only [List.take_succ_cons, List.take_zero]
          refine quV_sp (fun hc' => ?_) (fun hc' => ?_)
          · replace gh1' := (ifF hc').symm.trans gh1'
            refine ops H' ?_
            obtain ⟨b_1, ggh1', gh1'⟩ := Option.bind_eq_some_iff.1 gh1'
            refine quV_cut 11 (fun e' => e' = { N := 52, np := 1, nx := 1, sl := [(0, .pl (.one (.v (.list false 1 (List.map rS names))))), (4, .pl (.one (.v (.sc (.string s_1))))), (5, .pl (.one (.v (.sc (.int .i64 i))))), (25, .pl (.one (.v (.sc (.bool false))))), (26, .pl (.one (.v (.sc (.int .i64 i))))), (27, .pl (.one (.v (.sc (.bool (decide (i > 0))))))), (39, .pl (.one (.v (.sc (.bool b_1)))))], ob := [] }) ?_ ?_
            · simp only [List.take_succ_cons, List.take_zero]
              refine quV_sp (fun hc' => ?_) (fun hc' => ?_)
              · replace ggh1' := (ifT hc').symm.trans ggh1'
                obtain ⟨x_1, hv', ggh1'⟩ := Option.bind_eq_some_iff.1 ggh1'
                have H' := And.intro (geti_f hv') H'
                refine ops H' ?_
                obtain rfl := Option.some.inj ggh1'
                refine quV_nil ?_
                exact ⟨rfl, shd [0, 4, 5, 25, 26, 27, 39] [] 1 rfl⟩
              · replace ggh1' := (ifF hc').symm.trans ggh1'
                refine ops H' ?_
                obtain rfl := Option.some.inj ggh1'
                refine quV_nil ?_
                exact ⟨rfl, shd [0, 4, 5, 25, 26, 27, 39] [] 1 rfl⟩
            · rintro e' rfl
              simp only [List.drop_succ_cons, List.drop_zero]
              refine ops H' ?_
              obtain rfl := Option.some.inj gh1'
              refine quV_nil ?_
              exact ⟨rfl, shd [0, 4, 5, 40] [] 1 rfl⟩
          · replace gh1' := (ifT hc').symm.trans gh1'
            refine ops H' ?_
            obtain rfl := Option.some.inj gh1'
            refine quV_nil ?_
            exact ⟨rfl, shd [0, 4, 5, 40] [] 1 rfl⟩
        · rintro e' rfl
          simp only [List.drop_succ_cons, List.drop_zero]
          refine quN ?_
          refine wpV_split (fun hc' => ?_) (fun hc' => ?_)
          · replace h1' := (ifT hc').symm.trans h1'
            refine wpV_seq1 ?_
            refine wpV_region ?_
            refine ops H' ?_
            refine opsN ?_
            refine retN ?_
            obtain rfl := Option.some.inj h1'
            refine ⟨_, rfl, fun hr' => ?_⟩
            subst hr'
            obtain rfl := Option.some.inj h0'
            exact outG H' rfl rfl
          · replace h1' := (ifF hc').symm.trans h1'
            refine skipN ?_
            refine wpV_region ?_
            obtain ⟨x_2, hv', h1'⟩ := Option.bind_eq_some_iff.1 h1'
            have H' := And.intro (geti_f hv') H'
            refine ops H' ?_
            obtain ⟨x46, hy', h1'⟩ := Option.bind_eq_some_iff.1 h1'
            refine callG H' (fun _ => []) (W_spec_l17Short _ _ hy') ?_
            obtain ⟨t_1, hv', h1'⟩ := Option.bind_eq_some_iff.1 h1'
            have H' := And.intro (sapp_f hv') H'
            refine ops H' ?_
            refine opsN ?_
            refine wpV_region ?_
            refine ops H' ?_
            refine opsN ?_
            obtain rfl := Option.some.inj h1'
            exact shd [0, 4, 5] [] 1 ⟨_, rfl, _, _, rfl, rfl⟩
      · replace h1' := (ifF hc').symm.trans h1'
        refine exitN ?_
        obtain rfl := Option.some.inj h1'
        refine ⟨_, rfl, fun hr' => ?_⟩
        subst hr'
        exact shd [4] [] 1 ⟨_, h0', rfl⟩
    · rintro e' ⟨s, h0', rfl⟩
      unfold spec_IntentText_j1 at h0'
      refine wpV_seq1 ?_
      refine wpV_region ?_
      refine ops H' ?_
      obtain ⟨x49, hy', h0'⟩ := Option.bind_eq_some_iff.1 h0'
      refine callG H' (fun _ => []) (W_spec_Sealed _ _ hy') ?_
      refine ops H' ?_
      refine opsN ?_
      refine retN ?_
      obtain rfl := Option.some.inj h0'
      exact outG H' rfl rfl
theorem W_impl_inRange (n : Int) (least : Int) (most : Int) (r' : Bool) (h0' : impl_inRange n least most = some r') : Fn X 74 [.one (.sc (.int .i64 n)), .one (.sc (.int .i64 least)), .one (.sc (.int .i64 most))] [.one (.sc (.bool r'))] [] := by
  have H' := t3
  unfold impl_inRange at h0'
  refine Fn.start (fn := f74) (N := 15) (res := [.tmp 6]) rfl rfl rfl rfl rfl (by simp) ?_
  refine enterG H' ?_
  refine wpV_seq1 ?_
  refine wpV_region ?_
  refine ops H' ?_
  refine opsN ?_
  refine wpV_seq1 ?_
  refine wpV_region ?_
  refine ops H' ?_
  obtain ⟨b, gh0', h0'⟩ := Option.bind_eq_some_iff.1 h0'
  refine opsV_cut 4 (fun e' => e' = { N := 15, np := 3, nx := 3, sl := [(14, .pl (.one (.v (.sc (.bool b)))))], ob := [] }) ?_ ?_
  · simp only [List.take_succ_cons, List.take_zero]
    refine opsV_sp (fun hc' => ?_) (fun hc' => ?_)
    · replace gh0' := (ifT hc').symm.trans gh0'
      refine ops H' ?_
      obtain rfl := Option.some.inj gh0'
      refine opsV_nil ?_
      exact ⟨rfl, shd [14] [] 3 rfl⟩
    · replace gh0' := (ifF hc').symm.trans gh0'
      refine ops H' ?_
      obtain rfl := Option.some.inj gh0'
      refine opsV_nil ?_
      exact ⟨rfl, shd [14] [] 3 rfl⟩
  · rintro e' rfl
    simp only [List.drop_succ_cons, List.drop_zero]
    refine ops H' ?_
    refine opsN ?_
    refine retN ?_
    obtain rfl := Option.some.inj h0'
    exact outG H' rfl rfl
theorem W_internal_strconv_small (i : Int) (r' : ByteArray) (h0' : internal_strconv_small i = some r') : Fn X 75 [.one (.sc (.int .i64 i))] [.one (.sc (.string r'))] [] := by
  have H' := And.intro t3 (t9)
  unfold internal_strconv_small at h0'
  refine Fn.start (fn := f75) (N := 15) (res := [.tmp 2]) rfl rfl rfl rfl rfl (by simp) ?_
  refine enterG H' ?_
  refine wpV_seq1 ?_
  refine wpV_region ?_
  refine ops H' ?_
  refine opsN ?_
  refine wpV_seq1 ?_
  refine wpV_seq1 ?_
  refine wpV_region ?_
  refine ops H' ?_
  refine opsN ?_
  refine wpV_split (fun hc' => ?_) (fun hc' => ?_)
  · replace h0' := (ifT hc').symm.trans h0'
    refine wpV_seq1 ?_
    refine wpV_region ?_
    obtain ⟨x8, hv', h0'⟩ := Option.bind_eq_some_iff.1 h0'
    have H' := And.intro (sub2_f hv') H'
    refine ops H' ?_
    refine opsN ?_
    refine retN ?_
    obtain rfl := Option.some.inj h0'
    exact outG H' rfl rfl
  · replace h0' := (ifF hc').symm.trans h0'
    refine skipN ?_
    refine wpV_seq1 ?_
    refine wpV_region ?_
    obtain ⟨x14, hv', h0'⟩ := Option.bind_eq_some_iff.1 h0'
    have H' := And.intro (sub2_f hv') H'
    refine ops H' ?_
    refine opsN ?_
    refine retN ?_
    obtain rfl := Option.some.inj h0'
    exact outG H' rfl rfl
theorem W_internal_strconv_FormatInt (i : Int) (base_ : Int) (r' : ByteArray) (h0' : internal_strconv_FormatInt i base_ = some r') : Fn X 72 [.one (.sc (.int .i64 i)), .one (.sc (.int .i64 base_))] [.one (.sc (.string r'))] [] := by
  have H' := And.intro t2 (t3)
  unfold internal_strconv_FormatInt at h0'
  refine Fn.start (fn := f72) (N := 54) (res := [.tmp 4]) rfl rfl rfl rfl rfl (by simp) ?_
  refine enterG H' ?_
  refine wpV_seq1 ?_
  refine wpV_region ?_
  refine ops H' ?_
  refine opsN ?_
  refine wpV_seq1 ?_
  refine wpV_seq1 ?_
  refine wpV_region ?_
  refine ops H' ?_
  refine opsN ?_
  refine wpV_split (fun hc' => ?_) (fun hc' => ?_)
  · replace h0' := (ifT hc').symm.trans h0'
    refine wpV_seq1 ?_
    refine wpV_seq1 ?_
    refine wpV_region ?_
    refine ops H' ?_
    obtain ⟨b, gh0', h0'⟩ := Option.bind_eq_some_iff.1 h0'
    refine opsV_cut 3 (fun e' => e' = { N := 54, np := 2, nx := 2, sl := [(0, .pl (.one (.v (.sc (.int .i64 i))))), (17, .pl (.one (.v (.sc (.bool b)))))], ob := [] }) ?_ ?_
    · simp only [List.take_succ_cons, List.take_zero]
      refine opsV_sp (fun hc' => ?_) (fun hc' => ?_)
      · replace gh0' := (ifT hc').symm.trans gh0'
        refine ops H' ?_
        obtain rfl := Option.some.inj gh0'
        refine opsV_nil ?_
        exact ⟨rfl, shd [0, 17] [] 2 rfl⟩
      · replace gh0' := (ifF hc').symm.trans gh0'
        refine ops H' ?_
        obtain rfl := Option.some.inj gh0'
        refine opsV_nil ?_
        exact ⟨rfl, shd [0, 17] [] 2 rfl⟩
    · rintro e' rfl
      simp only [List.drop_succ_cons, List.drop_zero]
      refine opsN ?_
      refine wpV_split (fun hc' => ?_) (fun hc' => ?_)
      · replace h0' := (ifT hc').symm.trans h0'
        refine wpV_seq1 ?_
        refine wpV_region ?_
        refine ops H' ?_
        obtain ⟨x19, hy', h0'⟩ := Option.bind_eq_some_iff.1 h0'
        refine callG H' (fun _ => []) (W_internal_strconv_small _ _ hy') ?_
        refine ops H' ?_
        refine opsN ?_
        refine retN ?_
        obtain rfl := Option.some.inj h0'
        exact outG H' rfl rfl
      · replace h0' := (ifF hc').symm.trans h0'
        cases h0'
  · replace h0' := (ifF hc').symm.trans h0'
    cases h0'
theorem W_internal_strconv_Itoa (i : Int) (r' : ByteArray) (h0' : internal_strconv_Itoa i = some r') : Fn X 67 [.one (.sc (.int .i64 i))] [.one (.sc (.string r'))] [] := by
  have H' := trivial
  unfold internal_strconv_Itoa at h0'
  refine Fn.start (fn := f67) (N := 5) (res := [.tmp 2]) rfl rfl rfl rfl rfl (by simp) ?_
  refine enterG H' ?_
  refine wpV_seq1 ?_
  refine wpV_region ?_
  refine ops H' ?_
  refine opsN ?_
  refine wpV_seq1 ?_
  refine wpV_region ?_
  refine ops H' ?_
  obtain ⟨x4, hy', h0'⟩ := Option.bind_eq_some_iff.1 h0'
  refine callG H' (fun _ => []) (W_internal_strconv_FormatInt _ _ _ hy') ?_
  refine ops H' ?_
  refine opsN ?_
  refine retN ?_
  obtain rfl := Option.some.inj h0'
  exact outG H' rfl rfl
theorem W_strconv_Itoa (i : Int) (r' : ByteArray) (h0' : strconv_Itoa i = some r') : Fn X 54 [.one (.sc (.int .i64 i))] [.one (.sc (.string r'))] [] := by
  have H' := trivial
  unfold strconv_Itoa at h0'
  refine Fn.start (fn := f54) (N := 5) (res := [.tmp 2]) rfl rfl rfl rfl rfl (by simp) ?_
  refine enterG H' ?_
  refine wpV_seq1 ?_
  refine wpV_region ?_
  refine ops H' ?_
  refine opsN ?_
  refine wpV_seq1 ?_
  refine wpV_region ?_
  refine ops H' ?_
  obtain ⟨x4, hy', h0'⟩ := Option.bind_eq_some_iff.1 h0'
  refine callG H' (fun _ => []) (W_internal_strconv_Itoa _ _ hy') ?_
  refine ops H' ?_
  refine opsN ?_
  refine retN ?_
  obtain rfl := Option.some.inj h0'
  exact outG H' rfl rfl
theorem W_impl_Decimal (n : Int) (r' : ByteArray) (h0' : impl_Decimal n = some r') : Fn X 28 [.one (.sc (.int .i64 n))] [.one (.sc (.string r'))] [] := by
  have H' := trivial
  unfold impl_Decimal at h0'
  refine Fn.start (fn := f28) (N := 5) (res := [.tmp 2]) rfl rfl rfl rfl rfl (by simp) ?_
  refine enterG H' ?_
  refine wpV_seq1 ?_
  refine wpV_region ?_
  refine ops H' ?_
  refine opsN ?_
  refine wpV_seq1 ?_
  refine wpV_region ?_
  refine ops H' ?_
  obtain ⟨x4, hy', h0'⟩ := Option.bind_eq_some_iff.1 h0'
  refine callG H' (fun _ => []) (W_strconv_Itoa _ _ hy') ?_
  refine ops H' ?_
  refine opsN ?_
  refine retN ?_
  obtain rfl := Option.some.inj h0'
  exact outG H' rfl rfl
theorem W_impl_FileName (id : Int) (r' : ByteArray) (h0' : impl_FileName id = some r') : Fn X 71 [.one (.sc (.int .i64 id))] [.one (.sc (.string r'))] [] := by
  have H' := t9
  unfold impl_FileName at h0'
  refine Fn.start (fn := f71) (N := 9) (res := [.tmp 2]) rfl rfl rfl rfl rfl (by simp) ?_
  refine enterG H' ?_
  refine wpV_seq1 ?_
  refine wpV_region ?_
  refine ops H' ?_
  refine opsN ?_
  refine wpV_seq1 ?_
  refine wpV_seq1 ?_
  refine wpV_region ?_
  refine ops H' ?_
  obtain ⟨x4, hy', h0'⟩ := Option.bind_eq_some_iff.1 h0'
  refine callG H' (fun _ => []) (W_impl_inRange _ _ _ _ hy') ?_
  refine ops H' ?_
  refine opsN ?_
  refine wpV_split (fun hc' => ?_) (fun hc' => ?_)
  · replace h0' := (ifT hc').symm.trans h0'
    refine wpV_seq1 ?_
    refine wpV_region ?_
    refine ops H' ?_
    refine opsN ?_
    refine retN ?_
    obtain rfl := Option.some.inj h0'
    exact outG H' rfl rfl
  · replace h0' := (ifF hc').symm.trans h0'
    refine skipN ?_
    refine wpV_seq1 ?_
    refine wpV_region ?_
    refine ops H' ?_
    obtain ⟨x7, hy', h0'⟩ := Option.bind_eq_some_iff.1 h0'
    refine callG H' (fun _ => []) (W_impl_Decimal _ _ hy') ?_
    obtain ⟨t, hv', h0'⟩ := Option.bind_eq_some_iff.1 h0'
    have H' := And.intro (sapp_f hv') H'
    refine ops H' ?_
    refine opsN ?_
    refine retN ?_
    obtain rfl := Option.some.inj h0'
    exact outG H' rfl rfl
theorem W_impl_isImageName (name : ByteArray) (r' : Bool) (h0' : impl_isImageName name = some r') : Fn X 62 [.one (.sc (.string name))] [.one (.sc (.bool r'))] [] := by
  have H' := And.intro t3 (t9)
  unfold impl_isImageName at h0'
  refine Fn.start (fn := f62) (N := 14) (res := [.tmp 2]) rfl rfl rfl rfl rfl (by simp) ?_
  refine enterG H' ?_
  refine wpV_seq1 ?_
  refine wpV_region ?_
  refine ops H' ?_
  refine opsN ?_
  refine wpV_seq1 ?_
  refine wpV_seq1 ?_
  refine wpV_region ?_
  refine ops H' ?_
  refine opsN ?_
  refine wpV_split (fun hc' => ?_) (fun hc' => ?_)
  · replace h0' := (ifT hc').symm.trans h0'
    refine wpV_seq1 ?_
    refine wpV_region ?_
    refine ops H' ?_
    refine opsN ?_
    refine retN ?_
    obtain rfl := Option.some.inj h0'
    exact outG H' rfl rfl
  · replace h0' := (ifF hc').symm.trans h0'
    refine skipN ?_
    refine wpV_seqJ (fun e' => impl_isImageName_j1 = some r' ∧ e' = { N := 14, np := 1, nx := 1, sl := [], ob := [] }) ?_ ?_
    · refine wpV_seq1 ?_
      refine wpV_region ?_
      refine ops H' ?_
      refine opsN ?_
      obtain ⟨p, hl', h0'⟩ := Option.bind_eq_some_iff.1 h0'
      refine wpV_block ?_
      refine wpV_loopM (fun x6 e' => e' = { N := 14, np := 1, nx := 1, sl := [(0, .pl (.one (.v (.sc (.string name))))), (6, .pl (.one (.v (.sc (.int .i64 x6)))))], ob := [] }) hl' (shd [0, 6] [] 1 rfl) ?_
      rintro x6 y1' e' h1' rfl
      replace h1' : impl_isImageName_l1 name x6 = some y1' := h1'
      unfold impl_isImageName_l1 at h1'
      refine wpV_seq1 ?_
      refine wpV_region ?_
      refine ops H' ?_
      refine opsN ?_
      refine wpV_seq1 ?_
      refine wpV_split (fun hc' => ?_) (fun hc' => ?_)
      · replace h1' := (ifT hc').symm.trans h1'
        refine skipN ?_
        refine wpV_seq1 ?_
        refine wpV_block ?_
        refine wpV_seq1 ?_
        refine wpV_region ?_
        refine ops H' ?_
        refine opsN ?_
        refine wpV_seq1 ?_
        refine wpV_region ?_
        refine ops H' ?_
        obtain ⟨x10, hy', h1'⟩ := Option.bind_eq_some_iff.1 h1'
        refine callG H' (fun _ => []) (W_impl_FileName _ _ hy') ?_
        refine ops H' ?_
        refine opsN ?_
        refine wpV_split (fun hc' => ?_) (fun hc' => ?_)
        · replace h1' := (ifT hc').symm.trans h1'
          refine wpV_seq1 ?_
          refine wpV_region ?_
          refine ops H' ?_
          refine opsN ?_
          refine retN ?_
          obtain rfl := Option.some.inj h1'
          refine ⟨_, rfl, fun hr' => ?_⟩
          subst hr'
          obtain rfl := Option.some.inj h0'
          exact outG H' rfl rfl
        · replace h1' := (ifF hc').symm.trans h1'
          refine skipN ?_
          refine wpV_region ?_
          refine ops H' ?_
          refine opsN ?_
          obtain rfl := Option.some.inj h1'
          exact shd [0, 6] [] 1 ⟨_, rfl, rfl⟩
      · replace h1' := (ifF hc').symm.trans h1'
        refine exitN ?_
        obtain rfl := Option.some.inj h1'
        refine ⟨_, rfl, fun hr' => ?_⟩
        subst hr'
        exact shd [] [] 1 ⟨h0', rfl⟩
    · rintro e' ⟨h0', rfl⟩
      unfold impl_isImageName_j1 at h0'
      refine wpV_seq1 ?_
      refine wpV_region ?_
      refine ops H' ?_
      refine opsN ?_
      refine retN ?_
      obtain rfl := Option.some.inj h0'
      exact outG H' rfl rfl
theorem W_impl_intentOk (names : List ByteArray) (r' : Bool) (h0' : impl_intentOk names = some r') : Fn X 39 [.one (.list false 1 (List.map rS names))] [.one (.sc (.bool r'))] [] := by
  have H' := And.intro t3 (And.intro t9 (And.intro t22 (R_s)))
  unfold impl_intentOk at h0'
  refine Fn.start (fn := f39) (N := 32) (res := [.tmp 2]) rfl rfl rfl rfl rfl (by simp) ?_
  refine enterG H' ?_
  refine wpV_seq1 ?_
  refine wpV_region ?_
  refine ops H' ?_
  refine opsN ?_
  refine wpV_seqJ (fun e' => impl_intentOk_j1 names = some r' ∧ e' = { N := 32, np := 1, nx := 1, sl := [(0, .pl (.one (.v (.list false 1 (List.map rS names)))))], ob := [] }) ?_ ?_
  · refine wpV_seq1 ?_
    refine wpV_region ?_
    refine ops H' ?_
    refine opsN ?_
    obtain ⟨p, hl', h0'⟩ := Option.bind_eq_some_iff.1 h0'
    refine wpV_block ?_
    refine wpV_loopM (fun x7 e' => e' = { N := 32, np := 1, nx := 1, sl := [(0, .pl (.one (.v (.list false 1 (List.map rS names))))), (5, .pl (.one (.v (.list false 1 (List.map rS names))))), (6, .pl (.one (.v (.sc (.int .i64 (names.length : Int)))))), (7, .pl (.one (.v (.sc (.int .i64 x7)))))], ob := [] }) hl' (shd [0, 5, 6, 7] [] 1 rfl) ?_
    rintro x7 y1' e' h1' rfl
    replace h1' : impl_intentOk_l1 names x7 = some y1' := h1'
    unfold impl_intentOk_l1 at h1'
    refine wpV_seq1 ?_
    refine wpV_region ?_
    refine ops H' ?_
    refine opsN ?_
    refine wpV_seq1 ?_
    refine wpV_split (fun hc' => ?_) (fun hc' => ?_)
    · replace h1' := (ifT hc').symm.trans h1'
      refine skipN ?_
      refine wpV_seq1 ?_
      refine wpV_block ?_
      refine wpV_seq1 ?_
      refine wpV_region ?_
      obtain ⟨x, hv', h1'⟩ := Option.bind_eq_some_iff.1 h1'
      have H' := And.intro (geti_f hv') H'
      refine ops H' ?_
      refine opsN ?_
      refine wpV_seq1 ?_
      refine wpV_region ?_
      refine ops H' ?_
      obtain ⟨x13, hy', h1'⟩ := Option.bind_eq_some_iff.1 h1'
      refine callG H' (fun _ => []) (W_impl_isImageName _ _ hy') ?_
      refine ops H' ?_
      obtain ⟨b, gh1', h1'⟩ := Option.bind_eq_some_iff.1 h1'
      refine opsV_cut 12 (fun e' => e' = { N := 32, np := 1, nx := 1, sl := [(0, .pl (.one (.v (.list false 1 (List.map rS names))))), (5, .pl (.one (.v (.list false 1 (List.map rS names))))), (6, .pl (.one (.v (.sc (.int .i64 (names.length : Int)))))), (7, .pl (.one (.v (.sc (.int .i64 x7))))), (27, .pl (.one (.v (.sc (.bool b)))))], ob := [] }) ?_ ?_
      · simp only [List.take_succ_cons, List.take_zero]
        refine opsV_sp (fun hc' => ?_) (fun hc' => ?_)
        · replace gh1' := (ifF hc').symm.trans gh1'
          refine ops H' ?_
          obtain ⟨b_1, ggh1', gh1'⟩ := Option.bind_eq_some_iff.1 gh1'
          refine opsV_cut 8 (fun e' => e' = { N := 32, np := 1, nx := 1, sl := [(0, .pl (.one (.v (.list false 1 (List.map rS names))))), (5, .pl (.one (.v (.list false 1 (List.map rS names))))), (6, .pl (.one (.v (.sc (.int .i64 (names.length : Int)))))), (7, .pl (.one (.v (.sc (.int .i64 x7))))), (15, .pl (.one (.v (.sc (.bool false))))), (16, .pl (.one (.v (.sc (.int .i64 x7))))), (17, .pl (.one (.v (.sc (.bool (decide (x7 > 0))))))), (26, .pl (.one (.v (.sc (.bool b_1)))))], ob := [] }) ?_ ?_
          · simp only [List.take_succ_cons, List.take_zero]
            refine opsV_sp (fun hc' => ?_) (fun hc' => ?_)
            · replace ggh1' := (ifT hc').symm.trans ggh1'
              obtain ⟨x_1, hv', ggh1'⟩ := Option.bind_eq_some_iff.1 ggh1'
              have H' := And.intro (geti_f hv') H'
              refine ops H' ?_
              obtain rfl := Option.some.inj ggh1'
              refine opsV_nil ?_
              exact ⟨rfl, shd [0, 5, 6, 7, 15, 16, 17, 26] [] 1 rfl⟩
            · replace ggh1' := (ifF hc').symm.trans ggh1'
              refine ops H' ?_
              obtain rfl := Option.some.inj ggh1'
              refine opsV_nil ?_
              exact ⟨rfl, shd [0, 5, 6, 7, 15, 16, 17, 26] [] 1 rfl⟩
          · rintro e' rfl
            simp only [List.drop_succ_cons, List.drop_zero]
            refine ops H' ?_
            obtain rfl := Option.some.inj gh1'
            refine opsV_nil ?_
            exact ⟨rfl, shd [0, 5, 6, 7, 27] [] 1 rfl⟩
        · replace gh1' := (ifT hc').symm.trans gh1'
          refine ops H' ?_
          obtain rfl := Option.some.inj gh1'
          refine opsV_nil ?_
          exact ⟨rfl, shd [0, 5, 6, 7, 27] [] 1 rfl⟩
      · rintro e' rfl
        simp only [List.drop_succ_cons, List.drop_zero]
        refine opsN ?_
        refine wpV_split (fun hc' => ?_) (fun hc' => ?_)
        · replace h1' := (ifT hc').symm.trans h1'
          refine wpV_seq1 ?_
          refine wpV_region ?_
          refine ops H' ?_
          refine opsN ?_
          refine retN ?_
          obtain rfl := Option.some.inj h1'
          refine ⟨_, rfl, fun hr' => ?_⟩
          subst hr'
          obtain rfl := Option.some.inj h0'
          exact outG H' rfl rfl
        · replace h1' := (ifF hc').symm.trans h1'
          refine skipN ?_
          refine wpV_region ?_
          refine ops H' ?_
          refine opsN ?_
          obtain rfl := Option.some.inj h1'
          exact shd [0, 5, 6, 7] [] 1 ⟨_, rfl, rfl⟩
    · replace h1' := (ifF hc').symm.trans h1'
      refine exitN ?_
      obtain rfl := Option.some.inj h1'
      refine ⟨_, rfl, fun hr' => ?_⟩
      subst hr'
      exact shd [0] [] 1 ⟨h0', rfl⟩
  · rintro e' ⟨h0', rfl⟩
    unfold impl_intentOk_j1 at h0'
    refine wpV_seq1 ?_
    refine wpV_region ?_
    refine ops H' ?_
    refine opsN ?_
    refine retN ?_
    obtain rfl := Option.some.inj h0'
    exact outG H' rfl rfl
theorem W_impl_varText (n : Int) (r' : ByteArray) (h0' : impl_varText n = some r') : Fn X 47 [.one (.sc (.int .i64 n))] [.one (.sc (.string r'))] [] := by
  have H' := And.intro t3 (And.intro t5 (And.intro t9 (And.intro t36 (R_u8))))
  unfold impl_varText at h0'
  refine Fn.start (fn := f47) (N := 21) (res := [.tmp 2]) rfl rfl rfl rfl rfl (by simp) ?_
  refine enterG H' ?_
  refine wpV_seq1 ?_
  refine wpV_region ?_
  refine ops H' ?_
  refine opsN ?_
  refine wpV_seq1 ?_
  refine wpV_region ?_
  refine ops H' ?_
  refine opsN ?_
  refine wpV_seqJ (fun e' => ∃ n_1 out_, impl_varText_j1 n_1 out_ = some r' ∧ e' = { N := 21, np := 1, nx := 2, sl := [(0, .pl (.one (.v (.sc (.int .i64 n_1))))), (3, .pl (.one (.ref 1 [])))], ob := [(1, .list true 1 (List.map (rK .u8) out_))] }) ?_ ?_
  · obtain ⟨p, hl', h0'⟩ := Option.bind_eq_some_iff.1 h0'
    refine wpV_block ?_
    refine wpV_loopM (fun s' e' => ∃ n_2 out__1, s' = (n_2, out__1) ∧ e' = { N := 21, np := 1, nx := 2, sl := [(0, .pl (.one (.v (.sc (.int .i64 n_2))))), (3, .pl (.one (.ref 1 [])))], ob := [(1, .list true 1 (List.map (rK .u8) out__1))] }) hl' (shd [0, 3] [(1, 1)] 2 ⟨_, _, rfl, rfl⟩) ?_
    rintro s' y1' e' h1' ⟨n_2, out__1, rfl, rfl⟩
    replace h1' : impl_varText_l1 n_2 out__1 = some y1' := h1'
    unfold impl_varText_l1 at h1'
    refine wpV_seq1 ?_
    refine wpV_seq1 ?_
    refine wpV_region ?_
    refine ops H' ?_
    refine opsN ?_
    refine wpV_split (fun hc' => ?_) (fun hc' => ?_)
    · replace h1' := (ifT hc').symm.trans h1'
      refine skipN ?_
      refine wpV_block ?_
      refine wpV_seq1 ?_
      refine wpV_region ?_
      obtain ⟨l_1, hv', h1'⟩ := Option.bind_eq_some_iff.1 h1'
      have H' := And.intro (app1_f hv') H'
      refine ops H' ?_
      refine opsN ?_
      refine wpV_region ?_
      refine ops H' ?_
      refine opsN ?_
      obtain rfl := Option.some.inj h1'
      exact shd [0, 3] [(1, 1)] 2 ⟨_, rfl, _, _, rfl, rfl⟩
    · replace h1' := (ifF hc').symm.trans h1'
      refine exitN ?_
      obtain rfl := Option.some.inj h1'
      refine ⟨_, rfl, fun hr' => ?_⟩
      subst hr'
      exact shd [0, 3] [(1, 1)] 2 ⟨_, _, h0', rfl⟩
  · rintro e' ⟨n_1, out_, h0', rfl⟩
    unfold impl_varText_j1 at h0'
    refine wpV_seq1 ?_
    refine wpV_region ?_
    obtain ⟨l, hv', h0'⟩ := Option.bind_eq_some_iff.1 h0'
    have H' := And.intro (app1_f hv') H'
    refine ops H' ?_
    refine opsN ?_
    refine retN ?_
    obtain rfl := Option.some.inj h0'
    exact outG H' rfl rfl
section
open Go.RowKit Go.Proofs Go
theorem strings_Builder_WriteString_bz : ∃ j, Tryd.prog.info? 48 = some j ∧ j.size = 2 := by
  have : (Tryd.prog.info? 48).map (·.size) = some 2 := by kernel_rfl
  obtain ⟨j, h1, h2⟩ := Option.map_eq_some_iff.1 this
  exact ⟨j, h1, h2⟩
theorem strings_Builder_WriteString_bl : liesAt Tryd.prog Tryd.prog.depth 48 (2 / Tryd.prog.cellsOf 48) 0 48 1 = true := by kernel_rfl
theorem strings_Builder_WriteString_copyCheck_used (b : Nat) (w : World) (h0 : w.cell? ⟨b, 0, none⟩ = some (.pointer (some ⟨b, 0, none⟩))) :
    Calls Tryd.prog 53 #[.pointer (some ⟨b, 0, none⟩)] w fun e w' => e = .returned (.tuple #[]) ∧ w' = w := by
  obtain ⟨j, hj, _⟩ := strings_Builder_WriteString_bz
  go_enter Tryd.func53, Tryd.ntmps53
  go_wp2
  rw [Go.Lib.run_neq_ptr_same w _ Tryd.underlying46 hj]
  go_wp2
  go_end0
  exact ⟨rfl, rfl⟩
theorem strings_Builder_WriteString_copyCheck_fresh (b : Nat) (w : World) (h0 : w.cell? ⟨b, 0, none⟩ = some (.pointer none)) (hsh : w.shape? b = some (48, 2)) (hfz : w.frozen? ⟨b, 0, none⟩ = false) :
    Calls Tryd.prog 53 #[.pointer (some ⟨b, 0, none⟩)] w fun e w' => e = .returned (.tuple #[]) ∧ w' = w.setCell ⟨b, 0, none⟩ (.pointer (some ⟨b, 0, none⟩)) := by
  obtain ⟨j, hj, hjs⟩ := strings_Builder_WriteString_bz
  go_enter Tryd.func53, Tryd.ntmps53
  go_wp2
  rw [Go.Lib.run_to_unsafe w ⟨b, 0, none⟩ Tryd.underlying46 Tryd.underlying89 hj (by rw [hjs]; decide) hsh (Nat.zero_lt_succ 1)]
  simp only [Result.andThen]
  rw [Oper.upon_value]
  go_wp2
  rw [run_callFunc_extern Tryd.func66 (by kernel_rfl) (by kernel_rfl) (by kernel_rfl) (e := Extern.AbiNoEscape.same) (by kernel_rfl)]
  rw [Go.Lib.run_noEscape]
  simp only [Result.andThen]
  rw [Oper.upon_value]
  go_wp2
  rw [Go.Lib.run_from_unsafe w ⟨b, 0, none⟩ Tryd.underlying89 Tryd.underlying46 hj hsh strings_Builder_WriteString_bl]
  simp only [Result.andThen]
  rw [Oper.upon_value]
  go_wp2
  go_end0
  exact ⟨rfl, rfl⟩
theorem strings_Builder_WriteString_binfo : ∃ i, Tryd.prog.info? 5 = some i ∧ i.zero = some (.int .u8 0) ∧ i.size = 1 ∧ i.bytes = 1 := by
  have : (Tryd.prog.info? 5).map (fun i => (i.zero, i.size, i.bytes)) = some (some (.int .u8 0), 1, 1) := by kernel_rfl
  obtain ⟨i, h1, h2⟩ := Option.map_eq_some_iff.1 this
  injection h2 with h2 h3
  injection h3 with h3 h4
  exact ⟨i, h1, h2, h3, h4⟩
theorem strings_Builder_WriteString_bWrite (b : Nat) (p v : Value) (s x : ByteArray) (w : World) (hbk : w.heap[b]? = some (.cells #[p, v] 48 (0, 0))) (hp : p = .pointer none ∨ p = .pointer (some ⟨b, 0, none⟩)) (hown : w.ownsRow 0 5 1 v s.size (Go.Lib.strCells s)) (hne : v.ownBlock ≠ some b) (hlen : s.size + x.size ≤ 549755813888) :
    Calls Tryd.prog 26 #[.pointer (some ⟨b, 0, none⟩), .string x] w fun e w' => e = .returned (.tuple #[.int .i64 x.size, .nilIface]) ∧ ∃ v', w'.heap[b]? = some (.cells #[.pointer (some ⟨b, 0, none⟩), v'] 48 (0, 0)) ∧ w'.ownsRow 0 5 1 v' (s.size + x.size) (Go.Lib.strCells s ++ Go.Lib.strCells x) ∧ v'.ownBlock ≠ some b ∧
      w'.os = w.os ∧ w'.tape = w.tape ∧ w'.output = w.output ∧ w.heap.size ≤ w'.heap.size ∧ (∀ k, k < w.heap.size → k ≠ b → v.ownBlock ≠ some k → w'.heap[k]? = w.heap[k]?) ∧ (∀ g, v'.ownBlock = some g → v.ownBlock = some g ∨ w.heap.size ≤ g) ∧ (v = .slice none 0 0 → x.size = 0 → v' = .slice none 0 0) := by
  obtain ⟨i0, hi, hz0, hz1, hz2⟩ := strings_Builder_WriteString_binfo
  have hblt : b < w.heap.size := by
    rcases Nat.lt_or_ge b w.heap.size with h' | h'
    · exact h'
    · simp [Array.getElem?_eq_none h'] at hbk
  have hc0 : w.cell? ⟨b, 0, none⟩ = some p := by rw [Go.Lib.cell_of_heap hbk]; rfl
  have hsh : w.shape? b = some (48, 2) := by simp [World.shape?, hbk]
  have hfz : w.frozen? ⟨b, 0, none⟩ = false := Go.Lib.frozen_of_heap hbk 0
  -- behind the look at the copy
  have key : Calls Tryd.prog 53 #[.pointer (some ⟨b, 0, none⟩)] w fun e w1 => e = .returned (.tuple #[]) ∧ w1.heap[b]? = some (.cells #[.pointer (some ⟨b, 0, none⟩), v] 48 (0, 0)) ∧ w1.os = w.os ∧ w1.tape = w.tape ∧ w1.output = w.output ∧ w1.heap.size = w.heap.size ∧ (∀ k, k ≠ b → w1.heap[k]? = w.heap[k]?) := by
    rcases hp with rfl | rfl
    · refine (strings_Builder_WriteString_copyCheck_fresh b w hc0 hsh hfz).mono ?_
      rintro e w1 ⟨rfl, rfl⟩
      refine ⟨rfl, ?_, rfl, rfl, rfl, by simp [World.setCell], fun k hk => Below.heap_setCell _ _ _ _ hk⟩
      simp [World.setCell, Array.getElem?_modify, hbk]
    · refine (strings_Builder_WriteString_copyCheck_used b w hc0).mono ?_
      rintro e w1 ⟨rfl, rfl⟩
      exact ⟨rfl, hbk, rfl, rfl, rfl, rfl, fun _ _ => rfl⟩
  have e53 : ∀ args w, (callFunc 53 args).run Tryd.prog w = .ok (.enter 53 args) w := enters_of Tryd.func53 (by kernel_rfl) rfl
  go_enter Tryd.func26, Tryd.ntmps26
  go_wp2_with (go_at_fn 53; refine key.mono ?_)
  rintro e w1 ⟨rfl, hbk1, o1, o2, o3, o4, o5⟩
  have hown1 : w1.ownsRow 0 5 1 v s.size (Go.Lib.strCells s) := by
    refine ⟨hown.1, ?_⟩
    rcases hown.2 with h | ⟨g, cap, cur, rfl, h2, h3, h4⟩
    · exact .inl h
    · exact .inr ⟨g, cap, cur, rfl, h2, by rw [o5 g (fun q => hne (by simp [Value.ownBlock, q]))]; exact h3, h4⟩
  have c1 : w1.cell? ⟨b, 1, none⟩ = some v := by rw [Go.Lib.cell_of_heap hbk1]; rfl
  obtain ⟨v', w2, hr, hown2, hgrow, hnew, hnil⟩ := Go.TV.append_bld (P := Tryd.prog) w1 36 9 36 5 i0 Tryd.underlying36 Tryd.underlying9 hi hz0 hz1 hz2 v s.size (Go.Lib.strCells s) hown1 x hlen
  go_wp2_with (at_builtin; refine Go.TV.wpList_app2 rfl _ _ 36 9 rfl rfl rfl hr ?_)
  rintro v2 w3 ⟨e1, e2⟩
  rw [e1, e2]
  clear e1 e2
  have hb2 : w2.heap[b]? = some (.cells #[.pointer (some ⟨b, 0, none⟩), v] 48 (0, 0)) := by
    rw [hgrow.block b (by omega) (fun e => hne e.symm)]
    exact hbk1
  have d0 : w2.cell? ⟨b, 0, none⟩ = some (.pointer (some ⟨b, 0, none⟩)) := by rw [Go.Lib.cell_of_heap hb2]; rfl
  have d1 : w2.cell? ⟨b, 1, none⟩ = some v := by rw [Go.Lib.cell_of_heap hb2]; rfl
  have f1 : w2.frozen? ⟨b, 1, none⟩ = false := Go.Lib.frozen_of_heap hb2 1
  obtain ⟨ao, n', cap, rfl⟩ : ∃ ao n' cap, v' = .slice ao n' cap := by
    rcases hown2.2 with ⟨hv, _⟩ | ⟨g, cap, cur, hv, _⟩
    · exact ⟨_, _, _, hv⟩
    · exact ⟨_, _, _, hv⟩
  go_wp2
  go_ret2
  have hne2 : (Value.slice ao n' cap).ownBlock ≠ some b := fun q => by
    rcases hnew b q with h | h
    · exact hne h
    · omega
  refine ⟨rfl, _, ?_, ?_, hne2, hgrow.os.trans o1, hgrow.tape.trans o2, hgrow.output.trans o3, ?_, ?_, ?_, hnil⟩
  · simp [World.setCell, Array.getElem?_modify, hb2]
  · refine ⟨hown2.1, ?_⟩
    rcases hown2.2 with h | ⟨g, cap', cur, h1, h2, h3, h4⟩
    · exact .inl h
    · refine .inr ⟨g, cap', cur, h1, h2, ?_, h4⟩
      rw [Below.heap_setCell _ _ _ _ (fun q => hne2 (by rw [h1, q]; rfl))]
      exact h3
  · have := hgrow.size
    simp [World.setCell]
    omega
  · intro k hk hkb hkv
    rw [Below.heap_setCell _ _ _ _ hkb, hgrow.block k (by omega) (fun q => hkv q.symm), o5 k hkb]
  · intro g hg
    rcases hnew g hg with h | h
    · exact .inl h
    · right
      omega
end
theorem W_strings_Builder_WriteString (b : ByteArray) (x : ByteArray) (r' : ByteArray) (h0' : strings_Builder_WriteString b x = some r') : Fn X 26 [.one (.bld 48 5 b), .one (.sc (.string x))] [.one (.sc (.int .i64 (x.size : Int))), .one (.sc .nilIface)] [(0, .bld 48 5 r')] := by
  unfold strings_Builder_WriteString at h0'
  split at h0'
  case isFalse => cases h0'
  rename_i hs
  obtain rfl := Option.some.inj h0'
  exact Fn_bldWrite ⟨_, Go.Proofs.Tryd.func26, rfl, rfl⟩ (fun bb p v w h1 h2 h3 h4 => strings_Builder_WriteString_bWrite bb p v b x w h1 h2 h3 h4 hs)
theorem W_impl_shortText (s : ByteArray) (r' : ByteArray) (h0' : impl_shortText s = some r') : Fn X 48 [.one (.sc (.string s))] [.one (.sc (.string r'))] [] := by
  have H' := t9
  unfold impl_shortText at h0'
  refine Fn.start (fn := f48) (N := 8) (res := [.tmp 2]) rfl rfl rfl rfl rfl (by simp) ?_
  refine enterG H' ?_
  refine wpV_seq1 ?_
  refine wpV_region ?_
  refine ops H' ?_
  refine opsN ?_
  refine wpV_seq1 ?_
  refine wpV_region ?_
  refine ops H' ?_
  obtain ⟨x5, hy', h0'⟩ := Option.bind_eq_some_iff.1 h0'
  refine callG H' (fun _ => []) (W_impl_varText _ _ hy') ?_
  obtain ⟨t, hv', h0'⟩ := Option.bind_eq_some_iff.1 h0'
  have H' := And.intro (sapp_f hv') H'
  refine ops H' ?_
  refine opsN ?_
  refine retN ?_
  obtain rfl := Option.some.inj h0'
  exact outG H' rfl rfl
section
open Go.RowKit Go.Proofs Go
theorem strings_Builder_String_strBytes (s : ByteArray) (h : s.size = 0) : s = ByteArray.empty := by
  apply ByteArray.ext
  have : s.data.size = 0 := h
  exact Array.eq_empty_of_size_eq_zero this
theorem strings_Builder_String_bString (b : Nat) (p v : Value) (s : ByteArray) (w : World) (hbk : w.heap[b]? = some (.cells #[p, v] 48 (0, 0))) (hown : w.ownsRow 0 5 1 v s.size (Go.Lib.strCells s)) (hne : v.ownBlock ≠ some b) (hz : s.size = 0 → v = .slice none 0 0) :
    Calls Tryd.prog 29 #[.pointer (some ⟨b, 0, none⟩)] w fun e w' => e = .returned (.string s) ∧ w'.os = w.os ∧ w'.tape = w.tape ∧ w'.output = w.output ∧ w.heap.size ≤ w'.heap.size ∧ (∀ k, k < w.heap.size → k ≠ b → v.ownBlock ≠ some k → w'.heap[k]? = w.heap[k]?) := by
  have mixed : Tryd.prog.follows .mixedOrders = true := by kernel_rfl
  by_cases h0 : s.size = 0
  · have hs := strings_Builder_String_strBytes s h0
    subst hs
    have hv := hz h0
    subst hv
    have hUS : ∀ (W : World) (q : Option Addr), (Builtin.unsafeString_ #[74, 3] 9 #[.pointer q, .int .i64 0]).run Tryd.prog W = .ok (.string .empty) W := fun W q => Go.Lib.run_unsafeString_none W _ _ _ q
    have c1 : w.drew.cell? ⟨b, 1, none⟩ = some (.slice none 0 0) := by
      have : w.drew.heap[b]? = some (.cells #[p, .slice none 0 0] 48 (0, 0)) := hbk
      rw [Go.Lib.cell_of_heap this]; rfl
    have hSD : (Builtin.unsafeSliceData_ #[36] 74 #[.slice none 0 0]).run Tryd.prog w.drew = .ok (.pointer none) w.drew := rfl
    go_enter Tryd.func29, Tryd.ntmps29
    go_wp2
    go_region_o
    all_goals (go_wp2; go_ret; exact ⟨rfl, rfl, rfl, rfl, Nat.le_refl _, fun _ _ _ _ => rfl⟩)
  · have hl : s.data.toList.length = s.size := rfl
    have hl0 : s.data.toList ≠ [] := fun q => h0 (by
      rw [q] at hl
      exact hl.symm)
    obtain ⟨g, cap, cur, rfl, hbg, hg, hnc, hcm, hcs, htake⟩ : ∃ g cap cur, v = .slice (some ⟨g, 0, none⟩) s.size cap ∧ 0 ≤ g ∧ w.heap[g]? = some (.cells cur 5 (0, 0)) ∧ s.size ≤ cap ∧ cap ≤ maxLen ∧ cur.size = cap * 1 ∧ cur.toList.take (s.size * 1) = Go.Lib.strCells s := by
      rcases hown.2 with ⟨_, hz⟩ | ⟨g, cap, cur, hv, r⟩
      · exact absurd hz h0
      · exact ⟨g, cap, cur, hv, r⟩
    have c1 : w.drew.cell? ⟨b, 1, none⟩ = some (.slice (some ⟨g, 0, none⟩) s.size cap) := by
      have : w.drew.heap[b]? = some (.cells #[p, .slice (some ⟨g, 0, none⟩) s.size cap] 48 (0, 0)) := hbk
      rw [Go.Lib.cell_of_heap this]; rfl
    have hSD : (Builtin.unsafeSliceData_ #[36] 74 #[.slice (some ⟨g, 0, none⟩) s.size cap]).run Tryd.prog w.drew = .ok (.pointer (some ⟨g, 0, none⟩)) w.drew :=
      Go.Lib.run_unsafeSliceData_row _ _ _ _ _ _ (by omega)
    have hUS : (Builtin.unsafeString_ #[74, 3] 9 #[.pointer (some ⟨g, 0, none⟩), .int .i64 s.size]).run Tryd.prog w.drew = .ok (.string s) (w.drew.freeze ⟨g, 0, none⟩ s.size) := by
      have := Go.Lib.run_unsafeString_row (P := Tryd.prog) w.drew 74 3 9 5 Tryd.underlying74 (by kernel_rfl) g cur.size (by have hg' : w.drew.heap[g]? = some (.cells cur 5 (0, 0)) := hg; simp [World.shape?, hg']) s.data.toList hl0 (by omega) (by unfold maxLen at hcm; omega) (fun j x hx => by
        have := hown.cells (g := g) rfl j (.int .u8 x.toNat) (by simp only [Go.Lib.strCells, List.getElem?_map, hx, Option.map_some])
        exact this)
      rw [hl] at this
      rw [this]
    have hfr : ∀ k, k ≠ g → (w.drew.freeze ⟨g, 0, none⟩ s.size).heap[k]? = w.heap[k]? := fun k hk => by
      unfold World.freeze
      rw [if_neg h0]
      simp only [Array.getElem?_modify]
      rw [if_neg (fun q => hk q.symm)]
      rfl
    have hsz : (w.drew.freeze ⟨g, 0, none⟩ s.size).heap.size = w.heap.size := by
      unfold World.freeze
      rw [if_neg h0]
      exact Array.size_modify
    have ho : (w.drew.freeze ⟨g, 0, none⟩ s.size).os = w.os ∧ (w.drew.freeze ⟨g, 0, none⟩ s.size).tape = w.tape ∧ (w.drew.freeze ⟨g, 0, none⟩ s.size).output = w.output := by
      unfold World.freeze
      rw [if_neg h0]
      exact ⟨rfl, rfl, rfl⟩
    go_enter Tryd.func29, Tryd.ntmps29
    go_wp2
    go_region_o
    all_goals (go_wp2; go_ret; exact ⟨rfl, ho.1, ho.2.1, ho.2.2, Nat.le_of_eq hsz.symm, fun k _ _ hk => hfr k (fun q => hk (by rw [q]; rfl))⟩)
end
theorem W_strings_Builder_String (b : ByteArray) (r' : ByteArray) (h0' : strings_Builder_String b = some r') : Fn X 29 [.one (.bld 48 5 b)] [.one (.sc (.string r'))] [] := by
  obtain rfl := Option.some.inj h0'
  exact Fn_bldString ⟨_, Go.Proofs.Tryd.func29, rfl, rfl⟩ (fun bb p v w h1 h2 h3 h4 => strings_Builder_String_bString bb p v b w h1 h2 h3 h4)
end Go.TV.KFnIntents
