/- Walks. -/
import Derived.Test.YthfhiepgdeghpaaDoorKFnIntentsE
import Derived.Test.YthfhiepgdeghpaaDoorKFnIntentsW0
set_option linter.unusedVariables false
set_option linter.unusedSimpArgs false
set_option maxHeartbeats 8000000
set_option maxRecDepth 100000
namespace Go.TV.KFnIntents
attribute [local irreducible] anyV wpV opsV Does thenV blockV RetL quV seqV
open Go.Proofs.Tryd Go.TV.F
theorem W_impl_SumMore (sum : Int) (text : ByteArray) (r' : Int) (h0' : impl_SumMore sum text = some r') : Fn X 73 [.one (.sc (.int .u32 sum)), .one (.sc (.string text))] [.one (.sc (.int .u32 r'))] [] := by
  have H' := And.intro t3 (And.intro t5 (And.intro t9 (t76)))
  unfold impl_SumMore at h0'
  refine Fn.start (fn := f73) (N := 31) (res := [.tmp 4]) rfl rfl rfl rfl rfl (by simp) ?_
  refine enterG H' ?_
  refine wpV_seq1 ?_
  refine wpV_region ?_
  refine ops H' ?_
  refine opsN ?_
  refine wpV_seqJ (fun e' => ∃ sum_1, impl_SumMore_j1 sum_1 = some r' ∧ e' = { N := 31, np := 2, nx := 2, sl := [(0, .pl (.one (.v (.sc (.int .u32 sum_1)))))], ob := [] }) ?_ ?_
  · refine wpV_seq1 ?_
    refine wpV_region ?_
    refine ops H' ?_
    refine opsN ?_
    obtain ⟨p, hl', h0'⟩ := Option.bind_eq_some_iff.1 h0'
    refine wpV_block ?_
    refine wpV_loopM (fun s' e' => ∃ sum_2 i, s' = (sum_2, i) ∧ e' = { N := 31, np := 2, nx := 2, sl := [(0, .pl (.one (.v (.sc (.int .u32 sum_2))))), (1, .pl (.one (.v (.sc (.string text))))), (5, .pl (.one (.v (.sc (.int .i64 i)))))], ob := [] }) hl' (shd [0, 1, 5] [] 2 ⟨_, _, rfl, rfl⟩) ?_
    rintro s' y1' e' h1' ⟨sum_2, i, rfl, rfl⟩
    replace h1' : impl_SumMore_l1 text sum_2 i = some y1' := h1'
    unfold impl_SumMore_l1 at h1'
    refine wpV_seq1 ?_
    refine wpV_seq1 ?_
    refine wpV_region ?_
    refine ops H' ?_
    refine opsN ?_
    refine wpV_split (fun hc' => ?_) (fun hc' => ?_)
    · replace h1' := (ifT hc').symm.trans h1'
      refine skipN ?_
      refine wpV_seqJ (fun e' => ∃ sum_3, impl_SumMore_j2 i sum_3 = some y1' ∧ e' = { N := 31, np := 2, nx := 2, sl := [(0, .pl (.one (.v (.sc (.int .u32 sum_3))))), (1, .pl (.one (.v (.sc (.string text))))), (5, .pl (.one (.v (.sc (.int .i64 i)))))], ob := [] }) ?_ ?_
      · refine wpV_block ?_
        refine wpV_seq1 ?_
        refine wpV_region ?_
        obtain ⟨x16, hv', h1'⟩ := Option.bind_eq_some_iff.1 h1'
        have H' := And.intro (sidx_f hv') H'
        refine ops H' ?_
        refine opsN ?_
        refine wpV_seq1 ?_
        refine wpV_region ?_
        refine ops H' ?_
        refine opsN ?_
        obtain ⟨p_1, hl', h1'⟩ := Option.bind_eq_some_iff.1 h1'
        refine wpV_block ?_
        refine wpV_loopM (fun s' e' => ∃ sum_4 x19, s' = (sum_4, x19) ∧ e' = { N := 31, np := 2, nx := 2, sl := [(0, .pl (.one (.v (.sc (.int .u32 sum_4))))), (1, .pl (.one (.v (.sc (.string text))))), (5, .pl (.one (.v (.sc (.int .i64 i))))), (19, .pl (.one (.v (.sc (.int .i64 x19)))))], ob := [] }) hl' (shd [0, 1, 5, 19] [] 2 ⟨_, _, rfl, rfl⟩) ?_
        rintro s' y2' e' h2' ⟨sum_4, x19, rfl, rfl⟩
        replace h2' : impl_SumMore_l2 sum_4 x19 = some y2' := h2'
        unfold impl_SumMore_l2 at h2'
        refine wpV_seq1 ?_
        refine wpV_region ?_
        refine ops H' ?_
        refine opsN ?_
        refine wpV_seq1 ?_
        refine wpV_split (fun hc' => ?_) (fun hc' => ?_)
        · replace h2' := (ifT hc').symm.trans h2'
          refine skipN ?_
          refine wpV_seq1 ?_
          refine wpV_block ?_
          refine wpV_seq1 ?_
          refine wpV_region ?_
          refine ops H' ?_
          refine opsN ?_
          refine wpV_seq1 ?_
          refine wpV_region ?_
          refine ops H' ?_
          refine opsN ?_
          refine wpV_seq1 ?_
          refine wpV_region ?_
          refine ops H' ?_
          refine opsN ?_
          refine wpV_split (fun hc' => ?_) (fun hc' => ?_)
          · replace h2' := (ifT hc').symm.trans h2'
            refine wpV_region ?_
            refine ops H' ?_
            refine opsN ?_
            refine wpV_region ?_
            refine ops H' ?_
            refine opsN ?_
            obtain rfl := Option.some.inj h2'
            exact shd [0, 1, 5, 19] [] 2 ⟨_, rfl, _, _, rfl, rfl⟩
          · replace h2' := (ifF hc').symm.trans h2'
            refine skipN ?_
            refine wpV_region ?_
            refine ops H' ?_
            refine opsN ?_
            obtain rfl := Option.some.inj h2'
            exact shd [0, 1, 5, 19] [] 2 ⟨_, rfl, _, _, rfl, rfl⟩
        · replace h2' := (ifF hc').symm.trans h2'
          refine exitN ?_
          obtain rfl := Option.some.inj h2'
          refine ⟨_, rfl, fun hr' => ?_⟩
          subst hr'
          exact shd [0, 1, 5] [] 2 ⟨_, h1', rfl⟩
      · rintro e' ⟨sum_3, h1', rfl⟩
        unfold impl_SumMore_j2 at h1'
        refine wpV_region ?_
        refine ops H' ?_
        refine opsN ?_
        obtain rfl := Option.some.inj h1'
        exact shd [0, 1, 5] [] 2 ⟨_, rfl, _, _, rfl, rfl⟩
    · replace h1' := (ifF hc').symm.trans h1'
      refine exitN ?_
      obtain rfl := Option.some.inj h1'
      refine ⟨_, rfl, fun hr' => ?_⟩
      subst hr'
      exact shd [0] [] 2 ⟨_, h0', rfl⟩
  · rintro e' ⟨sum_1, h0', rfl⟩
    unfold impl_SumMore_j1 at h0'
    refine wpV_seq1 ?_
    refine wpV_region ?_
    refine ops H' ?_
    refine opsN ?_
    refine retN ?_
    obtain rfl := Option.some.inj h0'
    exact outG H' rfl rfl
theorem W_impl_SumOf (text : ByteArray) (r' : Int) (h0' : impl_SumOf text = some r') : Fn X 69 [.one (.sc (.string text))] [.one (.sc (.int .u32 r'))] [] := by
  have H' := trivial
  unfold impl_SumOf at h0'
  refine Fn.start (fn := f69) (N := 5) (res := [.tmp 2]) rfl rfl rfl rfl rfl (by simp) ?_
  refine enterG H' ?_
  refine wpV_seq1 ?_
  refine wpV_region ?_
  refine ops H' ?_
  refine opsN ?_
  refine wpV_seq1 ?_
  refine wpV_region ?_
  refine ops H' ?_
  obtain ⟨x4, hy', h0'⟩ := Option.bind_eq_some_iff.1 h0'
  refine callG H' (fun _ => []) (W_impl_SumMore _ _ _ hy') ?_
  refine ops H' ?_
  refine opsN ?_
  refine retN ?_
  obtain rfl := Option.some.inj h0'
  exact outG H' rfl rfl
theorem W_impl_sumText (text : ByteArray) (r' : ByteArray) (h0' : impl_sumText text = some r') : Fn X 59 [.one (.sc (.string text))] [.one (.sc (.string r'))] [] := by
  have H' := And.intro t5 (And.intro t9 (And.intro t36 (t76)))
  unfold impl_sumText at h0'
  refine Fn.start (fn := f59) (N := 19) (res := [.tmp 2]) rfl rfl rfl rfl rfl (by simp) ?_
  refine enterG H' ?_
  refine wpV_seq1 ?_
  refine wpV_region ?_
  refine ops H' ?_
  refine opsN ?_
  refine wpV_seq1 ?_
  refine wpV_region ?_
  refine ops H' ?_
  obtain ⟨x5, hy', h0'⟩ := Option.bind_eq_some_iff.1 h0'
  refine callG H' (fun _ => []) (W_impl_SumOf _ _ hy') ?_
  refine ops H' ?_
  refine opsN ?_
  refine wpV_seq1 ?_
  refine wpV_region ?_
  have H' := And.intro (show bytesOf [[V.sc (.int .u8 (wk .u8 (shrI .u32 x5 24)))], [V.sc (.int .u8 (wk .u8 (shrI .u32 x5 16)))], [V.sc (.int .u8 (wk .u8 (shrI .u32 x5 8)))], [V.sc (.int .u8 (wk .u8 x5))]] = some [(wk .u8 (shrI .u32 x5 24)), (wk .u8 (shrI .u32 x5 16)), (wk .u8 (shrI .u32 x5 8)), (wk .u8 x5)] from bytesOf_rK [(wk .u8 (shrI .u32 x5 24)), (wk .u8 (shrI .u32 x5 16)), (wk .u8 (shrI .u32 x5 8)), (wk .u8 x5)]) H'
  refine ops H' ?_
  refine opsN ?_
  refine retN ?_
  obtain rfl := Option.some.inj h0'
  exact outG H' rfl rfl
theorem W_impl_Sealed (text : ByteArray) (r' : ByteArray × Bool) (h0' : impl_Sealed text = some r') : Fn X 49 [.one (.sc (.string text))] [.one (.sc (.string r'.1)), .one (.sc (.bool r'.2))] [] := by
  have H' := And.intro t3 (t9)
  unfold impl_Sealed at h0'
  refine Fn.start (fn := f49) (N := 11) (res := [.tmp 2, .tmp 3]) rfl rfl rfl rfl rfl (by simp) ?_
  refine enterG H' ?_
  refine wpV_seq1 ?_
  refine wpV_region ?_
  refine ops H' ?_
  refine opsN ?_
  refine wpV_seq1 ?_
  refine wpV_seq1 ?_
  refine wpV_region ?_
  refine ops H' ?_
  refine opsN ?_
  refine wpV_split (fun hc' => ?_) (fun hc' => ?_)
  · replace h0' := (ifT hc').symm.trans h0'
    refine wpV_seq1 ?_
    refine wpV_region ?_
    refine ops H' ?_
    refine opsN ?_
    refine retN ?_
    obtain rfl := Option.some.inj h0'
    exact outG H' rfl rfl
  · replace h0' := (ifF hc').symm.trans h0'
    refine skipN ?_
    refine wpV_seq1 ?_
    refine wpV_region ?_
    refine ops H' ?_
    obtain ⟨x9, hy', h0'⟩ := Option.bind_eq_some_iff.1 h0'
    refine callG H' (fun _ => []) (W_impl_sumText _ _ hy') ?_
    obtain ⟨t, hv', h0'⟩ := Option.bind_eq_some_iff.1 h0'
    have H' := And.intro (sapp_f hv') H'
    refine ops H' ?_
    refine opsN ?_
    refine retN ?_
    obtain rfl := Option.some.inj h0'
    exact outG H' rfl rfl
theorem W_impl_IntentText (names : List ByteArray) (r' : ByteArray × Bool) (h0' : impl_IntentText names = some r') : Fn X 19 [.one (.list false 1 (List.map rS names))] [.one (.sc (.string r'.1)), .one (.sc (.bool r'.2))] [] := by
  have H' := And.intro t3 (And.intro t9 (And.intro t22 (And.intro t48 (R_s))))
  unfold impl_IntentText at h0'
  refine Fn.start (fn := f19) (N := 29) (res := [.tmp 2, .tmp 3]) rfl rfl rfl rfl rfl (by simp) ?_
  refine enterG H' ?_
  refine wpV_seq1 ?_
  refine wpV_region ?_
  refine ops H' ?_
  refine opsN ?_
  refine wpV_seq1 ?_
  refine wpV_seq1 ?_
  refine wpV_region ?_
  refine ops H' ?_
  obtain ⟨x8, hy', h0'⟩ := Option.bind_eq_some_iff.1 h0'
  refine callG H' (fun _ => []) (W_impl_intentOk _ _ hy') ?_
  refine ops H' ?_
  refine opsN ?_
  refine wpV_split (fun hc' => ?_) (fun hc' => ?_)
  · replace h0' := (ifT hc').symm.trans h0'
    refine wpV_seq1 ?_
    refine wpV_region ?_
    refine ops H' ?_
    refine opsN ?_
    refine retN ?_
    obtain rfl := Option.some.inj h0'
    exact outG H' rfl rfl
  · replace h0' := (ifF hc').symm.trans h0'
    refine skipN ?_
    refine wpV_seq1 ?_
    refine wpV_region ?_
    refine opsV_bldN H' 5 ?_
    refine opsN ?_
    refine wpV_seq1 ?_
    refine wpV_region ?_
    refine ops H' ?_
    obtain ⟨x12, hy', h0'⟩ := Option.bind_eq_some_iff.1 h0'
    refine callG H' (fun _ => []) (W_impl_varText _ _ hy') ?_
    obtain ⟨t, hv', h0'⟩ := Option.bind_eq_some_iff.1 h0'
    have H' := And.intro (sapp_f hv') H'
    refine ops H' ?_
    obtain ⟨x14, hy', h0'⟩ := Option.bind_eq_some_iff.1 h0'
    refine callG H' (fun _ => [0]) (W_strings_Builder_WriteString _ _ _ hy') ?_
    refine opsN ?_
    refine wpV_seqJ (fun e' => ∃ b, impl_IntentText_j1 b = some r' ∧ e' = { N := 29, np := 1, nx := 2, sl := [(4, .pl (.one (.ref 1 [])))], ob := [(1, .bld 48 5 b)] }) ?_ ?_
    · refine wpV_seq1 ?_
      refine wpV_region ?_
      refine ops H' ?_
      refine opsN ?_
      obtain ⟨p, hl', h0'⟩ := Option.bind_eq_some_iff.1 h0'
      refine wpV_block ?_
      refine wpV_loopM (fun s' e' => ∃ x17 b_1, s' = (x17, b_1) ∧ e' = { N := 29, np := 1, nx := 2, sl := [(4, .pl (.one (.ref 1 []))), (15, .pl (.one (.v (.list false 1 (List.map rS names))))), (16, .pl (.one (.v (.sc (.int .i64 (names.length : Int)))))), (17, .pl (.one (.v (.sc (.int .i64 x17)))))], ob := [(1, .bld 48 5 b_1)] }) hl' (shd [4, 15, 16, 17] [(2, 1)] 2 ⟨_, _, rfl, rfl⟩) ?_
      rintro s' y1' e' h1' ⟨x17, b_1, rfl, rfl⟩
      replace h1' : impl_IntentText_l1 names x17 b_1 = some y1' := h1'
      unfold impl_IntentText_l1 at h1'
      refine wpV_seq1 ?_
      refine wpV_region ?_
      refine ops H' ?_
      refine opsN ?_
      refine wpV_seq1 ?_
      refine wpV_split (fun hc' => ?_) (fun hc' => ?_)
      · replace h1' := (ifT hc').symm.trans h1'
        refine skipN ?_
        refine wpV_seq1 ?_
        refine wpV_block ?_
        refine wpV_seq1 ?_
        refine wpV_region ?_
        obtain ⟨x, hv', h1'⟩ := Option.bind_eq_some_iff.1 h1'
        have H' := And.intro (geti_f hv') H'
        refine ops H' ?_
        refine opsN ?_
        refine wpV_region ?_
        refine ops H' ?_
        obtain ⟨x22, hy', h1'⟩ := Option.bind_eq_some_iff.1 h1'
        refine callG H' (fun _ => []) (W_impl_shortText _ _ hy') ?_
        obtain ⟨x23, hy', h1'⟩ := Option.bind_eq_some_iff.1 h1'
        refine callG H' (fun _ => [0]) (W_strings_Builder_WriteString _ _ _ hy') ?_
        refine opsN ?_
        refine wpV_region ?_
        refine ops H' ?_
        refine opsN ?_
        obtain rfl := Option.some.inj h1'
        exact shd [4, 15, 16, 17] [(1, 1)] 2 ⟨_, rfl, _, _, rfl, rfl⟩
      · replace h1' := (ifF hc').symm.trans h1'
        refine exitN ?_
        obtain rfl := Option.some.inj h1'
        refine ⟨_, rfl, fun hr' => ?_⟩
        subst hr'
        exact shd [4] [(1, 1)] 2 ⟨_, h0', rfl⟩
    · rintro e' ⟨b, h0', rfl⟩
      unfold impl_IntentText_j1 at h0'
      refine wpV_seq1 ?_
      refine wpV_region ?_
      obtain ⟨x25, hy', h0'⟩ := Option.bind_eq_some_iff.1 h0'
      refine callG H' (fun _ => [0]) (W_strings_Builder_String _ _ hy') ?_
      obtain ⟨x26, hy', h0'⟩ := Option.bind_eq_some_iff.1 h0'
      refine callG H' (fun _ => []) (W_impl_Sealed _ _ hy') ?_
      refine ops H' ?_
      refine opsN ?_
      refine retN ?_
      obtain rfl := Option.some.inj h0'
      exact outG H' rfl rfl
theorem W_impl_Unsealed (text : ByteArray) (r' : ByteArray × Bool) (h0' : impl_Unsealed text = some r') : Fn X 34 [.one (.sc (.string text))] [.one (.sc (.string r'.1)), .one (.sc (.bool r'.2))] [] := by
  have H' := And.intro t3 (t9)
  unfold impl_Unsealed at h0'
  refine Fn.start (fn := f34) (N := 27) (res := [.tmp 2, .tmp 3]) rfl rfl rfl rfl rfl (by simp) ?_
  refine enterG H' ?_
  refine wpV_seq1 ?_
  refine wpV_region ?_
  refine ops H' ?_
  refine opsN ?_
  refine wpV_seq1 ?_
  refine wpV_region ?_
  refine ops H' ?_
  refine opsN ?_
  refine wpV_seq1 ?_
  refine wpV_seq1 ?_
  refine regQ ?_
  refine ops H' ?_
  obtain ⟨b, gh0', h0'⟩ := Option.bind_eq_some_iff.1 h0'
  refine quV_cut 3 (fun e' => e' = { N := 27, np := 1, nx := 1, sl := [(0, .pl (.one (.v (.sc (.string text))))), (4, .pl (.one (.v (.sc (.int .i64 (wk .i64 ((text.size : Int) - 4))))))), (13, .pl (.one (.v (.sc (.bool b)))))], ob := [] }) ?_ ?_
  · simp only [List.take_succ_cons, List.take_zero]
    refine quV_sp (fun hc' => ?_) (fun hc' => ?_)
    · replace gh0' := (ifF hc').symm.trans gh0'
      refine ops H' ?_
      obtain rfl := Option.some.inj gh0'
      refine quV_nil ?_
      exact ⟨rfl, shd [0, 4, 13] [] 1 rfl⟩
    · replace gh0' := (ifT hc').symm.trans gh0'
      refine ops H' ?_
      obtain rfl := Option.some.inj gh0'
      refine quV_nil ?_
      exact ⟨rfl, shd [0, 4, 13] [] 1 rfl⟩
  · rintro e' rfl
    simp only [List.drop_succ_cons, List.drop_zero]
    refine ops H' ?_
    obtain ⟨b_1, gh0', h0'⟩ := Option.bind_eq_some_iff.1 h0'
    refine quV_cut 9 (fun e' => e' = { N := 27, np := 1, nx := 1, sl := [(0, .pl (.one (.v (.sc (.string text))))), (4, .pl (.one (.v (.sc (.int .i64 (wk .i64 ((text.size : Int) - 4))))))), (23, .pl (.one (.v (.sc (.bool b_1)))))], ob := [] }) ?_ ?_
    · simp only [List.take_succ_cons, List.take_zero]
      refine quV_sp (fun hc' => ?_) (fun hc' => ?_)
      · replace gh0' := (ifF hc').symm.trans gh0'
        obtain ⟨x17, hv', gh0'⟩ := Option.bind_eq_some_iff.1 gh0'
        have H' := And.intro (subH_f hv') H'
        refine ops H' ?_
        obtain ⟨x18, hy', gh0'⟩ := Option.bind_eq_some_iff.1 gh0'
        refine callGQ H' (W_impl_sumText _ _ hy') ?_
        obtain ⟨x21, hv', gh0'⟩ := Option.bind_eq_some_iff.1 gh0'
        have H' := And.intro (subL_f hv') H'
        refine ops H' ?_
        obtain rfl := Option.some.inj gh0'
        refine quV_nil ?_
        exact ⟨rfl, shd [0, 4, 23] [] 1 rfl⟩
      · replace gh0' := (ifT hc').symm.trans gh0'
        refine ops H' ?_
        obtain rfl := Option.some.inj gh0'
        refine quV_nil ?_
        exact ⟨rfl, shd [0, 4, 23] [] 1 rfl⟩
    · rintro e' rfl
      simp only [List.drop_succ_cons, List.drop_zero]
      refine quN ?_
      refine wpV_split (fun hc' => ?_) (fun hc' => ?_)
      · replace h0' := (ifT hc').symm.trans h0'
        refine wpV_seq1 ?_
        refine wpV_region ?_
        refine ops H' ?_
        refine opsN ?_
        refine retN ?_
        obtain rfl := Option.some.inj h0'
        exact outG H' rfl rfl
      · replace h0' := (ifF hc').symm.trans h0'
        refine skipN ?_
        refine wpV_seq1 ?_
        refine wpV_region ?_
        obtain ⟨x26, hv', h0'⟩ := Option.bind_eq_some_iff.1 h0'
        have H' := And.intro (subH_f hv') H'
        refine ops H' ?_
        refine opsN ?_
        refine retN ?_
        obtain rfl := Option.some.inj h0'
        exact outG H' rfl rfl
theorem W_impl_scanner_take (s : T_impl_scanner) (n : Int) (r' : ByteArray × T_impl_scanner) (h0' : impl_scanner_take s n = some r') : Fn X 60 [.one (.box true [.sc (.string s.text), .sc (.int .i64 s.at_), .sc (.bool s.bad)]), .one (.sc (.int .i64 n))] [.one (.sc (.string r'.1))] [(0, .box true [.sc (.string r'.2.text), .sc (.int .i64 r'.2.at_), .sc (.bool r'.2.bad)])] := by
  have H' := And.intro t3 (And.intro t4 (And.intro t9 (t62)))
  unfold impl_scanner_take at h0'
  refine Fn.start (fn := f60) (N := 49) (res := [.tmp 4]) rfl rfl rfl rfl rfl (by simp) ?_
  refine enterG H' ?_
  refine wpV_seq1 ?_
  refine wpV_region ?_
  refine ops H' ?_
  refine opsN ?_
  refine wpV_seq1 ?_
  refine wpV_seq1 ?_
  refine regQ ?_
  refine ops H' ?_
  obtain ⟨b, gh0', h0'⟩ := Option.bind_eq_some_iff.1 h0'
  refine quV_cut 13 (fun e' => e' = { N := 49, np := 2, nx := 2, sl := [(0, .pl (.one (.ref 0 []))), (1, .pl (.one (.v (.sc (.int .i64 n))))), (22, .pl (.one (.v (.sc (.bool b)))))], ob := [(0, .box true [.sc (.string s.text), .sc (.int .i64 s.at_), .sc (.bool s.bad)])] }) ?_ ?_
  · simp only [List.take_succ_cons, List.take_zero]
    refine quV_sp (fun hc' => ?_) (fun hc' => ?_)
    · replace gh0' := (ifF hc').symm.trans gh0'
      refine ops H' ?_
      obtain rfl := Option.some.inj gh0'
      refine quV_nil ?_
      exact ⟨rfl, shd [0, 1, 22] [(0, 0)] 2 rfl⟩
    · replace gh0' := (ifT hc').symm.trans gh0'
      refine ops H' ?_
      obtain rfl := Option.some.inj gh0'
      refine quV_nil ?_
      exact ⟨rfl, shd [0, 1, 22] [(0, 0)] 2 rfl⟩
  · rintro e' rfl
    simp only [List.drop_succ_cons, List.drop_zero]
    refine quN ?_
    refine wpV_split (fun hc' => ?_) (fun hc' => ?_)
    · replace h0' := (ifT hc').symm.trans h0'
      refine wpV_seq1 ?_
      refine wpV_region ?_
      refine ops H' ?_
      refine opsN ?_
      refine wpV_seq1 ?_
      refine wpV_region ?_
      refine ops H' ?_
      refine opsN ?_
      refine retN ?_
      obtain rfl := Option.some.inj h0'
      exact outG H' rfl rfl
    · replace h0' := (ifF hc').symm.trans h0'
      refine skipN ?_
      refine wpV_seq1 ?_
      refine wpV_region ?_
      refine ops H' ?_
      refine opsN ?_
      refine wpV_seq1 ?_
      refine regQ ?_
      obtain ⟨x48, hv', h0'⟩ := Option.bind_eq_some_iff.1 h0'
      have H' := And.intro (sub2_f hv') H'
      refine ops H' ?_
      refine quN ?_
      refine retN ?_
      obtain rfl := Option.some.inj h0'
      exact outG H' rfl rfl
theorem W_impl_scanner_mark (s : T_impl_scanner) (mark : ByteArray) (r' : T_impl_scanner) (h0' : impl_scanner_mark s mark = some r') : Fn X 35 [.one (.box true [.sc (.string s.text), .sc (.int .i64 s.at_), .sc (.bool s.bad)]), .one (.sc (.string mark))] [] [(0, .box true [.sc (.string r'.text), .sc (.int .i64 r'.at_), .sc (.bool r'.bad)])] := by
  have H' := And.intro t4 (And.intro t9 (t62))
  unfold impl_scanner_mark at h0'
  refine Fn.start (fn := f35) (N := 13) (res := []) rfl rfl rfl rfl rfl (by simp) ?_
  refine enterG H' ?_
  refine wpV_seq1 ?_
  refine wpV_region ?_
  refine ops H' ?_
  obtain ⟨x7, hy', h0'⟩ := Option.bind_eq_some_iff.1 h0'
  refine callG H' (fun _ => [0]) (W_impl_scanner_take _ _ _ hy') ?_
  refine ops H' ?_
  refine opsN ?_
  refine wpV_split (fun hc' => ?_) (fun hc' => ?_)
  · replace h0' := (ifT hc').symm.trans h0'
    refine wpV_region ?_
    refine ops H' ?_
    refine opsN ?_
    obtain rfl := Option.some.inj h0'
    exact outN H' rfl rfl
  · replace h0' := (ifF hc').symm.trans h0'
    refine skipN ?_
    obtain rfl := Option.some.inj h0'
    exact outN H' rfl rfl
theorem W_impl_ReadVar (text : ByteArray) (at_ : Int) (r' : Int × Int × Bool) (h0' : impl_ReadVar text at_ = some r') : Fn X 70 [.one (.sc (.string text)), .one (.sc (.int .i64 at_))] [.one (.sc (.int .i64 r'.1)), .one (.sc (.int .i64 r'.2.1)), .one (.sc (.bool r'.2.2))] [] := by
  have H' := And.intro t3 (And.intro t5 (t9))
  unfold impl_ReadVar at h0'
  refine Fn.start (fn := f70) (N := 62) (res := [.tmp 4, .tmp 5, .tmp 6]) rfl rfl rfl rfl rfl (by simp) ?_
  refine enterG H' ?_
  refine wpV_seq1 ?_
  refine wpV_region ?_
  refine ops H' ?_
  refine opsN ?_
  refine wpV_seq1 ?_
  refine wpV_seq1 ?_
  refine wpV_region ?_
  refine ops H' ?_
  obtain ⟨b, gh0', h0'⟩ := Option.bind_eq_some_iff.1 h0'
  refine opsV_cut 5 (fun e' => e' = { N := 62, np := 2, nx := 2, sl := [(0, .pl (.one (.v (.sc (.string text))))), (1, .pl (.one (.v (.sc (.int .i64 at_))))), (18, .pl (.one (.v (.sc (.bool b)))))], ob := [] }) ?_ ?_
  · simp only [List.take_succ_cons, List.take_zero]
    refine opsV_sp (fun hc' => ?_) (fun hc' => ?_)
    · replace gh0' := (ifF hc').symm.trans gh0'
      refine ops H' ?_
      obtain rfl := Option.some.inj gh0'
      refine opsV_nil ?_
      exact ⟨rfl, shd [0, 1, 18] [] 2 rfl⟩
    · replace gh0' := (ifT hc').symm.trans gh0'
      refine ops H' ?_
      obtain rfl := Option.some.inj gh0'
      refine opsV_nil ?_
      exact ⟨rfl, shd [0, 1, 18] [] 2 rfl⟩
  · rintro e' rfl
    simp only [List.drop_succ_cons, List.drop_zero]
    refine opsN ?_
    refine wpV_split (fun hc' => ?_) (fun hc' => ?_)
    · replace h0' := (ifT hc').symm.trans h0'
      refine wpV_seq1 ?_
      refine wpV_region ?_
      refine ops H' ?_
      refine opsN ?_
      refine retN ?_
      obtain rfl := Option.some.inj h0'
      exact outG H' rfl rfl
    · replace h0' := (ifF hc').symm.trans h0'
      refine skipN ?_
      refine wpV_seq1 ?_
      refine wpV_region ?_
      refine ops H' ?_
      refine opsN ?_
      refine wpV_seqJ (fun e' => impl_ReadVar_j1 = some r' ∧ e' = { N := 62, np := 2, nx := 2, sl := [], ob := [] }) ?_ ?_
      · refine wpV_seq1 ?_
        refine wpV_region ?_
        refine ops H' ?_
        refine opsN ?_
        obtain ⟨p, hl', h0'⟩ := Option.bind_eq_some_iff.1 h0'
        refine wpV_block ?_
        refine wpV_loopM (fun s' e' => ∃ n unit i, s' = (n, unit, i) ∧ e' = { N := 62, np := 2, nx := 2, sl := [(0, .pl (.one (.v (.sc (.string text))))), (1, .pl (.one (.v (.sc (.int .i64 at_))))), (7, .pl (.one (.v (.sc (.int .i64 n))))), (8, .pl (.one (.v (.sc (.int .i64 unit))))), (9, .pl (.one (.v (.sc (.int .i64 i)))))], ob := [] }) hl' (shd [0, 1, 7, 8, 9] [] 2 ⟨_, _, _, rfl, rfl⟩) ?_
        rintro s' y1' e' h1' ⟨n, unit, i, rfl, rfl⟩
        replace h1' : impl_ReadVar_l1 text at_ n unit i = some y1' := h1'
        unfold impl_ReadVar_l1 at h1'
        refine wpV_seq1 ?_
        refine wpV_seq1 ?_
        refine wpV_region ?_
        refine ops H' ?_
        obtain ⟨b_1, gh1', h1'⟩ := Option.bind_eq_some_iff.1 h1'
        refine opsV_cut 7 (fun e' => e' = { N := 62, np := 2, nx := 2, sl := [(0, .pl (.one (.v (.sc (.string text))))), (1, .pl (.one (.v (.sc (.int .i64 at_))))), (7, .pl (.one (.v (.sc (.int .i64 n))))), (8, .pl (.one (.v (.sc (.int .i64 unit))))), (9, .pl (.one (.v (.sc (.int .i64 i))))), (28, .pl (.one (.v (.sc (.bool b_1)))))], ob := [] }) ?_ ?_
        · simp only [List.take_succ_cons, List.take_zero]
          refine opsV_sp (fun hc' => ?_) (fun hc' => ?_)
          · replace gh1' := (ifT hc').symm.trans gh1'
            refine ops H' ?_
            obtain rfl := Option.some.inj gh1'
            refine opsV_nil ?_
            exact ⟨rfl, shd [0, 1, 7, 8, 9, 28] [] 2 rfl⟩
          · replace gh1' := (ifF hc').symm.trans gh1'
            refine ops H' ?_
            obtain rfl := Option.some.inj gh1'
            refine opsV_nil ?_
            exact ⟨rfl, shd [0, 1, 7, 8, 9, 28] [] 2 rfl⟩
        · rintro e' rfl
          simp only [List.drop_succ_cons, List.drop_zero]
          refine opsN ?_
          refine wpV_split (fun hc' => ?_) (fun hc' => ?_)
          · replace h1' := (ifT hc').symm.trans h1'
            refine skipN ?_
            refine wpV_seq1 ?_
            refine wpV_block ?_
            refine wpV_seq1 ?_
            refine wpV_region ?_
            obtain ⟨x35, hv', h1'⟩ := Option.bind_eq_some_iff.1 h1'
            have H' := And.intro (sidx_f hv') H'
            refine ops H' ?_
            refine opsN ?_
            refine wpV_seq1 ?_
            refine wpV_region ?_
            refine ops H' ?_
            refine opsN ?_
            refine wpV_seq1 ?_
            refine wpV_region ?_
            refine ops H' ?_
            refine opsN ?_
            refine wpV_seq1 ?_
            refine wpV_seq1 ?_
            refine wpV_region ?_
            refine ops H' ?_
            refine opsN ?_
            refine wpV_split (fun hc' => ?_) (fun hc' => ?_)
            · replace h1' := (ifT hc').symm.trans h1'
              refine exitN ?_
              refine wpV_region ?_
              refine ops H' ?_
              refine opsN ?_
              obtain rfl := Option.some.inj h1'
              exact shd [0, 1, 7, 8, 9] [] 2 ⟨_, rfl, _, _, _, rfl, rfl⟩
            · replace h1' := (ifF hc').symm.trans h1'
              refine skipN ?_
              refine wpV_seq1 ?_
              refine wpV_seq1 ?_
              refine wpV_region ?_
              refine ops H' ?_
              obtain ⟨b_2, gh1', h1'⟩ := Option.bind_eq_some_iff.1 h1'
              refine opsV_cut 3 (fun e' => e' = { N := 62, np := 2, nx := 2, sl := [(1, .pl (.one (.v (.sc (.int .i64 at_))))), (7, .pl (.one (.v (.sc (.int .i64 (wk .i64 (n + (wk .i64 (((wk .i64 x35).tmod 128) * unit))))))))), (9, .pl (.one (.v (.sc (.int .i64 i))))), (52, .pl (.one (.v (.sc (.bool b_2)))))], ob := [] }) ?_ ?_
              · simp only [List.take_succ_cons, List.take_zero]
                refine opsV_sp (fun hc' => ?_) (fun hc' => ?_)
                · replace gh1' := (ifT hc').symm.trans gh1'
                  refine ops H' ?_
                  obtain rfl := Option.some.inj gh1'
                  refine opsV_nil ?_
                  exact ⟨rfl, shd [1, 7, 9, 52] [] 2 rfl⟩
                · replace gh1' := (ifF hc').symm.trans gh1'
                  refine ops H' ?_
                  obtain rfl := Option.some.inj gh1'
                  refine opsV_nil ?_
                  exact ⟨rfl, shd [1, 7, 9, 52] [] 2 rfl⟩
              · rintro e' rfl
                simp only [List.drop_succ_cons, List.drop_zero]
                refine ops H' ?_
                obtain ⟨b_3, gh1', h1'⟩ := Option.bind_eq_some_iff.1 h1'
                refine opsV_cut 3 (fun e' => e' = { N := 62, np := 2, nx := 2, sl := [(1, .pl (.one (.v (.sc (.int .i64 at_))))), (7, .pl (.one (.v (.sc (.int .i64 (wk .i64 (n + (wk .i64 (((wk .i64 x35).tmod 128) * unit))))))))), (9, .pl (.one (.v (.sc (.int .i64 i))))), (56, .pl (.one (.v (.sc (.bool b_3)))))], ob := [] }) ?_ ?_
                · simp only [List.take_succ_cons, List.take_zero]
                  refine opsV_sp (fun hc' => ?_) (fun hc' => ?_)
                  · replace gh1' := (ifF hc').symm.trans gh1'
                    refine ops H' ?_
                    obtain rfl := Option.some.inj gh1'
                    refine opsV_nil ?_
                    exact ⟨rfl, shd [1, 7, 9, 56] [] 2 rfl⟩
                  · replace gh1' := (ifT hc').symm.trans gh1'
                    refine ops H' ?_
                    obtain rfl := Option.some.inj gh1'
                    refine opsV_nil ?_
                    exact ⟨rfl, shd [1, 7, 9, 56] [] 2 rfl⟩
                · rintro e' rfl
                  simp only [List.drop_succ_cons, List.drop_zero]
                  refine opsN ?_
                  refine wpV_split (fun hc' => ?_) (fun hc' => ?_)
                  · replace h1' := (ifT hc').symm.trans h1'
                    refine wpV_seq1 ?_
                    refine wpV_region ?_
                    refine ops H' ?_
                    refine opsN ?_
                    refine retN ?_
                    obtain rfl := Option.some.inj h1'
                    refine ⟨_, rfl, fun hr' => ?_⟩
                    subst hr'
                    obtain rfl := Option.some.inj h0'
                    exact outG H' rfl rfl
                  · replace h1' := (ifF hc').symm.trans h1'
                    refine skipN ?_
                    refine wpV_seq1 ?_
                    refine wpV_region ?_
                    refine ops H' ?_
                    refine opsN ?_
                    refine retN ?_
                    obtain rfl := Option.some.inj h1'
                    refine ⟨_, rfl, fun hr' => ?_⟩
                    subst hr'
                    obtain rfl := Option.some.inj h0'
                    exact outG H' rfl rfl
          · replace h1' := (ifF hc').symm.trans h1'
            refine exitN ?_
            obtain rfl := Option.some.inj h1'
            refine ⟨_, rfl, fun hr' => ?_⟩
            subst hr'
            exact shd [] [] 2 ⟨h0', rfl⟩
      · rintro e' ⟨h0', rfl⟩
        unfold impl_ReadVar_j1 at h0'
        refine wpV_seq1 ?_
        refine wpV_region ?_
        refine ops H' ?_
        refine opsN ?_
        refine retN ?_
        obtain rfl := Option.some.inj h0'
        exact outG H' rfl rfl
theorem W_impl_scanner_number (s : T_impl_scanner) (r' : Int × T_impl_scanner) (h0' : impl_scanner_number s = some r') : Fn X 61 [.one (.box true [.sc (.string s.text), .sc (.int .i64 s.at_), .sc (.bool s.bad)])] [.one (.sc (.int .i64 r'.1))] [(0, .box true [.sc (.string r'.2.text), .sc (.int .i64 r'.2.at_), .sc (.bool r'.2.bad)])] := by
  have H' := And.intro t3 (And.intro t4 (And.intro t9 (t62)))
  unfold impl_scanner_number at h0'
  refine Fn.start (fn := f61) (N := 35) (res := [.tmp 2]) rfl rfl rfl rfl rfl (by simp) ?_
  refine enterG H' ?_
  refine wpV_seq1 ?_
  refine wpV_region ?_
  refine ops H' ?_
  refine opsN ?_
  refine wpV_seq1 ?_
  refine regQ ?_
  refine ops H' ?_
  obtain ⟨x15, hy', h0'⟩ := Option.bind_eq_some_iff.1 h0'
  refine callGQT H' [(.int .i64 x15.1), (.int .i64 x15.2.1), (.bool x15.2.2)] (W_impl_ReadVar _ _ _ hy') ?_
  refine ops H' ?_
  refine quN ?_
  refine wpV_seq1 ?_
  refine wpV_seq1 ?_
  refine wpV_region ?_
  refine ops H' ?_
  obtain ⟨b, gh0', h0'⟩ := Option.bind_eq_some_iff.1 h0'
  refine opsV_cut 3 (fun e' => e' = { N := 35, np := 1, nx := 1, sl := [(0, .pl (.one (.ref 0 []))), (3, .pl (.one (.v (.sc (.int .i64 x15.1))))), (4, .pl (.one (.v (.sc (.int .i64 x15.2.1))))), (26, .pl (.one (.v (.sc (.bool b)))))], ob := [(0, .box true [.sc (.string s.text), .sc (.int .i64 s.at_), .sc (.bool s.bad)])] }) ?_ ?_
  · simp only [List.take_succ_cons, List.take_zero]
    refine opsV_sp (fun hc' => ?_) (fun hc' => ?_)
    · replace gh0' := (ifF hc').symm.trans gh0'
      refine ops H' ?_
      obtain rfl := Option.some.inj gh0'
      refine opsV_nil ?_
      exact ⟨rfl, shd [0, 3, 4, 26] [(0, 0)] 1 rfl⟩
    · replace gh0' := (ifT hc').symm.trans gh0'
      refine ops H' ?_
      obtain rfl := Option.some.inj gh0'
      refine opsV_nil ?_
      exact ⟨rfl, shd [0, 3, 4, 26] [(0, 0)] 1 rfl⟩
  · rintro e' rfl
    simp only [List.drop_succ_cons, List.drop_zero]
    refine opsN ?_
    refine wpV_split (fun hc' => ?_) (fun hc' => ?_)
    · replace h0' := (ifT hc').symm.trans h0'
      refine wpV_seq1 ?_
      refine wpV_region ?_
      refine ops H' ?_
      refine opsN ?_
      refine wpV_seq1 ?_
      refine wpV_region ?_
      refine ops H' ?_
      refine opsN ?_
      refine retN ?_
      obtain rfl := Option.some.inj h0'
      exact outG H' rfl rfl
    · replace h0' := (ifF hc').symm.trans h0'
      refine skipN ?_
      refine wpV_seq1 ?_
      refine wpV_region ?_
      refine ops H' ?_
      refine opsN ?_
      refine wpV_seq1 ?_
      refine wpV_region ?_
      refine ops H' ?_
      refine opsN ?_
      refine retN ?_
      obtain rfl := Option.some.inj h0'
      exact outG H' rfl rfl
theorem W_impl_scanner_count (s : T_impl_scanner) (most : Int) (r' : Int × T_impl_scanner) (h0' : impl_scanner_count s most = some r') : Fn X 36 [.one (.box true [.sc (.string s.text), .sc (.int .i64 s.at_), .sc (.bool s.bad)]), .one (.sc (.int .i64 most))] [.one (.sc (.int .i64 r'.1))] [(0, .box true [.sc (.string r'.2.text), .sc (.int .i64 r'.2.at_), .sc (.bool r'.2.bad)])] := by
  have H' := And.intro t3 (And.intro t4 (t62))
  unfold impl_scanner_count at h0'
  refine Fn.start (fn := f36) (N := 15) (res := [.tmp 4]) rfl rfl rfl rfl rfl (by simp) ?_
  refine enterG H' ?_
  refine wpV_seq1 ?_
  refine wpV_region ?_
  refine ops H' ?_
  refine opsN ?_
  refine wpV_seq1 ?_
  refine wpV_region ?_
  refine ops H' ?_
  obtain ⟨x7, hy', h0'⟩ := Option.bind_eq_some_iff.1 h0'
  refine callG H' (fun _ => [0]) (W_impl_scanner_number _ _ hy') ?_
  refine ops H' ?_
  refine opsN ?_
  refine wpV_seq1 ?_
  refine wpV_seq1 ?_
  refine wpV_region ?_
  refine ops H' ?_
  refine opsN ?_
  refine wpV_split (fun hc' => ?_) (fun hc' => ?_)
  · replace h0' := (ifT hc').symm.trans h0'
    refine wpV_seq1 ?_
    refine wpV_region ?_
    refine ops H' ?_
    refine opsN ?_
    refine wpV_seq1 ?_
    refine wpV_region ?_
    refine ops H' ?_
    refine opsN ?_
    refine retN ?_
    obtain rfl := Option.some.inj h0'
    exact outG H' rfl rfl
  · replace h0' := (ifF hc').symm.trans h0'
    refine skipN ?_
    refine wpV_seq1 ?_
    refine wpV_region ?_
    refine ops H' ?_
    refine opsN ?_
    refine retN ?_
    obtain rfl := Option.some.inj h0'
    exact outG H' rfl rfl
theorem W_impl_scanner_short (s : T_impl_scanner) (r' : ByteArray × T_impl_scanner) (h0' : impl_scanner_short s = some r') : Fn X 37 [.one (.box true [.sc (.string s.text), .sc (.int .i64 s.at_), .sc (.bool s.bad)])] [.one (.sc (.string r'.1))] [(0, .box true [.sc (.string r'.2.text), .sc (.int .i64 r'.2.at_), .sc (.bool r'.2.bad)])] := by
  have H' := And.intro t3 (And.intro t4 (t62))
  unfold impl_scanner_short at h0'
  refine Fn.start (fn := f37) (N := 14) (res := [.tmp 2]) rfl rfl rfl rfl rfl (by simp) ?_
  refine enterG H' ?_
  refine wpV_seq1 ?_
  refine wpV_region ?_
  refine ops H' ?_
  refine opsN ?_
  refine wpV_seq1 ?_
  refine wpV_region ?_
  refine ops H' ?_
  obtain ⟨x5, hy', h0'⟩ := Option.bind_eq_some_iff.1 h0'
  refine callG H' (fun _ => [0]) (W_impl_scanner_number _ _ hy') ?_
  refine ops H' ?_
  refine opsN ?_
  refine wpV_seqJ (fun e' => ∃ s_1, impl_scanner_short_j1 x5 s_1 = some r' ∧ e' = { N := 14, np := 1, nx := 1, sl := [(0, .pl (.one (.ref 0 []))), (3, .pl (.one (.v (.sc (.int .i64 x5.1)))))], ob := [(0, .box true [.sc (.string x5.2.text), .sc (.int .i64 x5.2.at_), .sc (.bool s_1)])] }) ?_ ?_
  · refine wpV_seq1 ?_
    refine wpV_region ?_
    refine ops H' ?_
    refine opsN ?_
    refine wpV_split (fun hc' => ?_) (fun hc' => ?_)
    · replace h0' := (ifT hc').symm.trans h0'
      refine wpV_region ?_
      refine ops H' ?_
      refine opsN ?_
      exact shd [0, 3] [(0, 0)] 1 ⟨_, h0', rfl⟩
    · replace h0' := (ifF hc').symm.trans h0'
      refine skipN ?_
      exact shd [0, 3] [(0, 0)] 1 ⟨_, h0', rfl⟩
  · rintro e' ⟨s_1, h0', rfl⟩
    unfold impl_scanner_short_j1 at h0'
    refine wpV_seq1 ?_
    refine wpV_region ?_
    refine ops H' ?_
    obtain ⟨x13, hy', h0'⟩ := Option.bind_eq_some_iff.1 h0'
    refine callG H' (fun _ => [0]) (W_impl_scanner_take _ _ _ hy') ?_
    refine ops H' ?_
    refine opsN ?_
    refine retN ?_
    obtain rfl := Option.some.inj h0'
    exact outG H' rfl rfl
theorem W_impl_scanner_done (s : T_impl_scanner) (r' : Bool) (h0' : impl_scanner_done s = some r') : Fn X 38 [.one (.box false [.sc (.string s.text), .sc (.int .i64 s.at_), .sc (.bool s.bad)])] [.one (.sc (.bool r'))] [] := by
  have H' := And.intro t3 (And.intro t4 (And.intro t9 (t62)))
  unfold impl_scanner_done at h0'
  refine Fn.start (fn := f38) (N := 20) (res := [.tmp 2]) rfl rfl rfl rfl rfl (by simp) ?_
  refine enterG H' ?_
  refine wpV_seq1 ?_
  refine wpV_region ?_
  refine ops H' ?_
  refine opsN ?_
  refine wpV_seq1 ?_
  refine regQ ?_
  refine ops H' ?_
  obtain ⟨b, gh0', h0'⟩ := Option.bind_eq_some_iff.1 h0'
  refine quV_cut 11 (fun e' => e' = { N := 20, np := 1, nx := 1, sl := [(19, .pl (.one (.v (.sc (.bool b)))))], ob := [] }) ?_ ?_
  · simp only [List.take_succ_cons, List.take_zero]
    refine quV_sp (fun hc' => ?_) (fun hc' => ?_)
    · replace gh0' := (ifT hc').symm.trans gh0'
      refine ops H' ?_
      obtain rfl := Option.some.inj gh0'
      refine quV_nil ?_
      exact ⟨rfl, shd [19] [] 1 rfl⟩
    · replace gh0' := (ifF hc').symm.trans gh0'
      refine ops H' ?_
      obtain rfl := Option.some.inj gh0'
      refine quV_nil ?_
      exact ⟨rfl, shd [19] [] 1 rfl⟩
  · rintro e' rfl
    simp only [List.drop_succ_cons, List.drop_zero]
    refine ops H' ?_
    refine quN ?_
    refine retN ?_
    obtain rfl := Option.some.inj h0'
    exact outG H' rfl rfl
theorem W_impl_ReadIntent (text : ByteArray) (r' : (List ByteArray) × Bool) (h0' : impl_ReadIntent text = some r') : Fn X 12 [.one (.sc (.string text))] [.one (.list true 1 (List.map rS r'.1)), .one (.sc (.bool r'.2))] [] := by
  have H' := And.intro t3 (And.intro t4 (And.intro t9 (And.intro t22 (And.intro t62 (R_s)))))
  unfold impl_ReadIntent at h0'
  refine Fn.start (fn := f12) (N := 36) (res := [.tmp 2, .tmp 3]) rfl rfl rfl rfl rfl (by simp) ?_
  refine enterG H' ?_
  refine wpV_seq1 ?_
  refine wpV_region ?_
  refine ops H' ?_
  refine opsN ?_
  refine wpV_seq1 ?_
  refine wpV_region ?_
  refine ops H' ?_
  obtain ⟨x11, hy', h0'⟩ := Option.bind_eq_some_iff.1 h0'
  refine callG H' (fun _ => []) (W_impl_Unsealed _ _ hy') ?_
  refine ops H' ?_
  refine opsN ?_
  refine wpV_seq1 ?_
  refine wpV_region ?_
  refine ops H' ?_
  refine opsN ?_
  refine wpV_seq1 ?_
  refine wpV_region ?_
  obtain ⟨x18, hy', h0'⟩ := Option.bind_eq_some_iff.1 h0'
  refine callG H' (fun _ => [0]) (W_impl_scanner_mark _ _ _ hy') ?_
  refine opsN ?_
  refine wpV_seq1 ?_
  refine wpV_region ?_
  refine ops H' ?_
  refine opsN ?_
  refine wpV_seqJ (fun e' => ∃ s s_1 s_2 names, impl_ReadIntent_j1 s s_1 s_2 names = some r' ∧ e' = { N := 36, np := 1, nx := 3, sl := [(6, .pl (.one (.ref 1 []))), (7, .pl (.one (.ref 2 [])))], ob := [(1, .box true [.sc (.string s), .sc (.int .i64 s_1), .sc (.bool s_2)]), (2, .list true 1 (List.map rS names))] }) ?_ ?_
  · refine wpV_seq1 ?_
    refine wpV_region ?_
    obtain ⟨x19, hy', h0'⟩ := Option.bind_eq_some_iff.1 h0'
    refine callG H' (fun _ => [0]) (W_impl_scanner_count _ _ _ hy') ?_
    refine ops H' ?_
    refine opsN ?_
    obtain ⟨p, hl', h0'⟩ := Option.bind_eq_some_iff.1 h0'
    refine wpV_block ?_
    refine wpV_loopM (fun s' e' => ∃ x20 s_3 s_4 s_5 names_1, s' = (x20, s_3, s_4, s_5, names_1) ∧ e' = { N := 36, np := 1, nx := 3, sl := [(6, .pl (.one (.ref 1 []))), (7, .pl (.one (.ref 2 []))), (19, .pl (.one (.v (.sc (.int .i64 x19.1))))), (20, .pl (.one (.v (.sc (.int .i64 x20)))))], ob := [(1, .box true [.sc (.string s_3), .sc (.int .i64 s_4), .sc (.bool s_5)]), (2, .list true 1 (List.map rS names_1))] }) hl' (shd [6, 7, 19, 20] [(4, 1), (5, 2)] 3 ⟨_, _, _, _, _, rfl, rfl⟩) ?_
    rintro s' y1' e' h1' ⟨x20, s_3, s_4, s_5, names_1, rfl, rfl⟩
    replace h1' : impl_ReadIntent_l1 x19 x20 s_3 s_4 s_5 names_1 = some y1' := h1'
    unfold impl_ReadIntent_l1 at h1'
    refine wpV_seq1 ?_
    refine wpV_region ?_
    refine ops H' ?_
    refine opsN ?_
    refine wpV_seq1 ?_
    refine wpV_split (fun hc' => ?_) (fun hc' => ?_)
    · replace h1' := (ifT hc').symm.trans h1'
      refine skipN ?_
      refine wpV_seq1 ?_
      refine wpV_block ?_
      refine wpV_seq1 ?_
      refine wpV_region ?_
      obtain ⟨x22, hy', h1'⟩ := Option.bind_eq_some_iff.1 h1'
      refine callG H' (fun _ => [0]) (W_impl_scanner_short _ _ hy') ?_
      refine ops H' ?_
      refine opsN ?_
      refine wpV_region ?_
      obtain ⟨l, hv', h1'⟩ := Option.bind_eq_some_iff.1 h1'
      have H' := And.intro (app1_f hv') H'
      refine ops H' ?_
      refine opsN ?_
      refine wpV_region ?_
      refine ops H' ?_
      refine opsN ?_
      obtain rfl := Option.some.inj h1'
      exact shd [6, 7, 19, 20] [(1, 1), (2, 2)] 3 ⟨_, rfl, _, _, _, _, _, rfl, rfl⟩
    · replace h1' := (ifF hc').symm.trans h1'
      refine exitN ?_
      obtain rfl := Option.some.inj h1'
      refine ⟨_, rfl, fun hr' => ?_⟩
      subst hr'
      exact shd [6, 7] [(1, 1), (2, 2)] 3 ⟨_, _, _, _, h0', rfl⟩
  · rintro e' ⟨s, s_1, s_2, names, h0', rfl⟩
    unfold impl_ReadIntent_j1 at h0'
    refine wpV_seq1 ?_
    refine wpV_seq1 ?_
    refine wpV_region ?_
    obtain ⟨x28, hy', h0'⟩ := Option.bind_eq_some_iff.1 h0'
    refine callG H' (fun _ => []) (W_impl_scanner_done _ _ hy') ?_
    refine ops H' ?_
    obtain ⟨b, gh0', h0'⟩ := Option.bind_eq_some_iff.1 h0'
    refine opsV_cut 4 (fun e' => e' = { N := 36, np := 1, nx := 2, sl := [(7, .pl (.one (.ref 1 []))), (34, .pl (.one (.v (.sc (.bool b)))))], ob := [(1, .list true 1 (List.map rS names))] }) ?_ ?_
    · simp only [List.take_succ_cons, List.take_zero]
      refine opsV_sp (fun hc' => ?_) (fun hc' => ?_)
      · replace gh0' := (ifF hc').symm.trans gh0'
        refine ops H' ?_
        obtain ⟨x32, hy', gh0'⟩ := Option.bind_eq_some_iff.1 gh0'
        refine callG H' (fun _ => []) (W_impl_intentOk _ _ hy') ?_
        refine ops H' ?_
        obtain rfl := Option.some.inj gh0'
        refine opsV_nil ?_
        exact ⟨rfl, shd [7, 34] [(2, 1)] 2 rfl⟩
      · replace gh0' := (ifT hc').symm.trans gh0'
        refine ops H' ?_
        obtain rfl := Option.some.inj gh0'
        refine opsV_nil ?_
        exact ⟨rfl, shd [7, 34] [(2, 1)] 2 rfl⟩
    · rintro e' rfl
      simp only [List.drop_succ_cons, List.drop_zero]
      refine opsN ?_
      refine wpV_split (fun hc' => ?_) (fun hc' => ?_)
      · replace h0' := (ifT hc').symm.trans h0'
        refine wpV_seq1 ?_
        refine wpV_region ?_
        refine ops H' ?_
        refine opsN ?_
        refine retN ?_
        obtain rfl := Option.some.inj h0'
        exact outG H' rfl rfl
      · replace h0' := (ifF hc').symm.trans h0'
        refine skipN ?_
        refine wpV_seq1 ?_
        refine wpV_region ?_
        refine ops H' ?_
        refine opsN ?_
        refine retN ?_
        obtain rfl := Option.some.inj h0'
        exact outG H' rfl rfl
theorem W_laws_sameTexts (a : List ByteArray) (b : List ByteArray) (r' : Bool) (h0' : laws_sameTexts a b = some r') : Fn X 20 [.one (.list false 1 (List.map rS a)), .one (.list false 1 (List.map rS b))] [.one (.sc (.bool r'))] [] := by
  have H' := And.intro t3 (And.intro t9 (And.intro t22 (R_s)))
  unfold laws_sameTexts at h0'
  refine Fn.start (fn := f20) (N := 26) (res := [.tmp 4]) rfl rfl rfl rfl rfl (by simp) ?_
  refine enterG H' ?_
  refine wpV_seq1 ?_
  refine wpV_region ?_
  refine ops H' ?_
  refine opsN ?_
  refine wpV_seq1 ?_
  refine wpV_seq1 ?_
  refine wpV_region ?_
  refine ops H' ?_
  refine opsN ?_
  refine wpV_split (fun hc' => ?_) (fun hc' => ?_)
  · replace h0' := (ifT hc').symm.trans h0'
    refine wpV_seq1 ?_
    refine wpV_region ?_
    refine ops H' ?_
    refine opsN ?_
    refine retN ?_
    obtain rfl := Option.some.inj h0'
    exact outG H' rfl rfl
  · replace h0' := (ifF hc').symm.trans h0'
    refine skipN ?_
    refine wpV_seqJ (fun e' => laws_sameTexts_j1 = some r' ∧ e' = { N := 26, np := 2, nx := 2, sl := [], ob := [] }) ?_ ?_
    · refine wpV_seq1 ?_
      refine wpV_region ?_
      refine ops H' ?_
      refine opsN ?_
      obtain ⟨p, hl', h0'⟩ := Option.bind_eq_some_iff.1 h0'
      refine wpV_block ?_
      refine wpV_loopM (fun i e' => e' = { N := 26, np := 2, nx := 2, sl := [(0, .pl (.one (.v (.list false 1 (List.map rS a))))), (1, .pl (.one (.v (.list false 1 (List.map rS b))))), (5, .pl (.one (.v (.sc (.int .i64 i)))))], ob := [] }) hl' (shd [0, 1, 5] [] 2 rfl) ?_
      rintro i y1' e' h1' rfl
      replace h1' : laws_sameTexts_l1 a b i = some y1' := h1'
      unfold laws_sameTexts_l1 at h1'
      refine wpV_seq1 ?_
      refine wpV_seq1 ?_
      refine wpV_region ?_
      refine ops H' ?_
      refine opsN ?_
      refine wpV_split (fun hc' => ?_) (fun hc' => ?_)
      · replace h1' := (ifT hc').symm.trans h1'
        refine skipN ?_
        refine wpV_seq1 ?_
        refine wpV_block ?_
        refine wpV_seq1 ?_
        refine regQ ?_
        obtain ⟨x, hv', h1'⟩ := Option.bind_eq_some_iff.1 h1'
        have H' := And.intro (geti_f hv') H'
        obtain ⟨x_1, hv', h1'⟩ := Option.bind_eq_some_iff.1 h1'
        have H' := And.intro (geti_f hv') H'
        refine ops H' ?_
        refine quN ?_
        refine wpV_split (fun hc' => ?_) (fun hc' => ?_)
        · replace h1' := (ifT hc').symm.trans h1'
          refine wpV_seq1 ?_
          refine wpV_region ?_
          refine ops H' ?_
          refine opsN ?_
          refine retN ?_
          obtain rfl := Option.some.inj h1'
          refine ⟨_, rfl, fun hr' => ?_⟩
          subst hr'
          obtain rfl := Option.some.inj h0'
          exact outG H' rfl rfl
        · replace h1' := (ifF hc').symm.trans h1'
          refine skipN ?_
          refine wpV_region ?_
          refine ops H' ?_
          refine opsN ?_
          obtain rfl := Option.some.inj h1'
          exact shd [0, 1, 5] [] 2 ⟨_, rfl, rfl⟩
      · replace h1' := (ifF hc').symm.trans h1'
        refine exitN ?_
        obtain rfl := Option.some.inj h1'
        refine ⟨_, rfl, fun hr' => ?_⟩
        subst hr'
        exact shd [] [] 2 ⟨h0', rfl⟩
    · rintro e' ⟨h0', rfl⟩
      unfold laws_sameTexts_j1 at h0'
      refine wpV_seq1 ?_
      refine wpV_region ?_
      refine ops H' ?_
      refine opsN ?_
      refine retN ?_
      obtain rfl := Option.some.inj h0'
      exact outG H' rfl rfl
theorem W_spec_DrawPlaces (code : List Int) (r' : (List Int)) (h0' : spec_DrawPlaces code = some r') : Fn X 21 [.one (.list false 1 (List.map (rK .u8) code))] [.one (.list true 1 (List.map (rK .i64) r'))] [] := by
  have H' := And.intro t3 (And.intro t41 (And.intro R_i64 (R_u8)))
  unfold spec_DrawPlaces at h0'
  refine Fn.start (fn := f21) (N := 21) (res := [.tmp 2]) rfl rfl rfl rfl rfl (by simp) ?_
  refine enterG H' ?_
  refine wpV_seq1 ?_
  refine wpV_region ?_
  refine ops H' ?_
  refine opsN ?_
  refine wpV_seq1 ?_
  refine wpV_region ?_
  refine ops H' ?_
  obtain ⟨x7, hy', h0'⟩ := Option.bind_eq_some_iff.1 h0'
  refine callGD H' (fun _ => []) (W_spec_l01New _ _ hy') ?_
  refine ops H' ?_
  refine opsN ?_
  refine wpV_seq1 ?_
  refine wpV_region ?_
  refine ops H' ?_
  obtain ⟨x9, hy', h0'⟩ := Option.bind_eq_some_iff.1 h0'
  refine callGD H' (fun _ => [0]) (W_spec_l01Byte _ _ hy') ?_
  refine opsN ?_
  refine wpV_seq1 ?_
  refine wpV_region ?_
  refine ops H' ?_
  refine opsN ?_
  refine wpV_seqJ (fun e' => ∃ out_, spec_DrawPlaces_j1 out_ = some r' ∧ e' = { N := 21, np := 1, nx := 2, sl := [(4, .pl (.one (.ref 1 [])))], ob := [(1, .list true 1 (List.map (rK .i64) out_))] }) ?_ ?_
  · refine wpV_seq1 ?_
    refine wpV_region ?_
    refine ops H' ?_
    refine opsN ?_
    obtain ⟨p, hl', h0'⟩ := Option.bind_eq_some_iff.1 h0'
    refine wpV_block ?_
    refine wpV_loopM (fun s' e' => ∃ i c c_1 c_2 out__1, s' = (i, c, c_1, c_2, out__1) ∧ e' = { N := 21, np := 1, nx := 3, sl := [(3, .pl (.one (.ref 1 []))), (4, .pl (.one (.ref 2 []))), (5, .pl (.one (.v (.sc (.int .i64 i)))))], ob := [(1, .box true [.list false 1 (List.map (rK .u8) c), .sc (.int .i64 c_1), .sc (.int .i64 c_2)]), (2, .list true 1 (List.map (rK .i64) out__1))] }) hl' (shd [3, 4, 5] [(2, 1), (4, 2)] 3 ⟨_, _, _, _, _, rfl, rfl⟩) ?_
    rintro s' y1' e' h1' ⟨i, c, c_1, c_2, out__1, rfl, rfl⟩
    replace h1' : spec_DrawPlaces_l1 i c c_1 c_2 out__1 = some y1' := h1'
    unfold spec_DrawPlaces_l1 at h1'
    refine wpV_seq1 ?_
    refine wpV_seq1 ?_
    refine wpV_region ?_
    refine ops H' ?_
    refine opsN ?_
    refine wpV_split (fun hc' => ?_) (fun hc' => ?_)
    · replace h1' := (ifT hc').symm.trans h1'
      refine skipN ?_
      refine wpV_seq1 ?_
      refine wpV_block ?_
      refine wpV_region ?_
      refine ops H' ?_
      obtain ⟨x17, hy', h1'⟩ := Option.bind_eq_some_iff.1 h1'
      refine callGD H' (fun _ => [0]) (W_spec_l01Below _ _ _ hy') ?_
      obtain ⟨l, hv', h1'⟩ := Option.bind_eq_some_iff.1 h1'
      have H' := And.intro (app1_f hv') H'
      refine ops H' ?_
      refine opsN ?_
      refine wpV_region ?_
      refine ops H' ?_
      refine opsN ?_
      obtain rfl := Option.some.inj h1'
      exact shd [3, 4, 5] [(1, 1), (2, 2)] 3 ⟨_, rfl, _, _, _, _, _, rfl, rfl⟩
    · replace h1' := (ifF hc').symm.trans h1'
      refine exitN ?_
      obtain rfl := Option.some.inj h1'
      refine ⟨_, rfl, fun hr' => ?_⟩
      subst hr'
      exact shd [4] [(2, 1)] 2 ⟨_, h0', rfl⟩
  · rintro e' ⟨out_, h0', rfl⟩
    unfold spec_DrawPlaces_j1 at h0'
    refine wpV_seq1 ?_
    refine wpV_region ?_
    refine ops H' ?_
    refine opsN ?_
    refine retN ?_
    obtain rfl := Option.some.inj h0'
    exact outG H' rfl rfl
theorem W_laws_FnIntents (code : List Int) (r' : Bool) (h0' : laws_FnIntents code = some r') : Fn X 5 [.one (.list false 1 (List.map (rK .u8) code))] [.one (.sc (.bool r'))] [] := by
  have H' := And.intro t3 (And.intro t5 (And.intro t9 (And.intro t22 (And.intro t36 (And.intro t41 (And.intro R_i64 (And.intro R_s (R_u8))))))))
  unfold laws_FnIntents at h0'
  refine Fn.start (fn := f5) (N := 104) (res := [.tmp 2]) rfl rfl rfl rfl rfl (by simp) ?_
  refine enterG H' ?_
  refine wpV_seq1 ?_
  refine wpV_region ?_
  refine ops H' ?_
  refine opsN ?_
  refine wpV_seq1 ?_
  refine wpV_seq1 ?_
  refine wpV_region ?_
  refine ops H' ?_
  obtain ⟨x18, hy', h0'⟩ := Option.bind_eq_some_iff.1 h0'
  refine callG H' (fun _ => []) (W_laws_big _ _ hy') ?_
  refine opsN ?_
  refine wpV_split (fun hc' => ?_) (fun hc' => ?_)
  · replace h0' := (ifT hc').symm.trans h0'
    refine wpV_seq1 ?_
    refine wpV_region ?_
    refine ops H' ?_
    refine opsN ?_
    refine retN ?_
    obtain rfl := Option.some.inj h0'
    exact outG H' rfl rfl
  · replace h0' := (ifF hc').symm.trans h0'
    refine skipN ?_
    refine wpV_seq1 ?_
    refine wpV_region ?_
    refine ops H' ?_
    obtain ⟨x20, hy', h0'⟩ := Option.bind_eq_some_iff.1 h0'
    refine callG H' (fun _ => []) (W_spec_DrawIntentText _ _ hy') ?_
    refine ops H' ?_
    refine opsN ?_
    refine wpV_seq1 ?_
    refine wpV_region ?_
    refine ops H' ?_
    obtain ⟨x23, hy', h0'⟩ := Option.bind_eq_some_iff.1 h0'
    refine callG H' (fun _ => []) (W_spec_IntentText _ _ hy') ?_
    refine ops H' ?_
    refine opsN ?_
    refine wpV_seqJ (fun e' => ∃ names, laws_FnIntents_j1 code names = some r' ∧ e' = { N := 104, np := 1, nx := 2, sl := [(0, .pl (.one (.v (.list false 1 (List.map (rK .u8) code))))), (3, .pl (.one (.ref 1 [])))], ob := [(1, .list true 1 (List.map rS names))] }) ?_ ?_
    · refine wpV_seq1 ?_
      refine wpV_region ?_
      refine ops H' ?_
      refine opsN ?_
      refine wpV_split (fun hc' => ?_) (fun hc' => ?_)
      · replace h0' := (ifT hc').symm.trans h0'
        refine wpV_region ?_
        refine ops H' ?_
        refine opsN ?_
        exact shd [0, 3] [(5, 1)] 2 ⟨_, h0', rfl⟩
      · replace h0' := (ifF hc').symm.trans h0'
        refine skipN ?_
        exact shd [0, 3] [(2, 1)] 2 ⟨_, h0', rfl⟩
    · rintro e' ⟨names, h0', rfl⟩
      unfold laws_FnIntents_j1 at h0'
      refine wpV_seq1 ?_
      refine wpV_region ?_
      refine ops H' ?_
      obtain ⟨x31, hy', h0'⟩ := Option.bind_eq_some_iff.1 h0'
      refine callG H' (fun _ => []) (W_impl_IntentText _ _ hy') ?_
      refine ops H' ?_
      refine opsN ?_
      refine wpV_seq1 ?_
      refine wpV_region ?_
      refine ops H' ?_
      obtain ⟨x36, hy', h0'⟩ := Option.bind_eq_some_iff.1 h0'
      refine callG H' (fun _ => []) (W_impl_ReadIntent _ _ hy') ?_
      refine ops H' ?_
      refine opsN ?_
      refine wpV_seq1 ?_
      refine wpV_seq1 ?_
      refine wpV_region ?_
      refine ops H' ?_
      obtain ⟨b, gh0', h0'⟩ := Option.bind_eq_some_iff.1 h0'
      refine opsV_cut 3 (fun e' => e' = { N := 104, np := 1, nx := 3, sl := [(0, .pl (.one (.v (.list false 1 (List.map (rK .u8) code))))), (3, .pl (.one (.ref 1 []))), (6, .pl (.one (.v (.sc (.string x31.1))))), (8, .pl (.one (.ref 2 []))), (44, .pl (.one (.v (.sc (.bool b)))))], ob := [(1, .list true 1 (List.map rS names)), (2, .list true 1 (List.map rS x36.1))] }) ?_ ?_
      · simp only [List.take_succ_cons, List.take_zero]
        refine opsV_sp (fun hc' => ?_) (fun hc' => ?_)
        · replace gh0' := (ifF hc').symm.trans gh0'
          refine ops H' ?_
          obtain rfl := Option.some.inj gh0'
          refine opsV_nil ?_
          exact ⟨rfl, shd [0, 3, 6, 8, 44] [(1, 1), (4, 2)] 3 rfl⟩
        · replace gh0' := (ifT hc').symm.trans gh0'
          refine ops H' ?_
          obtain rfl := Option.some.inj gh0'
          refine opsV_nil ?_
          exact ⟨rfl, shd [0, 3, 6, 8, 44] [(1, 1), (4, 2)] 3 rfl⟩
      · rintro e' rfl
        simp only [List.drop_succ_cons, List.drop_zero]
        refine ops H' ?_
        obtain ⟨b_1, gh0', h0'⟩ := Option.bind_eq_some_iff.1 h0'
        refine opsV_cut 5 (fun e' => e' = { N := 104, np := 1, nx := 1, sl := [(0, .pl (.one (.v (.list false 1 (List.map (rK .u8) code))))), (6, .pl (.one (.v (.sc (.string x31.1))))), (50, .pl (.one (.v (.sc (.bool b_1)))))], ob := [] }) ?_ ?_
        · simp only [List.take_succ_cons, List.take_zero]
          refine opsV_sp (fun hc' => ?_) (fun hc' => ?_)
          · replace gh0' := (ifF hc').symm.trans gh0'
            refine ops H' ?_
            obtain ⟨x48, hy', gh0'⟩ := Option.bind_eq_some_iff.1 gh0'
            refine callG H' (fun _ => []) (W_laws_sameTexts _ _ _ hy') ?_
            refine ops H' ?_
            obtain rfl := Option.some.inj gh0'
            refine opsV_nil ?_
            exact ⟨rfl, shd [0, 6, 50] [] 1 rfl⟩
          · replace gh0' := (ifT hc').symm.trans gh0'
            refine ops H' ?_
            obtain rfl := Option.some.inj gh0'
            refine opsV_nil ?_
            exact ⟨rfl, shd [0, 6, 50] [] 1 rfl⟩
        · rintro e' rfl
          simp only [List.drop_succ_cons, List.drop_zero]
          refine ops H' ?_
          obtain ⟨b_2, gh0', h0'⟩ := Option.bind_eq_some_iff.1 h0'
          refine opsV_cut 4 (fun e' => e' = { N := 104, np := 1, nx := 1, sl := [(0, .pl (.one (.v (.list false 1 (List.map (rK .u8) code))))), (6, .pl (.one (.v (.sc (.string x31.1))))), (55, .pl (.one (.v (.sc (.bool b_2)))))], ob := [] }) ?_ ?_
          · simp only [List.take_succ_cons, List.take_zero]
            refine opsV_sp (fun hc' => ?_) (fun hc' => ?_)
            · replace gh0' := (ifF hc').symm.trans gh0'
              refine ops H' ?_
              obtain rfl := Option.some.inj gh0'
              refine opsV_nil ?_
              exact ⟨rfl, shd [0, 6, 55] [] 1 rfl⟩
            · replace gh0' := (ifT hc').symm.trans gh0'
              refine ops H' ?_
              obtain rfl := Option.some.inj gh0'
              refine opsV_nil ?_
              exact ⟨rfl, shd [0, 6, 55] [] 1 rfl⟩
          · rintro e' rfl
            simp only [List.drop_succ_cons, List.drop_zero]
            refine opsN ?_
            refine wpV_split (fun hc' => ?_) (fun hc' => ?_)
            · replace h0' := (ifT hc').symm.trans h0'
              refine wpV_seq1 ?_
              refine wpV_region ?_
              refine ops H' ?_
              refine opsN ?_
              refine retN ?_
              obtain rfl := Option.some.inj h0'
              exact outG H' rfl rfl
            · replace h0' := (ifF hc').symm.trans h0'
              refine skipN ?_
              refine wpV_seq1 ?_
              refine wpV_region ?_
              refine ops H' ?_
              obtain ⟨x57, hy', h0'⟩ := Option.bind_eq_some_iff.1 h0'
              refine callG H' (fun _ => []) (W_spec_DrawPlaces _ _ hy') ?_
              refine ops H' ?_
              refine opsN ?_
              refine wpV_seq1 ?_
              refine wpV_region ?_
              refine ops H' ?_
              refine opsN ?_
              refine wpV_seq1 ?_
              refine wpV_region ?_
              obtain ⟨x, hv', h0'⟩ := Option.bind_eq_some_iff.1 h0'
              have H' := And.intro (geti_f hv') H'
              obtain ⟨u, hv', h0'⟩ := Option.bind_eq_some_iff.1 h0'
              have H' := And.intro (chkF hv') H'
              refine ops H' ?_
              refine opsN ?_
              refine wpV_seq1 ?_
              obtain ⟨x_1, hv', h0'⟩ := Option.bind_eq_some_iff.1 h0'
              have H' := And.intro (geti_f hv') H'
              obtain ⟨x_2, hv', h0'⟩ := Option.bind_eq_some_iff.1 h0'
              have H' := And.intro (geti_f hv') H'
              refine wpV_J (fun e' => e' = { N := 104, np := 1, nx := 3, sl := [(6, .pl (.one (.v (.sc (.string x31.1))))), (10, .pl (.one (.ref 1 []))), (11, .pl (.one (.ref 2 [])))], ob := [(1, .list true 1 (List.map (rK .i64) x57)), (2, .list true 1 (List.map (rK .u8) ((bytesL x31.1).set ((x.tmod ((bytesL x31.1).length : Int)).toNat) (bits .xor .u8 x_1 (wk .u8 (wk .i64 (1 + (x_2.tmod 255))))))))] }) ?_ ?_
              · refine regAnyF [(5, 71, .pl (.one (.v (.sc (.int .u8 x_1))))), (8, 74, .pl (.one (.v (.sc (.int .i64 x_2))))), (9, 75, .pl (.one (.v (.sc (.int .i64 (x_2.tmod 255)))))), (10, 76, .pl (.one (.v (.sc (.int .i64 (wk .i64 (1 + (x_2.tmod 255)))))))), (11, 77, .pl (.one (.v (.sc (.int .u8 (wk .u8 (wk .i64 (1 + (x_2.tmod 255))))))))), (12, 78, .pl (.one (.v (.sc (.int .u8 (bits .xor .u8 x_1 (wk .u8 (wk .i64 (1 + (x_2.tmod 255))))))))))] ?_
                refine (?_ : anyF X ?ops14_0_0 _ _ ?P14_0_0 _)
                have d14_0_0_0' : anyF X ?ops14_0_0 [0, 1, 2, 3, 4, 5, 6, 7, 8, 9, 10, 11, 12, 13, 14] [] ?P14_0_0 { N := 104, np := 1, nx := 3, sl := [(6, .pl (.one (.v (.sc (.string x31.1))))), (10, .pl (.one (.ref 1 []))), (11, .pl (.one (.ref 2 [])))], ob := [(1, .list true 1 (List.map (rK .i64) x57)), (2, .list true 1 (List.map (rK .u8) ((bytesL x31.1).set ((x.tmod ((bytesL x31.1).length : Int)).toNat) (bits .xor .u8 x_1 (wk .u8 (wk .i64 (1 + (x_2.tmod 255))))))))] } := by
                  refine fend (e2 := { N := 104, np := 1, nx := 3, sl := [(6, .pl (.one (.v (.sc (.string x31.1))))), (10, .pl (.one (.ref 1 []))), (11, .pl (.one (.ref 2 [])))], ob := [(1, .list true 1 (List.map (rK .i64) x57)), (2, .list true 1 (List.map (rK .u8) ((bytesL x31.1).set ((x.tmod ((bytesL x31.1).length : Int)).toNat) (bits .xor .u8 x_1 (wk .u8 (wk .i64 (1 + (x_2.tmod 255))))))))] }) [] [] [] [] trivial ⟨rfl, shd [6, 10, 11] [(1, 1), (2, 2)] 3 rfl⟩
                have d14_0_0_1' : anyF X ?ops14_0_0 [0, 1, 2, 3, 4, 5, 6, 7, 8, 9, 10, 11, 12, 13] [] ?P14_0_0 { N := 104, np := 1, nx := 3, sl := [(6, .pl (.one (.v (.sc (.string x31.1))))), (10, .pl (.one (.ref 1 []))), (11, .pl (.one (.ref 2 []))), (78, .pl (.one (.v (.sc (.int .u8 (bits .xor .u8 x_1 (wk .u8 (wk .i64 (1 + (x_2.tmod 255)))))))))), (79, .pl (.one (.addr 2 [] 1 ((x.tmod ((bytesL x31.1).length : Int)).toNat) 0)))], ob := [(1, .list true 1 (List.map (rK .i64) x57)), (2, .list true 1 (List.map (rK .u8) (bytesL x31.1)))] } := by
                  refine fnode [] [.m 14 [] [0, 1, 2, 3, 4, 5, 6, 7, 8, 9, 10, 11, 12, 13, 14] []] [] [(14, false, [], [0, 1, 2, 3, 4, 5, 6, 7, 8, 9, 10, 11, 12, 13, 14])] ⟨?_, trivial⟩
                  · refine obM ?_
                    refine ops H' ?_
                    refine opsV_nil ⟨rfl, .inl ⟨rfl, ?_⟩⟩
                    exact anyFShd [6, 10, 11] [(1, 1), (2, 2)] 3 d14_0_0_0'
                have d14_0_0_2' : anyF X ?ops14_0_0 [0, 1, 2, 3, 4, 6, 7] [(5, 71, .pl (.one (.v (.sc (.int .u8 x_1))))), (8, 74, .pl (.one (.v (.sc (.int .i64 x_2))))), (9, 75, .pl (.one (.v (.sc (.int .i64 (x_2.tmod 255)))))), (10, 76, .pl (.one (.v (.sc (.int .i64 (wk .i64 (1 + (x_2.tmod 255)))))))), (11, 77, .pl (.one (.v (.sc (.int .u8 (wk .u8 (wk .i64 (1 + (x_2.tmod 255))))))))), (12, 78, .pl (.one (.v (.sc (.int .u8 (bits .xor .u8 x_1 (wk .u8 (wk .i64 (1 + (x_2.tmod 255))))))))))] ?P14_0_0 { N := 104, np := 1, nx := 3, sl := [(6, .pl (.one (.v (.sc (.string x31.1))))), (10, .pl (.one (.ref 1 []))), (11, .pl (.one (.ref 2 []))), (66, .pl (.one (.ref 2 []))), (67, .pl (.one (.v (.sc (.int .i64 (x.tmod ((bytesL x31.1).length : Int))))))), (70, .pl (.one (.addr 2 [] 1 ((x.tmod ((bytesL x31.1).length : Int)).toNat) 0))), (73, .pl (.one (.addr 1 [] 1 ((1 : Int).toNat) 0)))], ob := [(1, .list true 1 (List.map (rK .i64) x57)), (2, .list true 1 (List.map (rK .u8) (bytesL x31.1)))] } := by
                  refine fnode [5, 8, 9, 10, 11, 12] [.q 5 71 (.pl (.one (.v (.sc (.int .u8 x_1))))) [], .q 8 74 (.pl (.one (.v (.sc (.int .i64 x_2))))) [], .q 9 75 (.pl (.one (.v (.sc (.int .i64 (x_2.tmod 255)))))) [8], .q 10 76 (.pl (.one (.v (.sc (.int .i64 (wk .i64 (1 + (x_2.tmod 255)))))))) [9], .q 11 77 (.pl (.one (.v (.sc (.int .u8 (wk .u8 (wk .i64 (1 + (x_2.tmod 255))))))))) [10], .q 12 78 (.pl (.one (.v (.sc (.int .u8 (bits .xor .u8 x_1 (wk .u8 (wk .i64 (1 + (x_2.tmod 255)))))))))) [5, 11], .m 13 [5, 8, 9, 10, 11, 12] [0, 1, 2, 3, 4, 5, 6, 7, 8, 9, 10, 11, 12, 13] []] [(5, 71), (8, 74), (9, 75), (10, 76), (11, 77), (12, 78)] [(5, true, [], []), (8, true, [], []), (9, true, [8], []), (10, true, [9], []), (11, true, [10], []), (12, true, [5, 11], []), (13, false, [5, 8, 9, 10, 11, 12], [0, 1, 2, 3, 4, 5, 6, 7, 8, 9, 10, 11, 12, 13])] ⟨?_, ?_, ?_, ?_, ?_, ?_, ?_, trivial⟩
                  · refine obQ 0 ?_
                    refine ops H' ?_
                    refine opsV_nil ⟨rfl, shd [71, 6, 10, 11, 66, 67, 70, 73] [(1, 1), (2, 2)] 3 rfl⟩
                  · refine obQ 1 ?_
                    refine ops H' ?_
                    refine opsV_nil ⟨rfl, shd [74, 6, 10, 11, 66, 67, 70, 73] [(1, 1), (2, 2)] 3 rfl⟩
                  · refine obQ 2 ?_
                    refine ops H' ?_
                    refine opsV_nil ⟨rfl, shd [75, 6, 10, 11, 66, 67, 70, 73] [(1, 1), (2, 2)] 3 rfl⟩
                  · refine obQ 3 ?_
                    refine ops H' ?_
                    refine opsV_nil ⟨rfl, shd [76, 6, 10, 11, 66, 67, 70, 73] [(1, 1), (2, 2)] 3 rfl⟩
                  · refine obQ 4 ?_
                    refine ops H' ?_
                    refine opsV_nil ⟨rfl, shd [77, 6, 10, 11, 66, 67, 70, 73] [(1, 1), (2, 2)] 3 rfl⟩
                  · refine obQ 5 ?_
                    refine ops H' ?_
                    refine opsV_nil ⟨rfl, shd [78, 6, 10, 11, 66, 67, 70, 73] [(1, 1), (2, 2)] 3 rfl⟩
                  · refine obM ?_
                    refine ops H' ?_
                    refine opsV_nil ⟨rfl, .inl ⟨rfl, ?_⟩⟩
                    exact anyFShd [6, 10, 11, 78, 79] [(1, 1), (2, 2)] 3 d14_0_0_1'
                refine fpure H' 0 [0] [(5, 71), (8, 74), (9, 75), (10, 76), (11, 77), (12, 78)] ?_
                refine fpure H' 1 [0, 1] [(5, 71), (8, 74), (9, 75), (10, 76), (11, 77), (12, 78)] ?_
                refine fpure H' 2 [0, 1, 2] [(5, 71), (8, 74), (9, 75), (10, 76), (11, 77), (12, 78)] ?_
                refine fpure H' 3 [0, 1, 2, 3] [(5, 71), (8, 74), (9, 75), (10, 76), (11, 77), (12, 78)] ?_
                refine fpure H' 4 [0, 1, 2, 3, 4] [(5, 71), (8, 74), (9, 75), (10, 76), (11, 77), (12, 78)] ?_
                refine fpure H' 6 [0, 1, 2, 3, 4, 6] [(5, 71), (8, 74), (9, 75), (10, 76), (11, 77), (12, 78)] ?_
                refine fpure H' 7 [0, 1, 2, 3, 4, 6, 7] [(5, 71), (8, 74), (9, 75), (10, 76), (11, 77), (12, 78)] ?_
                exact anyFShd [6, 10, 11, 66, 67, 70, 73] [(1, 1), (2, 2)] 3 d14_0_0_2'
              · rintro e' rfl
                refine contN ?_
                refine wpV_seq1 ?_
                refine wpV_region ?_
                refine ops H' ?_
                obtain ⟨x83, hy', h0'⟩ := Option.bind_eq_some_iff.1 h0'
                refine callG H' (fun _ => []) (W_impl_ReadIntent _ _ hy') ?_
                refine ops H' ?_
                refine opsN ?_
                refine wpV_seq1 ?_
                refine wpV_region ?_
                obtain ⟨x_3, hv', h0'⟩ := Option.bind_eq_some_iff.1 h0'
                have H' := And.intro (geti_f hv') H'
                obtain ⟨u_1, hv', h0'⟩ := Option.bind_eq_some_iff.1 h0'
                have H' := And.intro (chkF hv') H'
                obtain ⟨x94, hv', h0'⟩ := Option.bind_eq_some_iff.1 h0'
                have H' := And.intro (subH_f hv') H'
                refine ops H' ?_
                obtain ⟨x95, hy', h0'⟩ := Option.bind_eq_some_iff.1 h0'
                refine callG H' (fun _ => []) (W_impl_ReadIntent _ _ hy') ?_
                refine ops H' ?_
                refine opsN ?_
                refine wpV_seq1 ?_
                refine wpV_region ?_
                refine ops H' ?_
                obtain ⟨b_3, gh0', h0'⟩ := Option.bind_eq_some_iff.1 h0'
                refine opsV_cut 3 (fun e' => e' = { N := 104, np := 1, nx := 1, sl := [(103, .pl (.one (.v (.sc (.bool b_3)))))], ob := [] }) ?_ ?_
                · simp only [List.take_succ_cons, List.take_zero]
                  refine opsV_sp (fun hc' => ?_) (fun hc' => ?_)
                  · replace gh0' := (ifT hc').symm.trans gh0'
                    refine ops H' ?_
                    obtain rfl := Option.some.inj gh0'
                    refine opsV_nil ?_
                    exact ⟨rfl, shd [103] [] 1 rfl⟩
                  · replace gh0' := (ifF hc').symm.trans gh0'
                    refine ops H' ?_
                    obtain rfl := Option.some.inj gh0'
                    refine opsV_nil ?_
                    exact ⟨rfl, shd [103] [] 1 rfl⟩
                · rintro e' rfl
                  simp only [List.drop_succ_cons, List.drop_zero]
                  refine ops H' ?_
                  refine opsN ?_
                  refine retN ?_
                  obtain rfl := Option.some.inj h0'
                  exact outG H' rfl rfl
end Go.TV.KFnIntents
