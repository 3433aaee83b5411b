/- Walks. -/
import Derived.Test.YtmoglghkjfjalaaKFnUndoesE
import Derived.Test.YtmoglghkjfjalaaKFnUndoesW0
import Derived.Test.YtmoglghkjfjalaaKFnUndoesW3
import Derived.Test.YtmoglghkjfjalaaKFnUndoesW5
import Derived.Test.YtmoglghkjfjalaaKFnUndoesW6
set_option linter.unusedVariables false
set_option linter.unusedSimpArgs false
set_option maxHeartbeats 8000000
set_option maxRecDepth 100000
namespace Go.TV.KFnUndoes
attribute [local irreducible] anyV wpV opsV Does thenV blockV RetL quV seqV
open Go.Proofs.Try Go.TV.F
theorem W_slices_Index_int_int (s : List Int) (v : Int) (r' : Int) (h0' : slices_Index_int_int s v = some r') : Fn X 154 [.one (.list false 1 (List.map (rK .i64) s)), .one (.sc (.int .i64 v))] [.one (.sc (.int .i64 r'))] [] := by
  have H' := And.intro t3 (And.intro t43 (R_i64))
  unfold slices_Index_int_int at h0'
  refine Fn.start (fn := f154) (N := 19) (res := [.tmp 4]) rfl rfl rfl rfl rfl (by simp) ?_
  refine enterG H' ?_
  refine wpV_seq1 ?_
  refine wpV_region ?_
  refine ops H' ?_
  refine opsN ?_
  refine wpV_seqJ (fun e' => slices_Index_int_int_j1 = some r' ∧ e' = { N := 19, np := 2, nx := 2, sl := [], ob := [] }) ?_ ?_
  · refine wpV_seq1 ?_
    refine wpV_region ?_
    refine ops H' ?_
    refine opsN ?_
    obtain ⟨p, hl', h0'⟩ := Option.bind_eq_some_iff.1 h0'
    refine wpV_block ?_
    refine wpV_loopM (fun x8 e' => e' = { N := 19, np := 2, nx := 2, sl := [(0, .pl (.one (.v (.list false 1 (List.map (rK .i64) s))))), (1, .pl (.one (.v (.sc (.int .i64 v))))), (7, .pl (.one (.v (.sc (.int .i64 (s.length : Int)))))), (8, .pl (.one (.v (.sc (.int .i64 x8)))))], ob := [] }) hl' (shd [0, 1, 7, 8] [] 2 rfl) ?_
    rintro x8 y1' e' h1' rfl
    replace h1' : slices_Index_int_int_l1 s v x8 = some y1' := h1'
    unfold slices_Index_int_int_l1 at h1'
    refine wpV_seq1 ?_
    refine wpV_region ?_
    refine ops H' ?_
    refine opsN ?_
    refine wpV_seq1 ?_
    refine wpV_split (fun hc' => ?_) (fun hc' => ?_)
    · replace h1' := (ifT hc').symm.trans h1'
      refine skipN ?_
      refine wpV_seq1 ?_
      refine wpV_block ?_
      refine wpV_seq1 ?_
      refine wpV_region ?_
      refine ops H' ?_
      refine opsN ?_
      refine wpV_seq1 ?_
      refine wpV_region ?_
      obtain ⟨x, hv', h1'⟩ := Option.bind_eq_some_iff.1 h1'
      have H' := And.intro (geti_f hv') H'
      refine ops H' ?_
      refine opsN ?_
      refine wpV_split (fun hc' => ?_) (fun hc' => ?_)
      · replace h1' := (ifT hc').symm.trans h1'
        refine wpV_seq1 ?_
        refine wpV_region ?_
        refine ops H' ?_
        refine opsN ?_
        refine retN ?_
        obtain rfl := Option.some.inj h1'
        refine ⟨_, rfl, fun hr' => ?_⟩
        subst hr'
        obtain rfl := Option.some.inj h0'
        exact outG H' rfl rfl
      · replace h1' := (ifF hc').symm.trans h1'
        refine skipN ?_
        refine wpV_region ?_
        refine ops H' ?_
        refine opsN ?_
        obtain rfl := Option.some.inj h1'
        exact shd [0, 1, 7, 8] [] 2 ⟨_, rfl, rfl⟩
    · replace h1' := (ifF hc').symm.trans h1'
      refine exitN ?_
      obtain rfl := Option.some.inj h1'
      refine ⟨_, rfl, fun hr' => ?_⟩
      subst hr'
      exact shd [] [] 2 ⟨h0', rfl⟩
  · rintro e' ⟨h0', rfl⟩
    unfold slices_Index_int_int_j1 at h0'
    refine wpV_seq1 ?_
    refine wpV_region ?_
    refine ops H' ?_
    refine opsN ?_
    refine retN ?_
    obtain rfl := Option.some.inj h0'
    exact outG H' rfl rfl
theorem W_slices_Contains_int_int (s : List Int) (v : Int) (r' : Bool) (h0' : slices_Contains_int_int s v = some r') : Fn X 126 [.one (.list false 1 (List.map (rK .i64) s)), .one (.sc (.int .i64 v))] [.one (.sc (.bool r'))] [] := by
  have H' := And.intro t3 (R_i64)
  unfold slices_Contains_int_int at h0'
  refine Fn.start (fn := f126) (N := 9) (res := [.tmp 4]) rfl rfl rfl rfl rfl (by simp) ?_
  refine enterG H' ?_
  refine wpV_seq1 ?_
  refine wpV_region ?_
  refine ops H' ?_
  refine opsN ?_
  refine wpV_seq1 ?_
  refine wpV_region ?_
  refine ops H' ?_
  obtain ⟨x7, hy', h0'⟩ := Option.bind_eq_some_iff.1 h0'
  refine callG H' (fun _ => []) (W_slices_Index_int_int _ _ _ hy') ?_
  refine ops H' ?_
  refine opsN ?_
  refine retN ?_
  obtain rfl := Option.some.inj h0'
  exact outG H' rfl rfl
theorem W_impl_Body_hasDel (b : T_impl_Body) (v : Int) (r' : Bool) (h0' : impl_Body_hasDel b v = some r') : Fn X 72 [.agg [.sc (.string b.Line), .sc (.int .i64 b.Ins), .sc (.int .i64 b.Ord), .list false 1 (List.map (rK .i64) b.Dels)], .one (.sc (.int .i64 v))] [.one (.sc (.bool r'))] [] := by
  have H' := And.intro t43 (And.intro t110 (R_i64))
  unfold impl_Body_hasDel at h0'
  refine Fn.start (fn := f72) (N := 9) (res := [.tmp 4]) rfl rfl rfl rfl rfl (by simp) ?_
  refine enterG H' ?_
  refine wpV_seq1 ?_
  refine wpV_region ?_
  refine ops H' ?_
  refine opsN ?_
  refine wpV_seq1 ?_
  refine wpV_region ?_
  refine ops H' ?_
  obtain ⟨x8, hy', h0'⟩ := Option.bind_eq_some_iff.1 h0'
  refine callG H' (fun _ => []) (W_slices_Contains_int_int _ _ _ hy') ?_
  refine ops H' ?_
  refine opsN ?_
  refine retN ?_
  obtain rfl := Option.some.inj h0'
  exact outG H' rfl rfl
theorem W_impl_PickOn_c1 (b : T_impl_Body) (c : Int) (c_1 : Int) (r' : Bool) (h0' : impl_PickOn_c1 b c c_1 = some r') : Fn X 71 [.agg [.sc (.string b.Line), .sc (.int .i64 b.Ins), .sc (.int .i64 b.Ord), .list false 1 (List.map (rK .i64) b.Dels)], .one (.box false [.sc (.int .u64 c)]), .one (.box false [.sc (.int .i64 c_1)])] [.one (.sc (.bool r'))] [] := by
  have H' := And.intro t3 (And.intro t105 (And.intro t110 (R_i64)))
  unfold impl_PickOn_c1 at h0'
  refine Fn.start (fn := f71) (N := 20) (res := [.tmp 4]) rfl rfl rfl rfl rfl (by simp) ?_
  refine enterG H' ?_
  refine wpV_seq1 ?_
  refine wpV_region ?_
  refine ops H' ?_
  refine opsN ?_
  refine wpV_seq1 ?_
  refine wpV_region ?_
  refine ops H' ?_
  obtain ⟨x7, hy', h0'⟩ := Option.bind_eq_some_iff.1 h0'
  refine callG H' (fun _ => []) (W_impl_Body_isLive _ _ _ hy') ?_
  refine ops H' ?_
  obtain ⟨b_1, gh0', h0'⟩ := Option.bind_eq_some_iff.1 h0'
  refine opsV_cut 5 (fun e' => e' = { N := 20, np := 6, nx := 7, sl := [(2, .pl (.one (.v (.box false [.sc (.int .i64 c_1)])))), (3, .pl (.one (.ref 6 []))), (13, .pl (.one (.v (.sc (.bool b_1)))))], ob := [(6, .box true [.sc (.string b.Line), .sc (.int .i64 b.Ins), .sc (.int .i64 b.Ord), .list false 1 (List.map (rK .i64) b.Dels)])] }) ?_ ?_
  · simp only [List.take_succ_cons, List.take_zero]
    refine opsV_sp (fun hc' => ?_) (fun hc' => ?_)
    · replace gh0' := (ifT hc').symm.trans gh0'
      refine ops H' ?_
      obtain ⟨x11, hy', gh0'⟩ := Option.bind_eq_some_iff.1 gh0'
      refine callG H' (fun _ => []) (W_impl_Body_hasDel _ _ _ hy') ?_
      refine ops H' ?_
      obtain rfl := Option.some.inj gh0'
      refine opsV_nil ?_
      exact ⟨rfl, shd [2, 3, 13] [(6, 6)] 7 rfl⟩
    · replace gh0' := (ifF hc').symm.trans gh0'
      refine ops H' ?_
      obtain rfl := Option.some.inj gh0'
      refine opsV_nil ?_
      exact ⟨rfl, shd [2, 3, 13] [(6, 6)] 7 rfl⟩
  · rintro e' rfl
    simp only [List.drop_succ_cons, List.drop_zero]
    refine ops H' ?_
    obtain ⟨b_2, gh0', h0'⟩ := Option.bind_eq_some_iff.1 h0'
    refine opsV_cut 5 (fun e' => e' = { N := 20, np := 6, nx := 6, sl := [(19, .pl (.one (.v (.sc (.bool b_2)))))], ob := [] }) ?_ ?_
    · simp only [List.take_succ_cons, List.take_zero]
      refine opsV_sp (fun hc' => ?_) (fun hc' => ?_)
      · replace gh0' := (ifF hc').symm.trans gh0'
        refine ops H' ?_
        obtain rfl := Option.some.inj gh0'
        refine opsV_nil ?_
        exact ⟨rfl, shd [19] [] 6 rfl⟩
      · replace gh0' := (ifT hc').symm.trans gh0'
        refine ops H' ?_
        obtain rfl := Option.some.inj gh0'
        refine opsV_nil ?_
        exact ⟨rfl, shd [19] [] 6 rfl⟩
    · rintro e' rfl
      simp only [List.drop_succ_cons, List.drop_zero]
      refine ops H' ?_
      refine opsN ?_
      refine retN ?_
      obtain rfl := Option.some.inj h0'
      exact outG H' rfl rfl
theorem W_impl_PickOn_c2 (b : T_impl_Body) (c : Int) (c_1 : Int) (r' : Bool) (h0' : impl_PickOn_c2 b c c_1 = some r') : Fn X 73 [.agg [.sc (.string b.Line), .sc (.int .i64 b.Ins), .sc (.int .i64 b.Ord), .list false 1 (List.map (rK .i64) b.Dels)], .one (.box false [.sc (.int .i64 c)]), .one (.box false [.sc (.int .u64 c_1)])] [.one (.sc (.bool r'))] [] := by
  have H' := And.intro t3 (And.intro t105 (And.intro t110 (R_i64)))
  unfold impl_PickOn_c2 at h0'
  refine Fn.start (fn := f73) (N := 14) (res := [.tmp 4]) rfl rfl rfl rfl rfl (by simp) ?_
  refine enterG H' ?_
  refine wpV_seq1 ?_
  refine wpV_region ?_
  refine ops H' ?_
  refine opsN ?_
  refine wpV_seq1 ?_
  refine wpV_region ?_
  refine ops H' ?_
  obtain ⟨x7, hy', h0'⟩ := Option.bind_eq_some_iff.1 h0'
  refine callG H' (fun _ => []) (W_impl_Body_hasDel _ _ _ hy') ?_
  refine ops H' ?_
  obtain ⟨b_1, gh0', h0'⟩ := Option.bind_eq_some_iff.1 h0'
  refine opsV_cut 5 (fun e' => e' = { N := 14, np := 6, nx := 6, sl := [(13, .pl (.one (.v (.sc (.bool b_1)))))], ob := [] }) ?_ ?_
  · simp only [List.take_succ_cons, List.take_zero]
    refine opsV_sp (fun hc' => ?_) (fun hc' => ?_)
    · replace gh0' := (ifT hc').symm.trans gh0'
      refine ops H' ?_
      obtain ⟨x11, hy', gh0'⟩ := Option.bind_eq_some_iff.1 gh0'
      refine callG H' (fun _ => []) (W_impl_Body_isLive _ _ _ hy') ?_
      refine ops H' ?_
      obtain rfl := Option.some.inj gh0'
      refine opsV_nil ?_
      exact ⟨rfl, shd [13] [] 6 rfl⟩
    · replace gh0' := (ifF hc').symm.trans gh0'
      refine ops H' ?_
      obtain rfl := Option.some.inj gh0'
      refine opsV_nil ?_
      exact ⟨rfl, shd [13] [] 6 rfl⟩
  · rintro e' rfl
    simp only [List.drop_succ_cons, List.drop_zero]
    refine ops H' ?_
    refine opsN ?_
    refine retN ?_
    obtain rfl := Option.some.inj h0'
    exact outG H' rfl rfl
theorem W_impl_PickOn (w : T_impl_Weave) (onto : Int) (v : Int) (r' : (List ByteArray) × Int × Int) (h0' : impl_PickOn w onto v = some r') : Fn X 22 [.agg [.list false 1 (List.map (rL false 1 (rK .i64)) w.Parents), .list false 4 (List.map (r_T_impl_Body false) w.Bodies)], .one (.sc (.int .i64 onto)), .one (.sc (.int .i64 v))] [.one (.list true 1 (List.map rS r'.1)), .one (.sc (.int .i64 r'.2.1)), .one (.sc (.int .i64 r'.2.2))] [] := by
  have H' := And.intro t3 (And.intro t30 (And.intro t33 (And.intro t43 (And.intro t105 (And.intro t106 (And.intro R_Li64 (And.intro R_T_impl_Body (And.intro R_i64 (And.intro R_s (R_u64))))))))))
  unfold impl_PickOn at h0'
  refine Fn.start (fn := f22) (N := 36) (res := [.tmp 6, .tmp 7, .tmp 8]) rfl rfl rfl rfl rfl (by simp) ?_
  refine enterG H' ?_
  refine wpV_seq1 ?_
  refine wpV_region ?_
  refine ops H' ?_
  refine opsN ?_
  refine wpV_seq1 ?_
  refine wpV_seq1 ?_
  refine wpV_region ?_
  refine ops H' ?_
  obtain ⟨x17, hy', h0'⟩ := Option.bind_eq_some_iff.1 h0'
  refine callG H' (fun _ => []) (W_impl_versionsCode _ _ _ hy') ?_
  refine ops H' ?_
  refine opsN ?_
  refine wpV_seq1 ?_
  refine wpV_region ?_
  refine ops H' ?_
  refine opsN ?_
  refine wpV_split (fun hc' => ?_) (fun hc' => ?_)
  · replace h0' := (ifT hc').symm.trans h0'
    refine wpV_seq1 ?_
    refine wpV_region ?_
    refine ops H' ?_
    refine opsN ?_
    refine retN ?_
    obtain rfl := Option.some.inj h0'
    exact outG H' rfl rfl
  · replace h0' := (ifF hc').symm.trans h0'
    refine skipN ?_
    refine wpV_seq1 ?_
    refine wpV_region ?_
    refine ops H' ?_
    obtain ⟨x23, hy', h0'⟩ := Option.bind_eq_some_iff.1 h0'
    refine callG H' (fun _ => []) (W_impl_closures _ _ hy') ?_
    obtain ⟨x, hv', h0'⟩ := Option.bind_eq_some_iff.1 h0'
    have H' := And.intro (geti_f hv') H'
    refine ops H' ?_
    refine opsN ?_
    refine wpV_seq1 ?_
    refine wpV_region ?_
    refine ops H' ?_
    refine opsV_frz H' 10 ?_
    refine opsV_frz H' 5 ?_
    refine opsV_mkF H' ?_
    refine opsV_mkF H' ?_
    obtain ⟨x31, hy', h0'⟩ := Option.bind_eq_some_iff.1 h0'
    refine callG H' (fun _ => []) (W_impl_pickBy__2__2 _ (fun z0' => impl_PickOn_c1 z0' x v) _ _ _ (fun z0' r' h' => W_impl_PickOn_c1 z0' _ _ r' h') (fun z0' => impl_PickOn_c2 z0' v x) _ _ _ (fun z0' r' h' => W_impl_PickOn_c2 z0' _ _ r' h') _ hy') ?_
    refine ops H' ?_
    refine opsN ?_
    refine wpV_seq1 ?_
    refine wpV_region ?_
    refine ops H' ?_
    refine opsN ?_
    refine retN ?_
    obtain rfl := Option.some.inj h0'
    exact outG H' rfl rfl
theorem W_laws_FnUndoes (code : List Int) (r' : Bool) (h0' : laws_FnUndoes code = some r') : Fn X 4 [.one (.list false 1 (List.map (rK .u8) code))] [.one (.sc (.bool r'))] [] := by
  have H' := And.intro t3 (And.intro t30 (And.intro t33 (And.intro t43 (And.intro R_Li64 (And.intro R_T_impl_Body (And.intro R_i64 (And.intro R_s (R_u8))))))))
  unfold laws_FnUndoes at h0'
  refine Fn.start (fn := f4) (N := 95) (res := [.tmp 2]) rfl rfl rfl rfl rfl (by simp) ?_
  refine enterG H' ?_
  refine wpV_seq1 ?_
  refine wpV_region ?_
  refine ops H' ?_
  refine opsN ?_
  refine wpV_seq1 ?_
  refine wpV_seq1 ?_
  refine wpV_region ?_
  refine ops H' ?_
  obtain ⟨x18, hy', h0'⟩ := Option.bind_eq_some_iff.1 h0'
  refine callG H' (fun _ => []) (W_laws_big _ _ hy') ?_
  refine opsN ?_
  refine wpV_split (fun hc' => ?_) (fun hc' => ?_)
  · replace h0' := (ifT hc').symm.trans h0'
    refine wpV_seq1 ?_
    refine wpV_region ?_
    refine ops H' ?_
    refine opsN ?_
    refine retN ?_
    obtain rfl := Option.some.inj h0'
    exact outG H' rfl rfl
  · replace h0' := (ifF hc').symm.trans h0'
    refine skipN ?_
    refine wpV_seq1 ?_
    refine wpV_region ?_
    refine ops H' ?_
    obtain ⟨x21, hy', h0'⟩ := Option.bind_eq_some_iff.1 h0'
    refine callG H' (fun _ => []) (W_spec_DrawPair _ _ hy') ?_
    refine ops H' ?_
    refine opsN ?_
    refine wpV_seq1 ?_
    refine wpV_region ?_
    refine ops H' ?_
    obtain ⟨x28, hy', h0'⟩ := Option.bind_eq_some_iff.1 h0'
    refine callG H' (fun _ => []) (W_spec_Extract _ _ _ hy') ?_
    refine ops H' ?_
    refine opsN ?_
    refine wpV_seq1 ?_
    refine wpV_region ?_
    refine ops H' ?_
    obtain ⟨x35, hy', h0'⟩ := Option.bind_eq_some_iff.1 h0'
    refine callG H' (fun _ => []) (W_impl_UndoOn _ _ _ _ hy') ?_
    refine ops H' ?_
    refine opsN ?_
    refine wpV_seq1 ?_
    refine wpV_seq1 ?_
    refine wpV_region ?_
    refine ops H' ?_
    refine opsN ?_
    refine wpV_split (fun hc' => ?_) (fun hc' => ?_)
    · replace h0' := (ifT hc').symm.trans h0'
      refine wpV_seq1 ?_
      refine wpV_region ?_
      refine ops H' ?_
      refine opsN ?_
      refine retN ?_
      obtain rfl := Option.some.inj h0'
      exact outG H' rfl rfl
    · replace h0' := (ifF hc').symm.trans h0'
      refine skipN ?_
      refine wpV_seq1 ?_
      refine wpV_seq1 ?_
      refine wpV_region ?_
      refine ops H' ?_
      obtain ⟨x45, hy', h0'⟩ := Option.bind_eq_some_iff.1 h0'
      refine callG H' (fun _ => []) (W_spec_IsAncestor _ _ _ _ hy') ?_
      refine ops H' ?_
      refine opsN ?_
      refine wpV_split (fun hc' => ?_) (fun hc' => ?_)
      · replace h0' := (ifT hc').symm.trans h0'
        refine wpV_seq1 ?_
        refine wpV_region ?_
        refine ops H' ?_
        obtain ⟨x49, hy', h0'⟩ := Option.bind_eq_some_iff.1 h0'
        refine callG H' (fun _ => []) (W_laws_sameTexts _ _ _ hy') ?_
        refine ops H' ?_
        obtain ⟨b, gh0', h0'⟩ := Option.bind_eq_some_iff.1 h0'
        refine opsV_cut 7 (fun e' => e' = { N := 95, np := 1, nx := 1, sl := [(57, .pl (.one (.v (.sc (.bool b)))))], ob := [] }) ?_ ?_
        · simp only [List.take_succ_cons, List.take_zero]
          refine opsV_sp (fun hc' => ?_) (fun hc' => ?_)
          · replace gh0' := (ifT hc').symm.trans gh0'
            refine ops H' ?_
            obtain ⟨x54, hy', gh0'⟩ := Option.bind_eq_some_iff.1 gh0'
            refine callG H' (fun _ => []) (W_spec_BornIn _ _ _ hy') ?_
            refine ops H' ?_
            obtain rfl := Option.some.inj gh0'
            refine opsV_nil ?_
            exact ⟨rfl, shd [57] [] 1 rfl⟩
          · replace gh0' := (ifF hc').symm.trans gh0'
            refine ops H' ?_
            obtain rfl := Option.some.inj gh0'
            refine opsV_nil ?_
            exact ⟨rfl, shd [57] [] 1 rfl⟩
        · rintro e' rfl
          simp only [List.drop_succ_cons, List.drop_zero]
          refine ops H' ?_
          refine opsN ?_
          refine retN ?_
          obtain rfl := Option.some.inj h0'
          exact outG H' rfl rfl
      · replace h0' := (ifF hc').symm.trans h0'
        refine skipN ?_
        refine wpV_seq1 ?_
        obtain ⟨x62, hy_x62, h0'⟩ := Option.bind_eq_some_iff.1 h0'
        obtain ⟨x63, hy_x63, h0'⟩ := Option.bind_eq_some_iff.1 h0'
        refine wpV_J (fun e' => e' = { N := 95, np := 1, nx := 4, sl := [(3, .pl (.one (.ref 1 []))), (4, .pl (.one (.v (.sc (.int .i64 x21.2.1))))), (5, .pl (.one (.v (.sc (.int .i64 x21.2.2))))), (6, .pl (.one (.ref 2 []))), (11, .pl (.one (.ref 3 [])))], ob := [(1, .box true [.list true 1 (List.map (rL true 1 (rK .i64)) x21.1.Parents), .list true 4 (List.map (r_T_impl_Body true) x21.1.Bodies)]), (2, .list true 1 (List.map rS x28.1)), (3, .list true 1 (List.map (rK .i64) x63))] }) ?_ ?_
        · refine regAnyF [] ?_
          refine (?_ : anyF X ?ops10_0_0 _ _ ?P10_0_0 _)
          have d10_0_0_0' : anyF X ?ops10_0_0 [0, 1, 2, 3, 4, 5, 6] [] ?P10_0_0 { N := 95, np := 1, nx := 4, sl := [(3, .pl (.one (.ref 1 []))), (4, .pl (.one (.v (.sc (.int .i64 x21.2.1))))), (5, .pl (.one (.v (.sc (.int .i64 x21.2.2))))), (6, .pl (.one (.ref 2 []))), (11, .pl (.one (.ref 3 [])))], ob := [(1, .box true [.list true 1 (List.map (rL true 1 (rK .i64)) x21.1.Parents), .list true 4 (List.map (r_T_impl_Body true) x21.1.Bodies)]), (2, .list true 1 (List.map rS x28.1)), (3, .list true 1 (List.map (rK .i64) x63))] } := by
            refine fend (e2 := { N := 95, np := 1, nx := 4, sl := [(3, .pl (.one (.ref 1 []))), (4, .pl (.one (.v (.sc (.int .i64 x21.2.1))))), (5, .pl (.one (.v (.sc (.int .i64 x21.2.2))))), (6, .pl (.one (.ref 2 []))), (11, .pl (.one (.ref 3 [])))], ob := [(1, .box true [.list true 1 (List.map (rL true 1 (rK .i64)) x21.1.Parents), .list true 4 (List.map (r_T_impl_Body true) x21.1.Bodies)]), (2, .list true 1 (List.map rS x28.1)), (3, .list true 1 (List.map (rK .i64) x63))] }) [] [] [] [] trivial ⟨rfl, shd [3, 4, 5, 6, 11] [(1, 1), (2, 2), (3, 3)] 4 rfl⟩
          have d10_0_0_1' : anyF X ?ops10_0_0 [0, 1, 2, 3, 4, 5] [] ?P10_0_0 { N := 95, np := 1, nx := 4, sl := [(3, .pl (.one (.ref 1 []))), (4, .pl (.one (.v (.sc (.int .i64 x21.2.1))))), (5, .pl (.one (.v (.sc (.int .i64 x21.2.2))))), (6, .pl (.one (.ref 2 []))), (63, .pl (.one (.ref 3 [])))], ob := [(1, .box true [.list true 1 (List.map (rL true 1 (rK .i64)) x21.1.Parents), .list true 4 (List.map (r_T_impl_Body true) x21.1.Bodies)]), (2, .list true 1 (List.map rS x28.1)), (3, .list true 1 (List.map (rK .i64) x63))] } := by
            refine fnode [] [.m 6 [] [0, 1, 2, 3, 4, 5, 6] []] [] [(6, false, [], [0, 1, 2, 3, 4, 5, 6])] ⟨?_, trivial⟩
            · refine obM { N := 95, np := 1, nx := 4, sl := [(3, .pl (.one (.ref 1 []))), (4, .pl (.one (.v (.sc (.int .i64 x21.2.1))))), (5, .pl (.one (.v (.sc (.int .i64 x21.2.2))))), (6, .pl (.one (.ref 2 []))), (63, .pl (.one (.ref 3 [])))], ob := [(1, .box true [.list true 1 (List.map (rL true 1 (rK .i64)) x21.1.Parents), .list true 4 (List.map (r_T_impl_Body true) x21.1.Bodies)]), (2, .list true 1 (List.map rS x28.1)), (3, .list true 1 (List.map (rK .i64) x63))] } ?_
              refine ops H' ?_
              refine opsV_nil ⟨rfl, .inl ⟨rfl, ?_⟩⟩
              exact anyFShd [3, 4, 5, 6, 11] [(1, 1), (2, 2), (3, 3)] 4 d10_0_0_0'
          have d10_0_0_2' : anyF X ?ops10_0_0 [0, 1, 2, 3, 4] [] ?P10_0_0 { N := 95, np := 1, nx := 4, sl := [(3, .pl (.one (.ref 1 []))), (4, .pl (.one (.v (.sc (.int .i64 x21.2.1))))), (5, .pl (.one (.v (.sc (.int .i64 x21.2.2))))), (6, .pl (.one (.ref 2 []))), (58, .pl (.agg [.ref 1 [(0, 0, 0)], .ref 1 [(0, 0, 1)]])), (62, .pl (.one (.ref 3 [])))], ob := [(1, .box true [.list true 1 (List.map (rL true 1 (rK .i64)) x21.1.Parents), .list true 4 (List.map (r_T_impl_Body true) x21.1.Bodies)]), (2, .list true 1 (List.map rS x28.1)), (3, .list true 1 (List.map (rK .i64) x62))] } := by
            refine fnode [] [.m 5 [] [0, 1, 2, 3, 4, 5] []] [] [(5, false, [], [0, 1, 2, 3, 4, 5])] ⟨?_, trivial⟩
            · refine obM { N := 95, np := 1, nx := 4, sl := [(3, .pl (.one (.ref 1 []))), (4, .pl (.one (.v (.sc (.int .i64 x21.2.1))))), (5, .pl (.one (.v (.sc (.int .i64 x21.2.2))))), (6, .pl (.one (.ref 2 []))), (58, .pl (.agg [.ref 1 [(0, 0, 0)], .ref 1 [(0, 0, 1)]])), (62, .pl (.one (.ref 3 [])))], ob := [(1, .box true [.list true 1 (List.map (rL true 1 (rK .i64)) x21.1.Parents), .list true 4 (List.map (r_T_impl_Body true) x21.1.Bodies)]), (2, .list true 1 (List.map rS x28.1)), (3, .list true 1 (List.map (rK .i64) x62))] } ?_
              refine callG H' (fun _ => []) (W_spec_LiveIn _ _ _ hy_x63) ?_
              refine opsV_nil ⟨rfl, .inl ⟨rfl, ?_⟩⟩
              exact anyFShd [3, 4, 5, 6, 63] [(1, 1), (2, 2), (4, 3)] 4 d10_0_0_1'
          have d10_0_0_3' : anyF X ?ops10_0_0 [0, 1, 2, 3] [] ?P10_0_0 { N := 95, np := 1, nx := 3, sl := [(3, .pl (.one (.ref 1 []))), (4, .pl (.one (.v (.sc (.int .i64 x21.2.1))))), (5, .pl (.one (.v (.sc (.int .i64 x21.2.2))))), (6, .pl (.one (.ref 2 []))), (58, .pl (.agg [.ref 1 [(0, 0, 0)], .ref 1 [(0, 0, 1)]])), (60, .pl (.one (.ref 1 [(0, 0, 0)]))), (61, .pl (.one (.v (.sc (.int .i64 x21.2.2)))))], ob := [(1, .box true [.list true 1 (List.map (rL true 1 (rK .i64)) x21.1.Parents), .list true 4 (List.map (r_T_impl_Body true) x21.1.Bodies)]), (2, .list true 1 (List.map rS x28.1))] } := by
            refine fnode [] [.m 4 [] [0, 1, 2, 3, 4] []] [] [(4, false, [], [0, 1, 2, 3, 4])] ⟨?_, trivial⟩
            · refine obM { N := 95, np := 1, nx := 3, sl := [(3, .pl (.one (.ref 1 []))), (4, .pl (.one (.v (.sc (.int .i64 x21.2.1))))), (5, .pl (.one (.v (.sc (.int .i64 x21.2.2))))), (6, .pl (.one (.ref 2 []))), (58, .pl (.agg [.ref 1 [(0, 0, 0)], .ref 1 [(0, 0, 1)]])), (60, .pl (.one (.ref 1 [(0, 0, 0)]))), (61, .pl (.one (.v (.sc (.int .i64 x21.2.2)))))], ob := [(1, .box true [.list true 1 (List.map (rL true 1 (rK .i64)) x21.1.Parents), .list true 4 (List.map (r_T_impl_Body true) x21.1.Bodies)]), (2, .list true 1 (List.map rS x28.1))] } ?_
              refine callG H' (fun _ => []) (W_spec_ClosureOf _ _ _ hy_x62) ?_
              refine opsV_nil ⟨rfl, .inl ⟨rfl, ?_⟩⟩
              exact anyFShd [3, 4, 5, 6, 58, 62] [(1, 1), (2, 2), (3, 3)] 4 d10_0_0_2'
          have d10_0_0_4' : anyF X ?ops10_0_0 [0, 1, 3] [] ?P10_0_0 { N := 95, np := 1, nx := 3, sl := [(3, .pl (.one (.ref 1 []))), (4, .pl (.one (.v (.sc (.int .i64 x21.2.1))))), (5, .pl (.one (.v (.sc (.int .i64 x21.2.2))))), (6, .pl (.one (.ref 2 []))), (58, .pl (.agg [.ref 1 [(0, 0, 0)], .ref 1 [(0, 0, 1)]])), (59, .pl (.one (.addr 1 [] 0 0 0))), (61, .pl (.one (.v (.sc (.int .i64 x21.2.2)))))], ob := [(1, .box true [.list true 1 (List.map (rL true 1 (rK .i64)) x21.1.Parents), .list true 4 (List.map (r_T_impl_Body true) x21.1.Bodies)]), (2, .list true 1 (List.map rS x28.1))] } := by
            refine fnode [] [.m 2 [] [0, 1, 2, 3] []] [] [(2, false, [], [0, 1, 2, 3])] ⟨?_, trivial⟩
            · refine obM { N := 95, np := 1, nx := 3, sl := [(3, .pl (.one (.ref 1 []))), (4, .pl (.one (.v (.sc (.int .i64 x21.2.1))))), (5, .pl (.one (.v (.sc (.int .i64 x21.2.2))))), (6, .pl (.one (.ref 2 []))), (58, .pl (.agg [.ref 1 [(0, 0, 0)], .ref 1 [(0, 0, 1)]])), (59, .pl (.one (.addr 1 [] 0 0 0))), (61, .pl (.one (.v (.sc (.int .i64 x21.2.2)))))], ob := [(1, .box true [.list true 1 (List.map (rL true 1 (rK .i64)) x21.1.Parents), .list true 4 (List.map (r_T_impl_Body true) x21.1.Bodies)]), (2, .list true 1 (List.map rS x28.1))] } ?_
              refine ops H' ?_
              refine opsV_nil ⟨rfl, .inl ⟨rfl, ?_⟩⟩
              exact anyFShd [3, 4, 5, 6, 58, 60, 61] [(1, 1), (2, 2)] 3 d10_0_0_3'
          have d10_0_0_5' : anyF X ?ops10_0_0 [1, 2, 3, 4] [] ?P10_0_0 { N := 95, np := 1, nx := 4, sl := [(3, .pl (.one (.ref 1 []))), (4, .pl (.one (.v (.sc (.int .i64 x21.2.1))))), (5, .pl (.one (.v (.sc (.int .i64 x21.2.2))))), (6, .pl (.one (.ref 2 []))), (62, .pl (.one (.ref 3 [])))], ob := [(1, .box true [.list true 1 (List.map (rL true 1 (rK .i64)) x21.1.Parents), .list true 4 (List.map (r_T_impl_Body true) x21.1.Bodies)]), (2, .list true 1 (List.map rS x28.1)), (3, .list true 1 (List.map (rK .i64) x62))] } := by
            refine fnode [] [.m 0 [] [0, 1, 2, 3, 4] []] [] [(0, false, [], [0, 1, 2, 3, 4])] ⟨?_, trivial⟩
            · refine obM { N := 95, np := 1, nx := 4, sl := [(3, .pl (.one (.ref 1 []))), (4, .pl (.one (.v (.sc (.int .i64 x21.2.1))))), (5, .pl (.one (.v (.sc (.int .i64 x21.2.2))))), (6, .pl (.one (.ref 2 []))), (62, .pl (.one (.ref 3 [])))], ob := [(1, .box true [.list true 1 (List.map (rL true 1 (rK .i64)) x21.1.Parents), .list true 4 (List.map (r_T_impl_Body true) x21.1.Bodies)]), (2, .list true 1 (List.map rS x28.1)), (3, .list true 1 (List.map (rK .i64) x62))] } ?_
              refine ops H' ?_
              refine opsV_nil ⟨rfl, .inl ⟨rfl, ?_⟩⟩
              exact anyFShd [3, 4, 5, 6, 58, 62] [(1, 1), (2, 2), (3, 3)] 4 d10_0_0_2'
          have d10_0_0_6' : anyF X ?ops10_0_0 [1, 2, 3] [] ?P10_0_0 { N := 95, np := 1, nx := 3, sl := [(3, .pl (.one (.ref 1 []))), (4, .pl (.one (.v (.sc (.int .i64 x21.2.1))))), (5, .pl (.one (.v (.sc (.int .i64 x21.2.2))))), (6, .pl (.one (.ref 2 []))), (60, .pl (.one (.ref 1 [(0, 0, 0)]))), (61, .pl (.one (.v (.sc (.int .i64 x21.2.2)))))], ob := [(1, .box true [.list true 1 (List.map (rL true 1 (rK .i64)) x21.1.Parents), .list true 4 (List.map (r_T_impl_Body true) x21.1.Bodies)]), (2, .list true 1 (List.map rS x28.1))] } := by
            refine fnode [] [.m 0 [] [0, 1, 2, 3] [], .m 4 [] [1, 2, 3, 4] []] [] [(0, false, [], [0, 1, 2, 3]), (4, false, [], [1, 2, 3, 4])] ⟨?_, ?_, trivial⟩
            · refine obM { N := 95, np := 1, nx := 3, sl := [(3, .pl (.one (.ref 1 []))), (4, .pl (.one (.v (.sc (.int .i64 x21.2.1))))), (5, .pl (.one (.v (.sc (.int .i64 x21.2.2))))), (6, .pl (.one (.ref 2 []))), (60, .pl (.one (.ref 1 [(0, 0, 0)]))), (61, .pl (.one (.v (.sc (.int .i64 x21.2.2)))))], ob := [(1, .box true [.list true 1 (List.map (rL true 1 (rK .i64)) x21.1.Parents), .list true 4 (List.map (r_T_impl_Body true) x21.1.Bodies)]), (2, .list true 1 (List.map rS x28.1))] } ?_
              refine ops H' ?_
              refine opsV_nil ⟨rfl, .inl ⟨rfl, ?_⟩⟩
              exact anyFShd [3, 4, 5, 6, 58, 60, 61] [(1, 1), (2, 2)] 3 d10_0_0_3'
            · refine obM { N := 95, np := 1, nx := 3, sl := [(3, .pl (.one (.ref 1 []))), (4, .pl (.one (.v (.sc (.int .i64 x21.2.1))))), (5, .pl (.one (.v (.sc (.int .i64 x21.2.2))))), (6, .pl (.one (.ref 2 []))), (60, .pl (.one (.ref 1 [(0, 0, 0)]))), (61, .pl (.one (.v (.sc (.int .i64 x21.2.2)))))], ob := [(1, .box true [.list true 1 (List.map (rL true 1 (rK .i64)) x21.1.Parents), .list true 4 (List.map (r_T_impl_Body true) x21.1.Bodies)]), (2, .list true 1 (List.map rS x28.1))] } ?_
              refine callG H' (fun _ => []) (W_spec_ClosureOf _ _ _ hy_x62) ?_
              refine opsV_nil ⟨rfl, .inl ⟨rfl, ?_⟩⟩
              exact anyFShd [3, 4, 5, 6, 62] [(1, 1), (2, 2), (3, 3)] 4 d10_0_0_5'
          have d10_0_0_7' : anyF X ?ops10_0_0 [1, 3] [] ?P10_0_0 { N := 95, np := 1, nx := 3, sl := [(3, .pl (.one (.ref 1 []))), (4, .pl (.one (.v (.sc (.int .i64 x21.2.1))))), (5, .pl (.one (.v (.sc (.int .i64 x21.2.2))))), (6, .pl (.one (.ref 2 []))), (59, .pl (.one (.addr 1 [] 0 0 0))), (61, .pl (.one (.v (.sc (.int .i64 x21.2.2)))))], ob := [(1, .box true [.list true 1 (List.map (rL true 1 (rK .i64)) x21.1.Parents), .list true 4 (List.map (r_T_impl_Body true) x21.1.Bodies)]), (2, .list true 1 (List.map rS x28.1))] } := by
            refine fnode [] [.m 0 [] [0, 1, 3] [], .m 2 [] [1, 2, 3] []] [] [(0, false, [], [0, 1, 3]), (2, false, [], [1, 2, 3])] ⟨?_, ?_, trivial⟩
            · refine obM { N := 95, np := 1, nx := 3, sl := [(3, .pl (.one (.ref 1 []))), (4, .pl (.one (.v (.sc (.int .i64 x21.2.1))))), (5, .pl (.one (.v (.sc (.int .i64 x21.2.2))))), (6, .pl (.one (.ref 2 []))), (59, .pl (.one (.addr 1 [] 0 0 0))), (61, .pl (.one (.v (.sc (.int .i64 x21.2.2)))))], ob := [(1, .box true [.list true 1 (List.map (rL true 1 (rK .i64)) x21.1.Parents), .list true 4 (List.map (r_T_impl_Body true) x21.1.Bodies)]), (2, .list true 1 (List.map rS x28.1))] } ?_
              refine ops H' ?_
              refine opsV_nil ⟨rfl, .inl ⟨rfl, ?_⟩⟩
              exact anyFShd [3, 4, 5, 6, 58, 59, 61] [(1, 1), (2, 2)] 3 d10_0_0_4'
            · refine obM { N := 95, np := 1, nx := 3, sl := [(3, .pl (.one (.ref 1 []))), (4, .pl (.one (.v (.sc (.int .i64 x21.2.1))))), (5, .pl (.one (.v (.sc (.int .i64 x21.2.2))))), (6, .pl (.one (.ref 2 []))), (59, .pl (.one (.addr 1 [] 0 0 0))), (61, .pl (.one (.v (.sc (.int .i64 x21.2.2)))))], ob := [(1, .box true [.list true 1 (List.map (rL true 1 (rK .i64)) x21.1.Parents), .list true 4 (List.map (r_T_impl_Body true) x21.1.Bodies)]), (2, .list true 1 (List.map rS x28.1))] } ?_
              refine ops H' ?_
              refine opsV_nil ⟨rfl, .inl ⟨rfl, ?_⟩⟩
              exact anyFShd [3, 4, 5, 6, 60, 61] [(1, 1), (2, 2)] 3 d10_0_0_6'
          refine fpure H' 1 [1] [] ?_
          refine fpure H' 3 [1, 3] [] ?_
          exact anyFShd [3, 4, 5, 6, 59, 61] [(6, 1), (7, 2)] 3 d10_0_0_7'
        · rintro e' rfl
          refine contN ?_
          refine wpV_seq1 ?_
          refine wpV_region ?_
          refine ops H' ?_
          obtain ⟨x66, hy', h0'⟩ := Option.bind_eq_some_iff.1 h0'
          refine callG H' (fun _ => []) (W_spec_BornIn _ _ _ hy') ?_
          refine ops H' ?_
          refine opsN ?_
          refine wpV_seqJ (fun e' => laws_FnUndoes_j1 x21 x28 = some r' ∧ e' = { N := 95, np := 1, nx := 3, sl := [(3, .pl (.one (.ref 1 []))), (4, .pl (.one (.v (.sc (.int .i64 x21.2.1))))), (5, .pl (.one (.v (.sc (.int .i64 x21.2.2))))), (6, .pl (.one (.ref 2 [])))], ob := [(1, .box true [.list true 1 (List.map (rL true 1 (rK .i64)) x21.1.Parents), .list true 4 (List.map (r_T_impl_Body true) x21.1.Bodies)]), (2, .list true 1 (List.map rS x28.1))] }) ?_ ?_
          · refine wpV_seq1 ?_
            refine wpV_region ?_
            refine ops H' ?_
            refine opsN ?_
            obtain ⟨p, hl', h0'⟩ := Option.bind_eq_some_iff.1 h0'
            refine wpV_block ?_
            refine wpV_loopM (fun i e' => e' = { N := 95, np := 1, nx := 5, sl := [(3, .pl (.one (.ref 1 []))), (4, .pl (.one (.v (.sc (.int .i64 x21.2.1))))), (5, .pl (.one (.v (.sc (.int .i64 x21.2.2))))), (6, .pl (.one (.ref 2 []))), (11, .pl (.one (.ref 3 []))), (12, .pl (.one (.ref 4 []))), (13, .pl (.one (.v (.sc (.int .i64 i)))))], ob := [(1, .box true [.list true 1 (List.map (rL true 1 (rK .i64)) x21.1.Parents), .list true 4 (List.map (r_T_impl_Body true) x21.1.Bodies)]), (2, .list true 1 (List.map rS x28.1)), (3, .list true 1 (List.map (rK .i64) x63)), (4, .list true 1 (List.map (rK .i64) x66))] }) hl' (shd [3, 4, 5, 6, 11, 12, 13] [(1, 1), (2, 2), (3, 3), (4, 4)] 5 rfl) ?_
            rintro i y1' e' h1' rfl
            replace h1' : laws_FnUndoes_l1 x63 x66 i = some y1' := h1'
            unfold laws_FnUndoes_l1 at h1'
            refine wpV_seq1 ?_
            refine wpV_seq1 ?_
            refine wpV_region ?_
            refine ops H' ?_
            refine opsN ?_
            refine wpV_split (fun hc' => ?_) (fun hc' => ?_)
            · replace h1' := (ifT hc').symm.trans h1'
              refine skipN ?_
              refine wpV_seq1 ?_
              refine wpV_block ?_
              refine wpV_seq1 ?_
              refine wpV_region ?_
              obtain ⟨x, hv', h1'⟩ := Option.bind_eq_some_iff.1 h1'
              have H' := And.intro (geti_f hv') H'
              refine ops H' ?_
              obtain ⟨x78, hy', h1'⟩ := Option.bind_eq_some_iff.1 h1'
              refine callG H' (fun _ => []) (W_laws_within _ _ _ hy') ?_
              refine ops H' ?_
              refine opsN ?_
              refine wpV_split (fun hc' => ?_) (fun hc' => ?_)
              · replace h1' := (ifT hc').symm.trans h1'
                refine wpV_seq1 ?_
                refine wpV_region ?_
                refine ops H' ?_
                refine opsN ?_
                refine retN ?_
                obtain rfl := Option.some.inj h1'
                refine ⟨_, rfl, fun hr' => ?_⟩
                subst hr'
                obtain rfl := Option.some.inj h0'
                exact outG H' rfl rfl
              · replace h1' := (ifF hc').symm.trans h1'
                refine skipN ?_
                refine wpV_region ?_
                refine ops H' ?_
                refine opsN ?_
                obtain rfl := Option.some.inj h1'
                exact shd [3, 4, 5, 6, 11, 12, 13] [(1, 1), (2, 2), (3, 3), (4, 4)] 5 ⟨_, rfl, rfl⟩
            · replace h1' := (ifF hc').symm.trans h1'
              refine exitN ?_
              obtain rfl := Option.some.inj h1'
              refine ⟨_, rfl, fun hr' => ?_⟩
              subst hr'
              exact shd [3, 4, 5, 6] [(1, 1), (2, 2)] 3 ⟨h0', rfl⟩
          · rintro e' ⟨h0', rfl⟩
            unfold laws_FnUndoes_j1 at h0'
            refine wpV_seq1 ?_
            refine wpV_region ?_
            refine ops H' ?_
            obtain ⟨x84, hy', h0'⟩ := Option.bind_eq_some_iff.1 h0'
            refine callG H' (fun _ => []) (W_impl_PickOn _ _ _ _ hy') ?_
            refine ops H' ?_
            refine opsN ?_
            refine wpV_seq1 ?_
            refine wpV_region ?_
            refine ops H' ?_
            obtain ⟨b_1, gh0', h0'⟩ := Option.bind_eq_some_iff.1 h0'
            refine opsV_cut 4 (fun e' => e' = { N := 95, np := 1, nx := 1, sl := [(94, .pl (.one (.v (.sc (.bool b_1)))))], ob := [] }) ?_ ?_
            · simp only [List.take_succ_cons, List.take_zero]
              refine opsV_sp (fun hc' => ?_) (fun hc' => ?_)
              · replace gh0' := (ifT hc').symm.trans gh0'
                refine ops H' ?_
                obtain ⟨x93, hy', gh0'⟩ := Option.bind_eq_some_iff.1 gh0'
                refine callG H' (fun _ => []) (W_laws_sameTexts _ _ _ hy') ?_
                refine ops H' ?_
                obtain rfl := Option.some.inj gh0'
                refine opsV_nil ?_
                exact ⟨rfl, shd [94] [] 1 rfl⟩
              · replace gh0' := (ifF hc').symm.trans gh0'
                refine ops H' ?_
                obtain rfl := Option.some.inj gh0'
                refine opsV_nil ?_
                exact ⟨rfl, shd [94] [] 1 rfl⟩
            · rintro e' rfl
              simp only [List.drop_succ_cons, List.drop_zero]
              refine ops H' ?_
              refine opsN ?_
              refine retN ?_
              obtain rfl := Option.some.inj h0'
              exact outG H' rfl rfl
end Go.TV.KFnUndoes
