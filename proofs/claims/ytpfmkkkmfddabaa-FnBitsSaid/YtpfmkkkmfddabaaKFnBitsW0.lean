/- Walks. -/
import Derived.Test.YtpfmkkkmfddabaaKFnBitsE
set_option linter.unusedVariables false
set_option linter.unusedSimpArgs false
set_option maxHeartbeats 8000000
namespace Go.TV.KFnBits
attribute [local irreducible] wpV opsV Does thenV blockV RetL quV seqV
open Go.Proofs.Try Go.TV.F
theorem W_laws_big (code : List Int) (r' : Bool) (h0' : laws_big code = some r') : Fn X 20 [.one (.list false 1 (List.map (rK .u8) code))] [.one (.sc (.bool r'))] [] := by
  have H' := And.intro t3 (And.intro t32 (R_u8))
  unfold laws_big at h0'
  refine Fn.start (fn := f20) (N := 6) (res := [.tmp 2]) rfl rfl rfl rfl rfl (by simp) ?_
  refine enterG H' ?_
  refine wpV_seq1 ?_
  refine wpV_region ?_
  refine ops H' ?_
  refine opsN ?_
  refine wpV_seq1 ?_
  refine wpV_region ?_
  refine ops H' ?_
  refine opsN ?_
  refine retN ?_
  obtain rfl := Option.some.inj h0'
  exact outG H' rfl rfl
theorem W_spec_l01New (code : List Int) (r' : T_spec_l01Cur) (h0' : spec_l01New code = some r') : Fn X 48 [.one (.list false 1 (List.map (rK .u8) code))] [.one (.box true [.list false 1 (List.map (rK .u8) r'.b), .sc (.int .i64 r'.i), .sc (.int .i64 r'.h)])] [] := by
  have H' := And.intro t3 (And.intro t5 (And.intro t32 (And.intro t80 (R_u8))))
  unfold spec_l01New at h0'
  refine Fn.start (fn := f48) (N := 32) (res := [.tmp 2]) rfl rfl rfl rfl rfl (by simp) ?_
  refine enterG H' ?_
  refine wpV_seq1 ?_
  refine wpV_region ?_
  refine ops H' ?_
  refine opsN ?_
  refine wpV_seq1 ?_
  refine wpV_region ?_
  refine ops H' ?_
  refine opsN ?_
  refine wpV_seqJ (fun e' => ∃ h, spec_l01New_j1 code h = some r' ∧ e' = { N := 32, np := 1, nx := 1, sl := [(0, .pl (.one (.v (.list false 1 (List.map (rK .u8) code))))), (3, .pl (.one (.v (.sc (.int .i64 h)))))], ob := [] }) ?_ ?_
  · refine wpV_seq1 ?_
    refine wpV_region ?_
    refine ops H' ?_
    refine opsN ?_
    obtain ⟨p, hl', h0'⟩ := Option.bind_eq_some_iff.1 h0'
    refine wpV_block ?_
    refine wpV_loopM (fun s' e' => ∃ h_1 i, s' = (h_1, i) ∧ e' = { N := 32, np := 1, nx := 1, sl := [(0, .pl (.one (.v (.list false 1 (List.map (rK .u8) code))))), (3, .pl (.one (.v (.sc (.int .i64 h_1))))), (4, .pl (.one (.v (.sc (.int .i64 i)))))], ob := [] }) hl' (shd [0, 3, 4] [] 1 ⟨_, _, rfl, rfl⟩) ?_
    rintro s' y1' e' h1' ⟨h_1, i, rfl, rfl⟩
    replace h1' : spec_l01New_l1 code h_1 i = some y1' := h1'
    unfold spec_l01New_l1 at h1'
    refine wpV_seq1 ?_
    refine wpV_seq1 ?_
    refine wpV_region ?_
    refine ops H' ?_
    obtain ⟨b, gh1', h1'⟩ := Option.bind_eq_some_iff.1 h1'
    refine opsV_cut 3 (fun e' => e' = { N := 32, np := 1, nx := 1, sl := [(0, .pl (.one (.v (.list false 1 (List.map (rK .u8) code))))), (3, .pl (.one (.v (.sc (.int .i64 h_1))))), (4, .pl (.one (.v (.sc (.int .i64 i))))), (15, .pl (.one (.v (.sc (.bool b)))))], ob := [] }) ?_ ?_
    · simp only [List.take_succ_cons, List.take_zero]
      refine opsV_sp (fun hc' => ?_) (fun hc' => ?_)
      · replace gh1' := (ifT hc').symm.trans gh1'
        refine ops H' ?_
        obtain rfl := Option.some.inj gh1'
        refine opsV_nil ?_
        exact ⟨rfl, shd [0, 3, 4, 15] [] 1 rfl⟩
      · replace gh1' := (ifF hc').symm.trans gh1'
        refine ops H' ?_
        obtain rfl := Option.some.inj gh1'
        refine opsV_nil ?_
        exact ⟨rfl, shd [0, 3, 4, 15] [] 1 rfl⟩
    · rintro e' rfl
      simp only [List.drop_succ_cons, List.drop_zero]
      refine opsN ?_
      refine wpV_split (fun hc' => ?_) (fun hc' => ?_)
      · replace h1' := (ifT hc').symm.trans h1'
        refine skipN ?_
        refine wpV_seq1 ?_
        refine wpV_block ?_
        refine wpV_region ?_
        obtain ⟨x, hv', h1'⟩ := Option.bind_eq_some_iff.1 h1'
        have H' := And.intro (geti_f hv') H'
        refine ops H' ?_
        refine opsN ?_
        refine wpV_region ?_
        refine ops H' ?_
        refine opsN ?_
        obtain rfl := Option.some.inj h1'
        exact shd [0, 3, 4] [] 1 ⟨_, rfl, _, _, rfl, rfl⟩
      · replace h1' := (ifF hc').symm.trans h1'
        refine exitN ?_
        obtain rfl := Option.some.inj h1'
        refine ⟨_, rfl, fun hr' => ?_⟩
        subst hr'
        exact shd [0, 3] [] 1 ⟨_, h0', rfl⟩
  · rintro e' ⟨h, h0', rfl⟩
    unfold spec_l01New_j1 at h0'
    refine wpV_seq1 ?_
    refine wpV_region ?_
    refine ops H' ?_
    refine opsN ?_
    refine retN ?_
    obtain rfl := Option.some.inj h0'
    exact outG H' rfl rfl
theorem W_spec_l01Byte (c : T_spec_l01Cur) (r' : Int × T_spec_l01Cur) (h0' : spec_l01Byte c = some r') : Fn X 67 [.one (.box true [.list false 1 (List.map (rK .u8) c.b), .sc (.int .i64 c.i), .sc (.int .i64 c.h)])] [.one (.sc (.int .i64 r'.1))] [(0, .box true [.list false 1 (List.map (rK .u8) r'.2.b), .sc (.int .i64 r'.2.i), .sc (.int .i64 r'.2.h)])] := by
  have H' := And.intro t3 (And.intro t5 (And.intro t32 (And.intro t80 (R_u8))))
  unfold spec_l01Byte at h0'
  refine Fn.start (fn := f67) (N := 58) (res := [.tmp 2]) rfl rfl rfl rfl rfl (by simp) ?_
  refine enterG H' ?_
  refine wpV_seq1 ?_
  refine wpV_region ?_
  refine ops H' ?_
  refine opsN ?_
  refine wpV_seq1 ?_
  refine wpV_region ?_
  refine ops H' ?_
  refine opsN ?_
  refine wpV_seq1 ?_
  refine regQ ?_
  refine ops H' ?_
  refine quN ?_
  refine wpV_seq1 ?_
  refine wpV_seq1 ?_
  refine regQ ?_
  refine ops H' ?_
  refine quN ?_
  refine wpV_split (fun hc' => ?_) (fun hc' => ?_)
  · replace h0' := (ifT hc').symm.trans h0'
    refine wpV_seq1 ?_
    refine regQ ?_
    obtain ⟨x, hv', h0'⟩ := Option.bind_eq_some_iff.1 h0'
    have H' := And.intro (geti_f hv') H'
    refine ops H' ?_
    refine quN ?_
    refine wpV_region ?_
    refine ops H' ?_
    refine opsN ?_
    refine wpV_seq1 ?_
    refine wpV_region ?_
    refine ops H' ?_
    refine opsN ?_
    refine retN ?_
    obtain rfl := Option.some.inj h0'
    exact outG H' rfl rfl
  · replace h0' := (ifF hc').symm.trans h0'
    refine skipN ?_
    refine wpV_seq1 ?_
    refine wpV_region ?_
    refine ops H' ?_
    refine opsN ?_
    refine retN ?_
    obtain rfl := Option.some.inj h0'
    exact outG H' rfl rfl
theorem W_spec_l01Below (c : T_spec_l01Cur) (n : Int) (r' : Int × T_spec_l01Cur) (h0' : spec_l01Below c n = some r') : Fn X 49 [.one (.box true [.list false 1 (List.map (rK .u8) c.b), .sc (.int .i64 c.i), .sc (.int .i64 c.h)]), .one (.sc (.int .i64 n))] [.one (.sc (.int .i64 r'.1))] [(0, .box true [.list false 1 (List.map (rK .u8) r'.2.b), .sc (.int .i64 r'.2.i), .sc (.int .i64 r'.2.h)])] := by
  have H' := And.intro t3 (R_u8)
  unfold spec_l01Below at h0'
  refine Fn.start (fn := f49) (N := 37) (res := [.tmp 4]) rfl rfl rfl rfl rfl (by simp) ?_
  refine enterG H' ?_
  refine wpV_seq1 ?_
  refine wpV_region ?_
  refine ops H' ?_
  refine opsN ?_
  refine wpV_seq1 ?_
  refine wpV_seq1 ?_
  refine wpV_region ?_
  refine ops H' ?_
  refine opsN ?_
  refine wpV_split (fun hc' => ?_) (fun hc' => ?_)
  · replace h0' := (ifT hc').symm.trans h0'
    refine wpV_seq1 ?_
    refine wpV_region ?_
    refine ops H' ?_
    refine opsN ?_
    refine retN ?_
    obtain rfl := Option.some.inj h0'
    exact outG H' rfl rfl
  · replace h0' := (ifF hc').symm.trans h0'
    refine skipN ?_
    refine wpV_seq1 ?_
    refine wpV_seq1 ?_
    refine wpV_region ?_
    refine ops H' ?_
    refine opsN ?_
    refine wpV_split (fun hc' => ?_) (fun hc' => ?_)
    · replace h0' := (ifT hc').symm.trans h0'
      refine wpV_seq1 ?_
      refine wpV_region ?_
      refine ops H' ?_
      obtain ⟨x14, hy', h0'⟩ := Option.bind_eq_some_iff.1 h0'
      refine callGD H' (fun _ => [0]) (W_spec_l01Byte _ _ hy') ?_
      obtain ⟨u, hv', h0'⟩ := Option.bind_eq_some_iff.1 h0'
      have H' := And.intro (chkF hv') H'
      refine ops H' ?_
      refine opsN ?_
      refine retN ?_
      obtain rfl := Option.some.inj h0'
      exact outG H' rfl rfl
    · replace h0' := (ifF hc').symm.trans h0'
      refine skipN ?_
      refine wpV_seq1 ?_
      refine wpV_region ?_
      refine ops H' ?_
      obtain ⟨x18, hy', h0'⟩ := Option.bind_eq_some_iff.1 h0'
      refine callGD H' (fun _ => [0]) (W_spec_l01Byte _ _ hy') ?_
      refine ops H' ?_
      refine opsN ?_
      refine wpV_seq1 ?_
      refine wpV_region ?_
      refine ops H' ?_
      obtain ⟨x20, hy', h0'⟩ := Option.bind_eq_some_iff.1 h0'
      refine callGD H' (fun _ => [0]) (W_spec_l01Byte _ _ hy') ?_
      refine ops H' ?_
      refine opsN ?_
      refine wpV_seq1 ?_
      refine wpV_region ?_
      refine ops H' ?_
      obtain ⟨x22, hy', h0'⟩ := Option.bind_eq_some_iff.1 h0'
      refine callGD H' (fun _ => [0]) (W_spec_l01Byte _ _ hy') ?_
      refine ops H' ?_
      refine opsN ?_
      refine wpV_seq1 ?_
      refine wpV_region ?_
      refine ops H' ?_
      obtain ⟨x24, hy', h0'⟩ := Option.bind_eq_some_iff.1 h0'
      refine callGD H' (fun _ => [0]) (W_spec_l01Byte _ _ hy') ?_
      refine ops H' ?_
      refine opsN ?_
      refine wpV_seq1 ?_
      refine wpV_region ?_
      obtain ⟨u_1, hv', h0'⟩ := Option.bind_eq_some_iff.1 h0'
      have H' := And.intro (chkF hv') H'
      refine ops H' ?_
      refine opsN ?_
      refine retN ?_
      obtain rfl := Option.some.inj h0'
      exact outG H' rfl rfl
theorem W_spec_l01Once (c : T_spec_l01Cur) (n : Int) (r' : Bool × T_spec_l01Cur) (h0' : spec_l01Once c n = some r') : Fn X 50 [.one (.box true [.list false 1 (List.map (rK .u8) c.b), .sc (.int .i64 c.i), .sc (.int .i64 c.h)]), .one (.sc (.int .i64 n))] [.one (.sc (.bool r'.1))] [(0, .box true [.list false 1 (List.map (rK .u8) r'.2.b), .sc (.int .i64 r'.2.i), .sc (.int .i64 r'.2.h)])] := by
  have H' := And.intro t3 (R_u8)
  unfold spec_l01Once at h0'
  refine Fn.start (fn := f50) (N := 9) (res := [.tmp 4]) rfl rfl rfl rfl rfl (by simp) ?_
  refine enterG H' ?_
  refine wpV_seq1 ?_
  refine wpV_region ?_
  refine ops H' ?_
  refine opsN ?_
  refine wpV_seq1 ?_
  refine wpV_region ?_
  refine ops H' ?_
  obtain ⟨x7, hy', h0'⟩ := Option.bind_eq_some_iff.1 h0'
  refine callGD H' (fun _ => [0]) (W_spec_l01Below _ _ _ hy') ?_
  refine ops H' ?_
  refine opsN ?_
  refine retN ?_
  obtain rfl := Option.some.inj h0'
  exact outG H' rfl rfl
theorem W_spec_l01PickInt (c : T_spec_l01Cur) (list_ : List Int) (r' : Int × T_spec_l01Cur) (h0' : spec_l01PickInt c list_ = some r') : Fn X 51 [.one (.box true [.list false 1 (List.map (rK .u8) c.b), .sc (.int .i64 c.i), .sc (.int .i64 c.h)]), .one (.list false 1 (List.map (rK .i64) list_))] [.one (.sc (.int .i64 r'.1))] [(0, .box true [.list false 1 (List.map (rK .u8) r'.2.b), .sc (.int .i64 r'.2.i), .sc (.int .i64 r'.2.h)])] := by
  have H' := And.intro t3 (And.intro t23 (And.intro R_i64 (R_u8)))
  unfold spec_l01PickInt at h0'
  refine Fn.start (fn := f51) (N := 12) (res := [.tmp 4]) rfl rfl rfl rfl rfl (by simp) ?_
  refine enterG H' ?_
  refine wpV_seq1 ?_
  refine wpV_region ?_
  refine ops H' ?_
  refine opsN ?_
  refine wpV_seq1 ?_
  refine wpV_region ?_
  refine ops H' ?_
  obtain ⟨x9, hy', h0'⟩ := Option.bind_eq_some_iff.1 h0'
  refine callGD H' (fun _ => [0]) (W_spec_l01Below _ _ _ hy') ?_
  obtain ⟨x, hv', h0'⟩ := Option.bind_eq_some_iff.1 h0'
  have H' := And.intro (geti_f hv') H'
  refine ops H' ?_
  refine opsN ?_
  refine retN ?_
  obtain rfl := Option.some.inj h0'
  exact outG H' rfl rfl
theorem W_spec_DrawBitsOf (code : List Int) (r' : (List Int)) (h0' : spec_DrawBitsOf code = some r') : Fn X 21 [.one (.list false 1 (List.map (rK .u8) code))] [.one (.list true 1 (List.map (rK .i64) r'))] [] := by
  have H' := And.intro t3 (And.intro t23 (And.intro R_i64 (R_u8)))
  unfold spec_DrawBitsOf at h0'
  refine Fn.start (fn := f21) (N := 29) (res := [.tmp 2]) rfl rfl rfl rfl rfl (by simp) ?_
  refine enterG H' ?_
  refine wpV_seq1 ?_
  refine wpV_region ?_
  refine ops H' ?_
  refine opsN ?_
  refine wpV_seq1 ?_
  refine wpV_region ?_
  refine ops H' ?_
  obtain ⟨x7, hy', h0'⟩ := Option.bind_eq_some_iff.1 h0'
  refine callGD H' (fun _ => []) (W_spec_l01New _ _ hy') ?_
  refine ops H' ?_
  refine opsN ?_
  refine wpV_seq1 ?_
  refine wpV_region ?_
  refine ops H' ?_
  refine opsN ?_
  refine wpV_seqJ (fun e' => ∃ c c_1 c_2 out_, spec_DrawBitsOf_j1 c c_1 c_2 out_ = some r' ∧ e' = { N := 29, np := 1, nx := 3, sl := [(3, .pl (.one (.ref 1 []))), (4, .pl (.one (.ref 2 [])))], ob := [(1, .box true [.list false 1 (List.map (rK .u8) c), .sc (.int .i64 c_1), .sc (.int .i64 c_2)]), (2, .list true 1 (List.map (rK .i64) out_))] }) ?_ ?_
  · refine wpV_seq1 ?_
    refine wpV_region ?_
    refine ops H' ?_
    refine opsN ?_
    obtain ⟨p, hl', h0'⟩ := Option.bind_eq_some_iff.1 h0'
    refine wpV_block ?_
    refine wpV_loopM (fun s' e' => ∃ i c_3 c_4 c_5 out__1, s' = (i, c_3, c_4, c_5, out__1) ∧ e' = { N := 29, np := 1, nx := 3, sl := [(3, .pl (.one (.ref 1 []))), (4, .pl (.one (.ref 2 []))), (5, .pl (.one (.v (.sc (.int .i64 i)))))], ob := [(1, .box true [.list false 1 (List.map (rK .u8) c_3), .sc (.int .i64 c_4), .sc (.int .i64 c_5)]), (2, .list true 1 (List.map (rK .i64) out__1))] }) hl' (shd [3, 4, 5] [(2, 1), (3, 2)] 3 ⟨_, _, _, _, _, rfl, rfl⟩) ?_
    rintro s' y1' e' h1' ⟨i, c_3, c_4, c_5, out__1, rfl, rfl⟩
    replace h1' : spec_DrawBitsOf_l1 i c_3 c_4 c_5 out__1 = some y1' := h1'
    unfold spec_DrawBitsOf_l1 at h1'
    refine wpV_seq1 ?_
    refine wpV_seq1 ?_
    refine wpV_region ?_
    refine ops H' ?_
    obtain ⟨x11, hy', h1'⟩ := Option.bind_eq_some_iff.1 h1'
    refine callGD H' (fun _ => [0]) (W_spec_l01Below _ _ _ hy') ?_
    refine ops H' ?_
    refine opsN ?_
    refine wpV_split (fun hc' => ?_) (fun hc' => ?_)
    · replace h1' := (ifT hc').symm.trans h1'
      refine skipN ?_
      refine wpV_seq1 ?_
      refine wpV_block ?_
      refine wpV_region ?_
      refine ops H' ?_
      obtain ⟨x17, hy', h1'⟩ := Option.bind_eq_some_iff.1 h1'
      refine callGD H' (fun _ => [0]) (W_spec_l01Below _ _ _ hy') ?_
      obtain ⟨l_1, hv', h1'⟩ := Option.bind_eq_some_iff.1 h1'
      have H' := And.intro (app1_f hv') H'
      refine ops H' ?_
      refine opsN ?_
      refine wpV_region ?_
      refine ops H' ?_
      refine opsN ?_
      obtain rfl := Option.some.inj h1'
      exact shd [3, 4, 5] [(1, 1), (2, 2)] 3 ⟨_, rfl, _, _, _, _, _, rfl, rfl⟩
    · replace h1' := (ifF hc').symm.trans h1'
      refine exitN ?_
      obtain rfl := Option.some.inj h1'
      refine ⟨_, rfl, fun hr' => ?_⟩
      subst hr'
      exact shd [3, 4] [(1, 1), (2, 2)] 3 ⟨_, _, _, _, h0', rfl⟩
  · rintro e' ⟨c, c_1, c_2, out_, h0', rfl⟩
    unfold spec_DrawBitsOf_j1 at h0'
    refine wpV_seq1 ?_
    refine wpV_seq1 ?_
    refine wpV_region ?_
    refine ops H' ?_
    obtain ⟨x21, hy', h0'⟩ := Option.bind_eq_some_iff.1 h0'
    refine callGD H' (fun _ => [0]) (W_spec_l01Once _ _ _ hy') ?_
    refine opsN ?_
    refine wpV_split (fun hc' => ?_) (fun hc' => ?_)
    · replace h0' := (ifT hc').symm.trans h0'
      refine wpV_region ?_
      refine ops H' ?_
      refine opsV_frz H' 4 ?_
      obtain ⟨x25, hy', h0'⟩ := Option.bind_eq_some_iff.1 h0'
      refine callGD H' (fun _ => [0]) (W_spec_l01PickInt _ _ _ hy') ?_
      obtain ⟨l, hv', h0'⟩ := Option.bind_eq_some_iff.1 h0'
      have H' := And.intro (app1_f hv') H'
      refine ops H' ?_
      refine opsN ?_
      refine wpV_seq1 ?_
      refine wpV_region ?_
      refine ops H' ?_
      refine opsN ?_
      refine retN ?_
      obtain rfl := Option.some.inj h0'
      exact outG H' rfl rfl
    · replace h0' := (ifF hc').symm.trans h0'
      refine skipN ?_
      refine wpV_seq1 ?_
      refine wpV_region ?_
      refine ops H' ?_
      refine opsN ?_
      refine retN ?_
      obtain rfl := Option.some.inj h0'
      exact outG H' rfl rfl
theorem W_impl_inRange (n : Int) (least : Int) (most : Int) (r' : Bool) (h0' : impl_inRange n least most = some r') : Fn X 52 [.one (.sc (.int .i64 n)), .one (.sc (.int .i64 least)), .one (.sc (.int .i64 most))] [.one (.sc (.bool r'))] [] := by
  have H' := t3
  unfold impl_inRange at h0'
  refine Fn.start (fn := f52) (N := 15) (res := [.tmp 6]) rfl rfl rfl rfl rfl (by simp) ?_
  refine enterG H' ?_
  refine wpV_seq1 ?_
  refine wpV_region ?_
  refine ops H' ?_
  refine opsN ?_
  refine wpV_seq1 ?_
  refine wpV_region ?_
  refine ops H' ?_
  obtain ⟨b, gh0', h0'⟩ := Option.bind_eq_some_iff.1 h0'
  refine opsV_cut 4 (fun e' => e' = { N := 15, np := 3, nx := 3, sl := [(14, .pl (.one (.v (.sc (.bool b)))))], ob := [] }) ?_ ?_
  · simp only [List.take_succ_cons, List.take_zero]
    refine opsV_sp (fun hc' => ?_) (fun hc' => ?_)
    · replace gh0' := (ifT hc').symm.trans gh0'
      refine ops H' ?_
      obtain rfl := Option.some.inj gh0'
      refine opsV_nil ?_
      exact ⟨rfl, shd [14] [] 3 rfl⟩
    · replace gh0' := (ifF hc').symm.trans gh0'
      refine ops H' ?_
      obtain rfl := Option.some.inj gh0'
      refine opsV_nil ?_
      exact ⟨rfl, shd [14] [] 3 rfl⟩
  · rintro e' rfl
    simp only [List.drop_succ_cons, List.drop_zero]
    refine ops H' ?_
    refine opsN ?_
    refine retN ?_
    obtain rfl := Option.some.inj h0'
    exact outG H' rfl rfl
theorem W_impl_setOf (list_ : List Int) (r' : Int) (h0' : impl_setOf list_ = some r') : Fn X 53 [.one (.list false 1 (List.map (rK .i64) list_))] [.one (.sc (.int .u64 r'))] [] := by
  have H' := And.intro t3 (And.intro t23 (And.intro t55 (And.intro t56 (R_i64))))
  unfold impl_setOf at h0'
  refine Fn.start (fn := f53) (N := 21) (res := [.tmp 2]) rfl rfl rfl rfl rfl (by simp) ?_
  refine enterG H' ?_
  refine wpV_seq1 ?_
  refine wpV_region ?_
  refine ops H' ?_
  refine opsN ?_
  refine wpV_seq1 ?_
  refine wpV_region ?_
  refine ops H' ?_
  refine opsN ?_
  refine wpV_seqJ (fun e' => ∃ s, impl_setOf_j1 s = some r' ∧ e' = { N := 21, np := 1, nx := 1, sl := [(3, .pl (.one (.v (.sc (.int .u64 s)))))], ob := [] }) ?_ ?_
  · refine wpV_seq1 ?_
    refine wpV_region ?_
    refine ops H' ?_
    refine opsN ?_
    obtain ⟨p, hl', h0'⟩ := Option.bind_eq_some_iff.1 h0'
    refine wpV_block ?_
    refine wpV_loopM (fun s' e' => ∃ s_1 x8, s' = (s_1, x8) ∧ e' = { N := 21, np := 1, nx := 1, sl := [(3, .pl (.one (.v (.sc (.int .u64 s_1))))), (6, .pl (.one (.v (.list false 1 (List.map (rK .i64) list_))))), (7, .pl (.one (.v (.sc (.int .i64 (list_.length : Int)))))), (8, .pl (.one (.v (.sc (.int .i64 x8)))))], ob := [] }) hl' (shd [3, 6, 7, 8] [] 1 ⟨_, _, rfl, rfl⟩) ?_
    rintro s' y1' e' h1' ⟨s_1, x8, rfl, rfl⟩
    replace h1' : impl_setOf_l1 list_ s_1 x8 = some y1' := h1'
    unfold impl_setOf_l1 at h1'
    refine wpV_seq1 ?_
    refine wpV_region ?_
    refine ops H' ?_
    refine opsN ?_
    refine wpV_seq1 ?_
    refine wpV_split (fun hc' => ?_) (fun hc' => ?_)
    · replace h1' := (ifT hc').symm.trans h1'
      refine skipN ?_
      refine wpV_seq1 ?_
      refine wpV_block ?_
      refine wpV_seq1 ?_
      refine wpV_region ?_
      obtain ⟨x, hv', h1'⟩ := Option.bind_eq_some_iff.1 h1'
      have H' := And.intro (geti_f hv') H'
      refine ops H' ?_
      refine opsN ?_
      refine wpV_seq1 ?_
      refine wpV_region ?_
      refine ops H' ?_
      obtain ⟨x13, hy', h1'⟩ := Option.bind_eq_some_iff.1 h1'
      refine callG H' (fun _ => []) (W_impl_inRange _ _ _ _ hy') ?_
      refine opsN ?_
      refine wpV_split (fun hc' => ?_) (fun hc' => ?_)
      · replace h1' := (ifT hc').symm.trans h1'
        refine wpV_region ?_
        obtain ⟨u, hv', h1'⟩ := Option.bind_eq_some_iff.1 h1'
        have H' := And.intro (chkF hv') H'
        refine ops H' ?_
        refine opsN ?_
        refine wpV_region ?_
        refine ops H' ?_
        refine opsN ?_
        obtain rfl := Option.some.inj h1'
        exact shd [3, 6, 7, 8] [] 1 ⟨_, rfl, _, _, rfl, rfl⟩
      · replace h1' := (ifF hc').symm.trans h1'
        refine skipN ?_
        refine wpV_region ?_
        refine ops H' ?_
        refine opsN ?_
        obtain rfl := Option.some.inj h1'
        exact shd [3, 6, 7, 8] [] 1 ⟨_, rfl, _, _, rfl, rfl⟩
    · replace h1' := (ifF hc').symm.trans h1'
      refine exitN ?_
      obtain rfl := Option.some.inj h1'
      refine ⟨_, rfl, fun hr' => ?_⟩
      subst hr'
      exact shd [3] [] 1 ⟨_, h0', rfl⟩
  · rintro e' ⟨s, h0', rfl⟩
    unfold impl_setOf_j1 at h0'
    refine wpV_seq1 ?_
    refine wpV_region ?_
    refine ops H' ?_
    refine opsN ?_
    refine retN ?_
    obtain rfl := Option.some.inj h0'
    exact outG H' rfl rfl
theorem W_impl_BitsOf (list_ : List Int) (r' : (List Int) × Bool) (h0' : impl_BitsOf list_ = some r') : Fn X 22 [.one (.list false 1 (List.map (rK .i64) list_))] [.one (.list true 1 (List.map (rK .u32) r'.1)), .one (.sc (.bool r'.2))] [] := by
  have H' := And.intro t3 (And.intro t22 (And.intro t23 (And.intro t39 (And.intro t55 (And.intro R_i64 (R_u32))))))
  unfold impl_BitsOf at h0'
  refine Fn.start (fn := f22) (N := 25) (res := [.tmp 2, .tmp 3]) rfl rfl rfl rfl rfl (by simp) ?_
  refine enterG H' ?_
  refine wpV_seq1 ?_
  refine wpV_region ?_
  refine ops H' ?_
  refine opsN ?_
  refine wpV_seqJ (fun e' => impl_BitsOf_j1 list_ = some r' ∧ e' = { N := 25, np := 1, nx := 1, sl := [(0, .pl (.one (.v (.list false 1 (List.map (rK .i64) list_)))))], ob := [] }) ?_ ?_
  · refine wpV_seq1 ?_
    refine wpV_region ?_
    refine ops H' ?_
    refine opsN ?_
    obtain ⟨p, hl', h0'⟩ := Option.bind_eq_some_iff.1 h0'
    refine wpV_block ?_
    refine wpV_loopM (fun x9 e' => e' = { N := 25, np := 1, nx := 1, sl := [(0, .pl (.one (.v (.list false 1 (List.map (rK .i64) list_))))), (7, .pl (.one (.v (.list false 1 (List.map (rK .i64) list_))))), (8, .pl (.one (.v (.sc (.int .i64 (list_.length : Int)))))), (9, .pl (.one (.v (.sc (.int .i64 x9)))))], ob := [] }) hl' (shd [0, 7, 8, 9] [] 1 rfl) ?_
    rintro x9 y1' e' h1' rfl
    replace h1' : impl_BitsOf_l1 list_ x9 = some y1' := h1'
    unfold impl_BitsOf_l1 at h1'
    refine wpV_seq1 ?_
    refine wpV_region ?_
    refine ops H' ?_
    refine opsN ?_
    refine wpV_seq1 ?_
    refine wpV_split (fun hc' => ?_) (fun hc' => ?_)
    · replace h1' := (ifT hc').symm.trans h1'
      refine skipN ?_
      refine wpV_seq1 ?_
      refine wpV_block ?_
      refine wpV_seq1 ?_
      refine wpV_region ?_
      obtain ⟨x, hv', h1'⟩ := Option.bind_eq_some_iff.1 h1'
      have H' := And.intro (geti_f hv') H'
      refine ops H' ?_
      refine opsN ?_
      refine wpV_seq1 ?_
      refine wpV_region ?_
      refine ops H' ?_
      obtain ⟨x14, hy', h1'⟩ := Option.bind_eq_some_iff.1 h1'
      refine callG H' (fun _ => []) (W_impl_inRange _ _ _ _ hy') ?_
      refine ops H' ?_
      refine opsN ?_
      refine wpV_split (fun hc' => ?_) (fun hc' => ?_)
      · replace h1' := (ifT hc').symm.trans h1'
        refine wpV_seq1 ?_
        refine wpV_region ?_
        refine ops H' ?_
        refine opsN ?_
        refine retN ?_
        obtain rfl := Option.some.inj h1'
        refine ⟨_, rfl, fun hr' => ?_⟩
        subst hr'
        obtain rfl := Option.some.inj h0'
        exact outG H' rfl rfl
      · replace h1' := (ifF hc').symm.trans h1'
        refine skipN ?_
        refine wpV_region ?_
        refine ops H' ?_
        refine opsN ?_
        obtain rfl := Option.some.inj h1'
        exact shd [0, 7, 8, 9] [] 1 ⟨_, rfl, rfl⟩
    · replace h1' := (ifF hc').symm.trans h1'
      refine exitN ?_
      obtain rfl := Option.some.inj h1'
      refine ⟨_, rfl, fun hr' => ?_⟩
      subst hr'
      exact shd [0] [] 1 ⟨h0', rfl⟩
  · rintro e' ⟨h0', rfl⟩
    unfold impl_BitsOf_j1 at h0'
    refine wpV_seq1 ?_
    refine wpV_region ?_
    refine ops H' ?_
    obtain ⟨x18, hy', h0'⟩ := Option.bind_eq_some_iff.1 h0'
    refine callG H' (fun _ => []) (W_impl_setOf _ _ hy') ?_
    refine ops H' ?_
    refine opsN ?_
    refine wpV_seq1 ?_
    refine wpV_region ?_
    refine ops H' ?_
    refine opsN ?_
    refine retN ?_
    obtain rfl := Option.some.inj h0'
    exact outG H' rfl rfl
theorem W_spec_l01In (x : Int) (least : Int) (most : Int) (r' : Bool) (h0' : spec_l01In x least most = some r') : Fn X 54 [.one (.sc (.int .i64 x)), .one (.sc (.int .i64 least)), .one (.sc (.int .i64 most))] [.one (.sc (.bool r'))] [] := by
  have H' := t3
  unfold spec_l01In at h0'
  refine Fn.start (fn := f54) (N := 15) (res := [.tmp 6]) rfl rfl rfl rfl rfl (by simp) ?_
  refine enterG H' ?_
  refine wpV_seq1 ?_
  refine wpV_region ?_
  refine ops H' ?_
  refine opsN ?_
  refine wpV_seq1 ?_
  refine wpV_region ?_
  refine ops H' ?_
  obtain ⟨b, gh0', h0'⟩ := Option.bind_eq_some_iff.1 h0'
  refine opsV_cut 4 (fun e' => e' = { N := 15, np := 3, nx := 3, sl := [(14, .pl (.one (.v (.sc (.bool b)))))], ob := [] }) ?_ ?_
  · simp only [List.take_succ_cons, List.take_zero]
    refine opsV_sp (fun hc' => ?_) (fun hc' => ?_)
    · replace gh0' := (ifT hc').symm.trans gh0'
      refine ops H' ?_
      obtain rfl := Option.some.inj gh0'
      refine opsV_nil ?_
      exact ⟨rfl, shd [14] [] 3 rfl⟩
    · replace gh0' := (ifF hc').symm.trans gh0'
      refine ops H' ?_
      obtain rfl := Option.some.inj gh0'
      refine opsV_nil ?_
      exact ⟨rfl, shd [14] [] 3 rfl⟩
  · rintro e' rfl
    simp only [List.drop_succ_cons, List.drop_zero]
    refine ops H' ?_
    refine opsN ?_
    refine retN ?_
    obtain rfl := Option.some.inj h0'
    exact outG H' rfl rfl
theorem W_spec_BitsOf (list_ : List Int) (r' : (List Int) × Bool) (h0' : spec_BitsOf list_ = some r') : Fn X 23 [.one (.list false 1 (List.map (rK .i64) list_))] [.one (.list true 1 (List.map (rK .u32) r'.1)), .one (.sc (.bool r'.2))] [] := by
  have H' := And.intro t3 (And.intro t22 (And.intro t23 (And.intro t39 (And.intro R_i64 (R_u32)))))
  unfold spec_BitsOf at h0'
  refine Fn.start (fn := f23) (N := 41) (res := [.tmp 2, .tmp 3]) rfl rfl rfl rfl rfl (by simp) ?_
  refine enterG H' ?_
  refine wpV_seq1 ?_
  refine wpV_region ?_
  refine ops H' ?_
  refine opsN ?_
  refine wpV_seq1 ?_
  refine wpV_region ?_
  refine ops H' ?_
  refine opsN ?_
  refine wpV_seqJ (fun e' => ∃ out_, spec_BitsOf_j1 out_ = some r' ∧ e' = { N := 41, np := 1, nx := 2, sl := [(4, .pl (.one (.ref 1 [])))], ob := [(1, .list true 1 (List.map (rK .u32) out_))] }) ?_ ?_
  · refine wpV_seq1 ?_
    refine wpV_region ?_
    refine ops H' ?_
    refine opsN ?_
    obtain ⟨p, hl', h0'⟩ := Option.bind_eq_some_iff.1 h0'
    refine wpV_block ?_
    refine wpV_loopM (fun s' e' => ∃ i out__1, s' = (i, out__1) ∧ e' = { N := 41, np := 1, nx := 2, sl := [(0, .pl (.one (.v (.list false 1 (List.map (rK .i64) list_))))), (4, .pl (.one (.ref 1 []))), (5, .pl (.one (.v (.sc (.int .i64 i)))))], ob := [(1, .list true 1 (List.map (rK .u32) out__1))] }) hl' (shd [0, 4, 5] [(2, 1)] 2 ⟨_, _, rfl, rfl⟩) ?_
    rintro s' y1' e' h1' ⟨i, out__1, rfl, rfl⟩
    replace h1' : spec_BitsOf_l1 list_ i out__1 = some y1' := h1'
    unfold spec_BitsOf_l1 at h1'
    refine wpV_seq1 ?_
    refine wpV_seq1 ?_
    refine wpV_region ?_
    refine ops H' ?_
    refine opsN ?_
    refine wpV_split (fun hc' => ?_) (fun hc' => ?_)
    · replace h1' := (ifT hc').symm.trans h1'
      refine skipN ?_
      refine wpV_seq1 ?_
      refine wpV_block ?_
      refine wpV_seq1 ?_
      refine wpV_seq1 ?_
      refine wpV_region ?_
      obtain ⟨x, hv', h1'⟩ := Option.bind_eq_some_iff.1 h1'
      have H' := And.intro (geti_f hv') H'
      refine ops H' ?_
      obtain ⟨x18, hy', h1'⟩ := Option.bind_eq_some_iff.1 h1'
      refine callG H' (fun _ => []) (W_spec_l01In _ _ _ _ hy') ?_
      refine ops H' ?_
      refine opsN ?_
      refine wpV_split (fun hc' => ?_) (fun hc' => ?_)
      · replace h1' := (ifT hc').symm.trans h1'
        refine wpV_seq1 ?_
        refine wpV_region ?_
        refine ops H' ?_
        refine opsN ?_
        refine retN ?_
        obtain rfl := Option.some.inj h1'
        refine ⟨_, rfl, fun hr' => ?_⟩
        subst hr'
        obtain rfl := Option.some.inj h0'
        exact outG H' rfl rfl
      · replace h1' := (ifF hc').symm.trans h1'
        refine skipN ?_
        refine wpV_seq1 ?_
        refine wpV_region ?_
        refine ops H' ?_
        refine opsN ?_
        refine regT 14 ?_
        simp only [List.take_succ_cons, List.take_zero, List.drop_succ_cons, List.drop_zero]
        obtain ⟨x_1, hv', h1'⟩ := Option.bind_eq_some_iff.1 h1'
        have H' := And.intro (geti_f hv') H'
        obtain ⟨u, hv', h1'⟩ := Option.bind_eq_some_iff.1 h1'
        have H' := And.intro (chkF hv') H'
        refine opsS H' ?_
        refine stN ?_
        refine ops H' ?_
        refine opsN ?_
        refine wpV_region ?_
        refine ops H' ?_
        refine opsN ?_
        obtain rfl := Option.some.inj h1'
        exact shd [0, 4, 5] [(1, 1)] 2 ⟨_, rfl, _, _, rfl, rfl⟩
    · replace h1' := (ifF hc').symm.trans h1'
      refine exitN ?_
      obtain rfl := Option.some.inj h1'
      refine ⟨_, rfl, fun hr' => ?_⟩
      subst hr'
      exact shd [4] [(1, 1)] 2 ⟨_, h0', rfl⟩
  · rintro e' ⟨out_, h0', rfl⟩
    unfold spec_BitsOf_j1 at h0'
    refine wpV_seq1 ?_
    refine wpV_region ?_
    refine ops H' ?_
    refine opsN ?_
    refine retN ?_
    obtain rfl := Option.some.inj h0'
    exact outG H' rfl rfl
theorem W_impl_set_has (s : Int) (v : Int) (r' : Bool) (h0' : impl_set_has s v = some r') : Fn X 58 [.one (.sc (.int .u64 s)), .one (.sc (.int .i64 v))] [.one (.sc (.bool r'))] [] := by
  have H' := And.intro t3 (And.intro t55 (t56))
  unfold impl_set_has at h0'
  refine Fn.start (fn := f58) (N := 15) (res := [.tmp 4]) rfl rfl rfl rfl rfl (by simp) ?_
  refine enterG H' ?_
  refine wpV_seq1 ?_
  refine wpV_region ?_
  refine ops H' ?_
  refine opsN ?_
  refine wpV_seq1 ?_
  refine wpV_region ?_
  refine ops H' ?_
  obtain ⟨x6, hy', h0'⟩ := Option.bind_eq_some_iff.1 h0'
  refine callG H' (fun _ => []) (W_impl_inRange _ _ _ _ hy') ?_
  refine ops H' ?_
  obtain ⟨b, gh0', h0'⟩ := Option.bind_eq_some_iff.1 h0'
  refine opsV_cut 7 (fun e' => e' = { N := 15, np := 2, nx := 2, sl := [(14, .pl (.one (.v (.sc (.bool b)))))], ob := [] }) ?_ ?_
  · simp only [List.take_succ_cons, List.take_zero]
    refine opsV_sp (fun hc' => ?_) (fun hc' => ?_)
    · replace gh0' := (ifT hc').symm.trans gh0'
      obtain ⟨u, hv', gh0'⟩ := Option.bind_eq_some_iff.1 gh0'
      have H' := And.intro (chkF hv') H'
      refine ops H' ?_
      obtain rfl := Option.some.inj gh0'
      refine opsV_nil ?_
      exact ⟨rfl, shd [14] [] 2 rfl⟩
    · replace gh0' := (ifF hc').symm.trans gh0'
      refine ops H' ?_
      obtain rfl := Option.some.inj gh0'
      refine opsV_nil ?_
      exact ⟨rfl, shd [14] [] 2 rfl⟩
  · rintro e' rfl
    simp only [List.drop_succ_cons, List.drop_zero]
    refine ops H' ?_
    refine opsN ?_
    refine retN ?_
    obtain rfl := Option.some.inj h0'
    exact outG H' rfl rfl
theorem W_impl_set_list (s : Int) (r' : (List Int)) (h0' : impl_set_list s = some r') : Fn X 47 [.one (.sc (.int .u64 s))] [.one (.list true 1 (List.map (rK .i64) r'))] [] := by
  have H' := And.intro t3 (And.intro t23 (R_i64))
  unfold impl_set_list at h0'
  refine Fn.start (fn := f47) (N := 17) (res := [.tmp 2]) rfl rfl rfl rfl rfl (by simp) ?_
  refine enterG H' ?_
  refine wpV_seq1 ?_
  refine wpV_region ?_
  refine ops H' ?_
  refine opsN ?_
  refine wpV_seq1 ?_
  refine wpV_region ?_
  refine ops H' ?_
  refine opsN ?_
  refine wpV_seqJ (fun e' => ∃ out_, impl_set_list_j1 out_ = some r' ∧ e' = { N := 17, np := 1, nx := 2, sl := [(3, .pl (.one (.ref 1 [])))], ob := [(1, .list true 1 (List.map (rK .i64) out_))] }) ?_ ?_
  · refine wpV_seq1 ?_
    refine wpV_region ?_
    refine ops H' ?_
    refine opsN ?_
    obtain ⟨p, hl', h0'⟩ := Option.bind_eq_some_iff.1 h0'
    refine wpV_block ?_
    refine wpV_loopM (fun s' e' => ∃ x5 out__1, s' = (x5, out__1) ∧ e' = { N := 17, np := 1, nx := 2, sl := [(0, .pl (.one (.v (.sc (.int .u64 s))))), (3, .pl (.one (.ref 1 []))), (5, .pl (.one (.v (.sc (.int .i64 x5)))))], ob := [(1, .list true 1 (List.map (rK .i64) out__1))] }) hl' (shd [0, 3, 5] [(2, 1)] 2 ⟨_, _, rfl, rfl⟩) ?_
    rintro s' y1' e' h1' ⟨x5, out__1, rfl, rfl⟩
    replace h1' : impl_set_list_l1 s x5 out__1 = some y1' := h1'
    unfold impl_set_list_l1 at h1'
    refine wpV_seq1 ?_
    refine wpV_region ?_
    refine ops H' ?_
    refine opsN ?_
    refine wpV_seq1 ?_
    refine wpV_split (fun hc' => ?_) (fun hc' => ?_)
    · replace h1' := (ifT hc').symm.trans h1'
      refine skipN ?_
      refine wpV_seq1 ?_
      refine wpV_block ?_
      refine wpV_seq1 ?_
      refine wpV_region ?_
      refine ops H' ?_
      refine opsN ?_
      refine wpV_seq1 ?_
      refine wpV_region ?_
      refine ops H' ?_
      obtain ⟨x10, hy', h1'⟩ := Option.bind_eq_some_iff.1 h1'
      refine callG H' (fun _ => []) (W_impl_set_has _ _ _ hy') ?_
      refine opsN ?_
      refine wpV_split (fun hc' => ?_) (fun hc' => ?_)
      · replace h1' := (ifT hc').symm.trans h1'
        refine wpV_region ?_
        obtain ⟨l, hv', h1'⟩ := Option.bind_eq_some_iff.1 h1'
        have H' := And.intro (app1_f hv') H'
        refine ops H' ?_
        refine opsN ?_
        refine wpV_region ?_
        refine ops H' ?_
        refine opsN ?_
        obtain rfl := Option.some.inj h1'
        exact shd [0, 3, 5] [(1, 1)] 2 ⟨_, rfl, _, _, rfl, rfl⟩
      · replace h1' := (ifF hc').symm.trans h1'
        refine skipN ?_
        refine wpV_region ?_
        refine ops H' ?_
        refine opsN ?_
        obtain rfl := Option.some.inj h1'
        exact shd [0, 3, 5] [(1, 1)] 2 ⟨_, rfl, _, _, rfl, rfl⟩
    · replace h1' := (ifF hc').symm.trans h1'
      refine exitN ?_
      obtain rfl := Option.some.inj h1'
      refine ⟨_, rfl, fun hr' => ?_⟩
      subst hr'
      exact shd [3] [(1, 1)] 2 ⟨_, h0', rfl⟩
  · rintro e' ⟨out_, h0', rfl⟩
    unfold impl_set_list_j1 at h0'
    refine wpV_seq1 ?_
    refine wpV_region ?_
    refine ops H' ?_
    refine opsN ?_
    refine retN ?_
    obtain rfl := Option.some.inj h0'
    exact outG H' rfl rfl
theorem W_impl_ListOf (bits_ : List Int) (r' : (List Int) × Bool) (h0' : impl_ListOf bits_ = some r') : Fn X 14 [.one (.list false 1 (List.map (rK .u32) bits_))] [.one (.list true 1 (List.map (rK .i64) r'.1)), .one (.sc (.bool r'.2))] [] := by
  have H' := And.intro t3 (And.intro t22 (And.intro t39 (And.intro t55 (And.intro R_i64 (R_u32)))))
  unfold impl_ListOf at h0'
  refine Fn.start (fn := f14) (N := 18) (res := [.tmp 2, .tmp 3]) rfl rfl rfl rfl rfl (by simp) ?_
  refine enterG H' ?_
  refine wpV_seq1 ?_
  refine wpV_region ?_
  refine ops H' ?_
  refine opsN ?_
  refine wpV_seq1 ?_
  refine wpV_seq1 ?_
  refine wpV_region ?_
  refine ops H' ?_
  refine opsN ?_
  refine wpV_split (fun hc' => ?_) (fun hc' => ?_)
  · replace h0' := (ifT hc').symm.trans h0'
    refine wpV_seq1 ?_
    refine wpV_region ?_
    refine ops H' ?_
    refine opsN ?_
    refine retN ?_
    obtain rfl := Option.some.inj h0'
    exact outG H' rfl rfl
  · replace h0' := (ifF hc').symm.trans h0'
    refine skipN ?_
    refine wpV_seq1 ?_
    refine regT 10 ?_
    simp only [List.take_succ_cons, List.take_zero, List.drop_succ_cons, List.drop_zero]
    obtain ⟨x, hv', h0'⟩ := Option.bind_eq_some_iff.1 h0'
    have H' := And.intro (geti_f hv') H'
    obtain ⟨x_1, hv', h0'⟩ := Option.bind_eq_some_iff.1 h0'
    have H' := And.intro (geti_f hv') H'
    refine opsS H' ?_
    refine stN ?_
    obtain ⟨x17, hy', h0'⟩ := Option.bind_eq_some_iff.1 h0'
    refine callG H' (fun _ => []) (W_impl_set_list _ _ hy') ?_
    refine ops H' ?_
    refine opsN ?_
    refine retN ?_
    obtain rfl := Option.some.inj h0'
    exact outG H' rfl rfl
theorem W_laws_within (list_ : List Int) (x : Int) (r' : Bool) (h0' : laws_within list_ x = some r') : Fn X 24 [.one (.list false 1 (List.map (rK .i64) list_)), .one (.sc (.int .i64 x))] [.one (.sc (.bool r'))] [] := by
  have H' := And.intro t3 (And.intro t23 (R_i64))
  unfold laws_within at h0'
  refine Fn.start (fn := f24) (N := 18) (res := [.tmp 4]) rfl rfl rfl rfl rfl (by simp) ?_
  refine enterG H' ?_
  refine wpV_seq1 ?_
  refine wpV_region ?_
  refine ops H' ?_
  refine opsN ?_
  refine wpV_seqJ (fun e' => laws_within_j1 = some r' ∧ e' = { N := 18, np := 2, nx := 2, sl := [], ob := [] }) ?_ ?_
  · refine wpV_seq1 ?_
    refine wpV_region ?_
    refine ops H' ?_
    refine opsN ?_
    obtain ⟨p, hl', h0'⟩ := Option.bind_eq_some_iff.1 h0'
    refine wpV_block ?_
    refine wpV_loopM (fun i e' => e' = { N := 18, np := 2, nx := 2, sl := [(0, .pl (.one (.v (.list false 1 (List.map (rK .i64) list_))))), (1, .pl (.one (.v (.sc (.int .i64 x))))), (5, .pl (.one (.v (.sc (.int .i64 i)))))], ob := [] }) hl' (shd [0, 1, 5] [] 2 rfl) ?_
    rintro i y1' e' h1' rfl
    replace h1' : laws_within_l1 list_ x i = some y1' := h1'
    unfold laws_within_l1 at h1'
    refine wpV_seq1 ?_
    refine wpV_seq1 ?_
    refine wpV_region ?_
    refine ops H' ?_
    refine opsN ?_
    refine wpV_split (fun hc' => ?_) (fun hc' => ?_)
    · replace h1' := (ifT hc').symm.trans h1'
      refine skipN ?_
      refine wpV_seq1 ?_
      refine wpV_block ?_
      refine wpV_seq1 ?_
      refine wpV_region ?_
      obtain ⟨x_1, hv', h1'⟩ := Option.bind_eq_some_iff.1 h1'
      have H' := And.intro (geti_f hv') H'
      refine ops H' ?_
      refine opsN ?_
      refine wpV_split (fun hc' => ?_) (fun hc' => ?_)
      · replace h1' := (ifT hc').symm.trans h1'
        refine wpV_seq1 ?_
        refine wpV_region ?_
        refine ops H' ?_
        refine opsN ?_
        refine retN ?_
        obtain rfl := Option.some.inj h1'
        refine ⟨_, rfl, fun hr' => ?_⟩
        subst hr'
        obtain rfl := Option.some.inj h0'
        exact outG H' rfl rfl
      · replace h1' := (ifF hc').symm.trans h1'
        refine skipN ?_
        refine wpV_region ?_
        refine ops H' ?_
        refine opsN ?_
        obtain rfl := Option.some.inj h1'
        exact shd [0, 1, 5] [] 2 ⟨_, rfl, rfl⟩
    · replace h1' := (ifF hc').symm.trans h1'
      refine exitN ?_
      obtain rfl := Option.some.inj h1'
      refine ⟨_, rfl, fun hr' => ?_⟩
      subst hr'
      exact shd [] [] 2 ⟨h0', rfl⟩
  · rintro e' ⟨h0', rfl⟩
    unfold laws_within_j1 at h0'
    refine wpV_seq1 ?_
    refine wpV_region ?_
    refine ops H' ?_
    refine opsN ?_
    refine retN ?_
    obtain rfl := Option.some.inj h0'
    exact outG H' rfl rfl
theorem W_spec_DrawListOf (code : List Int) (r' : (List Int)) (h0' : spec_DrawListOf code = some r') : Fn X 25 [.one (.list false 1 (List.map (rK .u8) code))] [.one (.list true 1 (List.map (rK .u32) r'))] [] := by
  have H' := And.intro t3 (And.intro t22 (And.intro t39 (And.intro R_u32 (R_u8))))
  unfold spec_DrawListOf at h0'
  refine Fn.start (fn := f25) (N := 19) (res := [.tmp 2]) rfl rfl rfl rfl rfl (by simp) ?_
  refine enterG H' ?_
  refine wpV_seq1 ?_
  refine wpV_region ?_
  refine ops H' ?_
  refine opsN ?_
  refine wpV_seq1 ?_
  refine wpV_region ?_
  refine ops H' ?_
  obtain ⟨x6, hy', h0'⟩ := Option.bind_eq_some_iff.1 h0'
  refine callGD H' (fun _ => []) (W_spec_l01New _ _ hy') ?_
  refine ops H' ?_
  refine opsN ?_
  refine wpV_seq1 ?_
  refine wpV_region ?_
  refine ops H' ?_
  obtain ⟨x8, hy', h0'⟩ := Option.bind_eq_some_iff.1 h0'
  refine callGD H' (fun _ => [0]) (W_spec_l01Below _ _ _ hy') ?_
  refine ops H' ?_
  obtain ⟨x11, hy', h0'⟩ := Option.bind_eq_some_iff.1 h0'
  refine callGD H' (fun _ => [0]) (W_spec_l01Below _ _ _ hy') ?_
  refine ops H' ?_
  refine opsN ?_
  refine wpV_seq1 ?_
  refine wpV_seq1 ?_
  refine wpV_region ?_
  refine ops H' ?_
  obtain ⟨x15, hy', h0'⟩ := Option.bind_eq_some_iff.1 h0'
  refine callGD H' (fun _ => [0]) (W_spec_l01Once _ _ _ hy') ?_
  refine opsN ?_
  refine wpV_split (fun hc' => ?_) (fun hc' => ?_)
  · replace h0' := (ifT hc').symm.trans h0'
    refine wpV_region ?_
    refine ops H' ?_
    have H' := And.intro (show (1 : Int).toNat = 1 from rfl) H'
    refine opsV_cutO H' ?_
    refine ops H' ?_
    refine opsN ?_
    refine wpV_seq1 ?_
    refine wpV_region ?_
    refine ops H' ?_
    refine opsN ?_
    refine retN ?_
    obtain rfl := Option.some.inj h0'
    exact outG H' rfl rfl
  · replace h0' := (ifF hc').symm.trans h0'
    refine skipN ?_
    refine wpV_seq1 ?_
    refine wpV_region ?_
    refine ops H' ?_
    refine opsN ?_
    refine retN ?_
    obtain rfl := Option.some.inj h0'
    exact outG H' rfl rfl
theorem W_laws_FnBits (code : List Int) (r' : Bool) (h0' : laws_FnBits code = some r') : Fn X 4 [.one (.list false 1 (List.map (rK .u8) code))] [.one (.sc (.bool r'))] [] := by
  have H' := And.intro t3 (And.intro t4 (And.intro t22 (And.intro t23 (And.intro t39 (And.intro R_i64 (And.intro R_u32 (R_u8)))))))
  unfold laws_FnBits at h0'
  refine Fn.start (fn := f4) (N := 126) (res := [.tmp 2]) rfl rfl rfl rfl rfl (by simp) ?_
  refine enterG H' ?_
  refine wpV_seq1 ?_
  refine wpV_region ?_
  refine ops H' ?_
  refine opsN ?_
  refine wpV_seq1 ?_
  refine wpV_seq1 ?_
  refine wpV_region ?_
  refine ops H' ?_
  obtain ⟨x18, hy', h0'⟩ := Option.bind_eq_some_iff.1 h0'
  refine callG H' (fun _ => []) (W_laws_big _ _ hy') ?_
  refine opsN ?_
  refine wpV_split (fun hc' => ?_) (fun hc' => ?_)
  · replace h0' := (ifT hc').symm.trans h0'
    refine wpV_seq1 ?_
    refine wpV_region ?_
    refine ops H' ?_
    refine opsN ?_
    refine retN ?_
    obtain rfl := Option.some.inj h0'
    exact outG H' rfl rfl
  · replace h0' := (ifF hc').symm.trans h0'
    refine skipN ?_
    refine wpV_seq1 ?_
    refine wpV_region ?_
    refine ops H' ?_
    obtain ⟨x20, hy', h0'⟩ := Option.bind_eq_some_iff.1 h0'
    refine callG H' (fun _ => []) (W_spec_DrawBitsOf _ _ hy') ?_
    refine ops H' ?_
    refine opsN ?_
    refine wpV_seq1 ?_
    refine wpV_region ?_
    refine ops H' ?_
    obtain ⟨x23, hy', h0'⟩ := Option.bind_eq_some_iff.1 h0'
    refine callG H' (fun _ => []) (W_impl_BitsOf _ _ hy') ?_
    refine ops H' ?_
    refine opsN ?_
    refine wpV_seq1 ?_
    refine wpV_region ?_
    refine ops H' ?_
    obtain ⟨x28, hy', h0'⟩ := Option.bind_eq_some_iff.1 h0'
    refine callG H' (fun _ => []) (W_spec_BitsOf _ _ hy') ?_
    refine ops H' ?_
    refine opsN ?_
    refine wpV_seq1 ?_
    refine wpV_seq1 ?_
    refine wpV_region ?_
    refine ops H' ?_
    refine opsN ?_
    refine wpV_split (fun hc' => ?_) (fun hc' => ?_)
    · replace h0' := (ifT hc').symm.trans h0'
      refine wpV_seq1 ?_
      refine wpV_region ?_
      refine ops H' ?_
      refine opsN ?_
      refine retN ?_
      obtain rfl := Option.some.inj h0'
      exact outG H' rfl rfl
    · replace h0' := (ifF hc').symm.trans h0'
      refine skipN ?_
      refine wpV_seqJ (fun e' => laws_FnBits_j1 code = some r' ∧ e' = { N := 126, np := 1, nx := 1, sl := [(0, .pl (.one (.v (.list false 1 (List.map (rK .u8) code)))))], ob := [] }) ?_ ?_
      · refine wpV_seq1 ?_
        refine wpV_region ?_
        refine ops H' ?_
        refine opsN ?_
        refine wpV_split (fun hc' => ?_) (fun hc' => ?_)
        · replace h0' := (ifT hc').symm.trans h0'
          refine wpV_seq1 ?_
          refine wpV_region ?_
          refine ops H' ?_
          obtain ⟨x37, hy', h0'⟩ := Option.bind_eq_some_iff.1 h0'
          refine callG H' (fun _ => []) (W_impl_ListOf _ _ hy') ?_
          refine ops H' ?_
          refine opsN ?_
          refine wpV_seq1 ?_
          refine wpV_seq1 ?_
          refine wpV_region ?_
          refine ops H' ?_
          refine opsN ?_
          refine wpV_split (fun hc' => ?_) (fun hc' => ?_)
          · replace h0' := (ifT hc').symm.trans h0'
            refine wpV_seq1 ?_
            refine wpV_region ?_
            refine ops H' ?_
            refine opsN ?_
            refine retN ?_
            obtain rfl := Option.some.inj h0'
            exact outG H' rfl rfl
          · replace h0' := (ifF hc').symm.trans h0'
            refine skipN ?_
            refine wpV_seqJ (fun e' => laws_FnBits_j2 code x20 x37 = some r' ∧ e' = { N := 126, np := 1, nx := 3, sl := [(0, .pl (.one (.v (.list false 1 (List.map (rK .u8) code))))), (3, .pl (.one (.ref 1 []))), (8, .pl (.one (.ref 2 [])))], ob := [(1, .list true 1 (List.map (rK .i64) x20)), (2, .list true 1 (List.map (rK .i64) x37.1))] }) ?_ ?_
            · refine wpV_seq1 ?_
              refine wpV_region ?_
              refine ops H' ?_
              refine opsN ?_
              obtain ⟨p_1, hl', h0'⟩ := Option.bind_eq_some_iff.1 h0'
              refine wpV_block ?_
              refine wpV_loopM (fun i_1 e' => e' = { N := 126, np := 1, nx := 3, sl := [(0, .pl (.one (.v (.list false 1 (List.map (rK .u8) code))))), (3, .pl (.one (.ref 1 []))), (8, .pl (.one (.ref 2 []))), (10, .pl (.one (.v (.sc (.int .i64 i_1)))))], ob := [(1, .list true 1 (List.map (rK .i64) x20)), (2, .list true 1 (List.map (rK .i64) x37.1))] }) hl' (shd [0, 3, 8, 10] [(2, 1), (7, 2)] 3 rfl) ?_
              rintro i_1 y1' e' h1' rfl
              replace h1' : laws_FnBits_l2 x20 x37 i_1 = some y1' := h1'
              unfold laws_FnBits_l2 at h1'
              refine wpV_seq1 ?_
              refine wpV_seq1 ?_
              refine wpV_region ?_
              refine ops H' ?_
              refine opsN ?_
              refine wpV_split (fun hc' => ?_) (fun hc' => ?_)
              · replace h1' := (ifT hc').symm.trans h1'
                refine skipN ?_
                refine wpV_seq1 ?_
                refine wpV_block ?_
                refine wpV_seq1 ?_
                refine wpV_region ?_
                obtain ⟨x_6, hv', h1'⟩ := Option.bind_eq_some_iff.1 h1'
                have H' := And.intro (geti_f hv') H'
                refine ops H' ?_
                obtain ⟨x53, hy', h1'⟩ := Option.bind_eq_some_iff.1 h1'
                refine callG H' (fun _ => []) (W_laws_within _ _ _ hy') ?_
                refine ops H' ?_
                refine opsN ?_
                refine wpV_split (fun hc' => ?_) (fun hc' => ?_)
                · replace h1' := (ifT hc').symm.trans h1'
                  refine wpV_seq1 ?_
                  refine wpV_region ?_
                  refine ops H' ?_
                  refine opsN ?_
                  refine retN ?_
                  obtain rfl := Option.some.inj h1'
                  refine ⟨_, rfl, fun hr' => ?_⟩
                  subst hr'
                  obtain rfl := Option.some.inj h0'
                  exact outG H' rfl rfl
                · replace h1' := (ifF hc').symm.trans h1'
                  refine skipN ?_
                  refine wpV_region ?_
                  refine ops H' ?_
                  refine opsN ?_
                  obtain rfl := Option.some.inj h1'
                  exact shd [0, 3, 8, 10] [(1, 1), (2, 2)] 3 ⟨_, rfl, rfl⟩
              · replace h1' := (ifF hc').symm.trans h1'
                refine exitN ?_
                obtain rfl := Option.some.inj h1'
                refine ⟨_, rfl, fun hr' => ?_⟩
                subst hr'
                exact shd [0, 3, 8] [(1, 1), (2, 2)] 3 ⟨h0', rfl⟩
            · rintro e' ⟨h0', rfl⟩
              unfold laws_FnBits_j2 at h0'
              refine wpV_seq1 ?_
              refine wpV_region ?_
              refine ops H' ?_
              refine opsN ?_
              obtain ⟨p, hl', h0'⟩ := Option.bind_eq_some_iff.1 h0'
              refine wpV_block ?_
              refine wpV_loopM (fun i e' => e' = { N := 126, np := 1, nx := 3, sl := [(0, .pl (.one (.v (.list false 1 (List.map (rK .u8) code))))), (3, .pl (.one (.ref 1 []))), (8, .pl (.one (.ref 2 []))), (11, .pl (.one (.v (.sc (.int .i64 i)))))], ob := [(1, .list true 1 (List.map (rK .i64) x20)), (2, .list true 1 (List.map (rK .i64) x37.1))] }) hl' (shd [0, 3, 8, 11] [(1, 1), (2, 2)] 3 rfl) ?_
              rintro i y1' e' h1' rfl
              replace h1' : laws_FnBits_l1 x20 x37 i = some y1' := h1'
              unfold laws_FnBits_l1 at h1'
              refine wpV_seq1 ?_
              refine wpV_seq1 ?_
              refine wpV_region ?_
              refine ops H' ?_
              refine opsN ?_
              refine wpV_split (fun hc' => ?_) (fun hc' => ?_)
              · replace h1' := (ifT hc').symm.trans h1'
                refine skipN ?_
                refine wpV_seq1 ?_
                refine wpV_block ?_
                refine wpV_seq1 ?_
                refine regQ ?_
                obtain ⟨x_4, hv', h1'⟩ := Option.bind_eq_some_iff.1 h1'
                have H' := And.intro (geti_f hv') H'
                refine ops H' ?_
                obtain ⟨x66, hy', h1'⟩ := Option.bind_eq_some_iff.1 h1'
                refine callGQ H' (W_laws_within _ _ _ hy') ?_
                refine ops H' ?_
                obtain ⟨b_4, gh1', h1'⟩ := Option.bind_eq_some_iff.1 h1'
                refine quV_cut 15 (fun e' => e' = { N := 126, np := 1, nx := 3, sl := [(0, .pl (.one (.v (.list false 1 (List.map (rK .u8) code))))), (3, .pl (.one (.ref 1 []))), (8, .pl (.one (.ref 2 []))), (11, .pl (.one (.v (.sc (.int .i64 i))))), (83, .pl (.one (.v (.sc (.bool b_4)))))], ob := [(1, .list true 1 (List.map (rK .i64) x20)), (2, .list true 1 (List.map (rK .i64) x37.1))] }) ?_ ?_
                · simp only [List.take_succ_cons, List.take_zero]
                  refine quV_sp (fun hc' => ?_) (fun hc' => ?_)
                  · replace gh1' := (ifF hc').symm.trans gh1'
                    refine ops H' ?_
                    obtain ⟨b_5, ggh1', gh1'⟩ := Option.bind_eq_some_iff.1 gh1'
                    refine quV_cut 11 (fun e' => e' = { N := 126, np := 1, nx := 3, sl := [(0, .pl (.one (.v (.list false 1 (List.map (rK .u8) code))))), (3, .pl (.one (.ref 1 []))), (8, .pl (.one (.ref 2 []))), (11, .pl (.one (.v (.sc (.int .i64 i))))), (68, .pl (.one (.v (.sc (.bool false))))), (69, .pl (.one (.v (.sc (.int .i64 i))))), (70, .pl (.one (.v (.sc (.bool (decide (i > 0))))))), (82, .pl (.one (.v (.sc (.bool b_5)))))], ob := [(1, .list true 1 (List.map (rK .i64) x20)), (2, .list true 1 (List.map (rK .i64) x37.1))] }) ?_ ?_
                    · simp only [List.take_succ_cons, List.take_zero]
                      refine quV_sp (fun hc' => ?_) (fun hc' => ?_)
                      · replace ggh1' := (ifT hc').symm.trans ggh1'
                        obtain ⟨x_5, hv', ggh1'⟩ := Option.bind_eq_some_iff.1 ggh1'
                        have H' := And.intro (geti_f hv') H'
                        refine ops H' ?_
                        obtain rfl := Option.some.inj ggh1'
                        refine quV_nil ?_
                        exact ⟨rfl, shd [0, 3, 8, 11, 68, 69, 70, 82] [(1, 1), (2, 2)] 3 rfl⟩
                      · replace ggh1' := (ifF hc').symm.trans ggh1'
                        refine ops H' ?_
                        obtain rfl := Option.some.inj ggh1'
                        refine quV_nil ?_
                        exact ⟨rfl, shd [0, 3, 8, 11, 68, 69, 70, 82] [(1, 1), (2, 2)] 3 rfl⟩
                    · rintro e' rfl
                      simp only [List.drop_succ_cons, List.drop_zero]
                      refine ops H' ?_
                      obtain rfl := Option.some.inj gh1'
                      refine quV_nil ?_
                      exact ⟨rfl, shd [0, 3, 8, 11, 83] [(1, 1), (2, 2)] 3 rfl⟩
                  · replace gh1' := (ifT hc').symm.trans gh1'
                    refine ops H' ?_
                    obtain rfl := Option.some.inj gh1'
                    refine quV_nil ?_
                    exact ⟨rfl, shd [0, 3, 8, 11, 83] [(1, 1), (2, 2)] 3 rfl⟩
                · rintro e' rfl
                  simp only [List.drop_succ_cons, List.drop_zero]
                  refine quN ?_
                  refine wpV_split (fun hc' => ?_) (fun hc' => ?_)
                  · replace h1' := (ifT hc').symm.trans h1'
                    refine wpV_seq1 ?_
                    refine wpV_region ?_
                    refine ops H' ?_
                    refine opsN ?_
                    refine retN ?_
                    obtain rfl := Option.some.inj h1'
                    refine ⟨_, rfl, fun hr' => ?_⟩
                    subst hr'
                    obtain rfl := Option.some.inj h0'
                    exact outG H' rfl rfl
                  · replace h1' := (ifF hc').symm.trans h1'
                    refine skipN ?_
                    refine wpV_region ?_
                    refine ops H' ?_
                    refine opsN ?_
                    obtain rfl := Option.some.inj h1'
                    exact shd [0, 3, 8, 11] [(1, 1), (2, 2)] 3 ⟨_, rfl, rfl⟩
              · replace h1' := (ifF hc').symm.trans h1'
                refine exitN ?_
                obtain rfl := Option.some.inj h1'
                refine ⟨_, rfl, fun hr' => ?_⟩
                subst hr'
                exact shd [0] [] 1 ⟨h0', rfl⟩
        · replace h0' := (ifF hc').symm.trans h0'
          refine skipN ?_
          exact shd [0] [] 1 ⟨h0', rfl⟩
      · rintro e' ⟨h0', rfl⟩
        unfold laws_FnBits_j1 at h0'
        refine wpV_seq1 ?_
        refine wpV_region ?_
        refine ops H' ?_
        obtain ⟨x85, hy', h0'⟩ := Option.bind_eq_some_iff.1 h0'
        refine callG H' (fun _ => []) (W_spec_DrawListOf _ _ hy') ?_
        refine ops H' ?_
        refine opsN ?_
        refine wpV_seq1 ?_
        refine wpV_seq1 ?_
        refine wpV_region ?_
        refine ops H' ?_
        refine opsN ?_
        refine wpV_split (fun hc' => ?_) (fun hc' => ?_)
        · replace h0' := (ifT hc').symm.trans h0'
          refine wpV_seq1 ?_
          refine wpV_region ?_
          refine ops H' ?_
          refine opsN ?_
          refine retN ?_
          obtain rfl := Option.some.inj h0'
          exact outG H' rfl rfl
        · replace h0' := (ifF hc').symm.trans h0'
          refine skipN ?_
          refine wpV_seq1 ?_
          refine wpV_region ?_
          refine ops H' ?_
          obtain ⟨x91, hy', h0'⟩ := Option.bind_eq_some_iff.1 h0'
          refine callG H' (fun _ => []) (W_impl_ListOf _ _ hy') ?_
          refine ops H' ?_
          refine opsN ?_
          refine wpV_seq1 ?_
          refine wpV_region ?_
          refine ops H' ?_
          obtain ⟨x96, hy', h0'⟩ := Option.bind_eq_some_iff.1 h0'
          refine callG H' (fun _ => []) (W_impl_BitsOf _ _ hy') ?_
          refine ops H' ?_
          refine opsN ?_
          refine wpV_seq1 ?_
          refine regQ ?_
          refine ops H' ?_
          obtain ⟨b, gh0', h0'⟩ := Option.bind_eq_some_iff.1 h0'
          refine quV_cut 2 (fun e' => e' = { N := 126, np := 1, nx := 3, sl := [(12, .pl (.one (.ref 1 []))), (15, .pl (.one (.ref 2 []))), (102, .pl (.one (.v (.sc (.bool b)))))], ob := [(1, .list true 1 (List.map (rK .u32) x85)), (2, .list true 1 (List.map (rK .u32) x96.1))] }) ?_ ?_
          · simp only [List.take_succ_cons, List.take_zero]
            refine quV_sp (fun hc' => ?_) (fun hc' => ?_)
            · replace gh0' := (ifT hc').symm.trans gh0'
              refine ops H' ?_
              obtain rfl := Option.some.inj gh0'
              refine quV_nil ?_
              exact ⟨rfl, shd [12, 15, 102] [(1, 1), (4, 2)] 3 rfl⟩
            · replace gh0' := (ifF hc').symm.trans gh0'
              refine ops H' ?_
              obtain rfl := Option.some.inj gh0'
              refine quV_nil ?_
              exact ⟨rfl, shd [12, 15, 102] [(1, 1), (4, 2)] 3 rfl⟩
          · rintro e' rfl
            simp only [List.drop_succ_cons, List.drop_zero]
            refine ops H' ?_
            obtain ⟨b_1, gh0', h0'⟩ := Option.bind_eq_some_iff.1 h0'
            refine quV_cut 4 (fun e' => e' = { N := 126, np := 1, nx := 3, sl := [(12, .pl (.one (.ref 1 []))), (15, .pl (.one (.ref 2 []))), (107, .pl (.one (.v (.sc (.bool b_1)))))], ob := [(1, .list true 1 (List.map (rK .u32) x85)), (2, .list true 1 (List.map (rK .u32) x96.1))] }) ?_ ?_
            · simp only [List.take_succ_cons, List.take_zero]
              refine quV_sp (fun hc' => ?_) (fun hc' => ?_)
              · replace gh0' := (ifT hc').symm.trans gh0'
                refine ops H' ?_
                obtain rfl := Option.some.inj gh0'
                refine quV_nil ?_
                exact ⟨rfl, shd [12, 15, 107] [(1, 1), (2, 2)] 3 rfl⟩
              · replace gh0' := (ifF hc').symm.trans gh0'
                refine ops H' ?_
                obtain rfl := Option.some.inj gh0'
                refine quV_nil ?_
                exact ⟨rfl, shd [12, 15, 107] [(1, 1), (2, 2)] 3 rfl⟩
            · rintro e' rfl
              simp only [List.drop_succ_cons, List.drop_zero]
              refine ops H' ?_
              obtain ⟨b_2, gh0', h0'⟩ := Option.bind_eq_some_iff.1 h0'
              refine quV_cut 8 (fun e' => e' = { N := 126, np := 1, nx := 3, sl := [(12, .pl (.one (.ref 1 []))), (15, .pl (.one (.ref 2 []))), (116, .pl (.one (.v (.sc (.bool b_2)))))], ob := [(1, .list true 1 (List.map (rK .u32) x85)), (2, .list true 1 (List.map (rK .u32) x96.1))] }) ?_ ?_
              · simp only [List.take_succ_cons, List.take_zero]
                refine quV_sp (fun hc' => ?_) (fun hc' => ?_)
                · replace gh0' := (ifT hc').symm.trans gh0'
                  obtain ⟨x, hv', gh0'⟩ := Option.bind_eq_some_iff.1 gh0'
                  have H' := And.intro (geti_f hv') H'
                  obtain ⟨x_1, hv', gh0'⟩ := Option.bind_eq_some_iff.1 gh0'
                  have H' := And.intro (geti_f hv') H'
                  refine ops H' ?_
                  obtain rfl := Option.some.inj gh0'
                  refine quV_nil ?_
                  exact ⟨rfl, shd [12, 15, 116] [(1, 1), (2, 2)] 3 rfl⟩
                · replace gh0' := (ifF hc').symm.trans gh0'
                  refine ops H' ?_
                  obtain rfl := Option.some.inj gh0'
                  refine quV_nil ?_
                  exact ⟨rfl, shd [12, 15, 116] [(1, 1), (2, 2)] 3 rfl⟩
              · rintro e' rfl
                simp only [List.drop_succ_cons, List.drop_zero]
                refine ops H' ?_
                obtain ⟨b_3, gh0', h0'⟩ := Option.bind_eq_some_iff.1 h0'
                refine quV_cut 8 (fun e' => e' = { N := 126, np := 1, nx := 1, sl := [(125, .pl (.one (.v (.sc (.bool b_3)))))], ob := [] }) ?_ ?_
                · simp only [List.take_succ_cons, List.take_zero]
                  refine quV_sp (fun hc' => ?_) (fun hc' => ?_)
                  · replace gh0' := (ifT hc').symm.trans gh0'
                    obtain ⟨x_2, hv', gh0'⟩ := Option.bind_eq_some_iff.1 gh0'
                    have H' := And.intro (geti_f hv') H'
                    obtain ⟨x_3, hv', gh0'⟩ := Option.bind_eq_some_iff.1 gh0'
                    have H' := And.intro (geti_f hv') H'
                    refine ops H' ?_
                    obtain rfl := Option.some.inj gh0'
                    refine quV_nil ?_
                    exact ⟨rfl, shd [125] [] 1 rfl⟩
                  · replace gh0' := (ifF hc').symm.trans gh0'
                    refine ops H' ?_
                    obtain rfl := Option.some.inj gh0'
                    refine quV_nil ?_
                    exact ⟨rfl, shd [125] [] 1 rfl⟩
                · rintro e' rfl
                  simp only [List.drop_succ_cons, List.drop_zero]
                  refine ops H' ?_
                  refine quN ?_
                  refine retN ?_
                  obtain rfl := Option.some.inj h0'
                  exact outG H' rfl rfl
end Go.TV.KFnBits
