/- Walks. -/
import Derived.Test.YtpfmkkkmfddabaaKFnBasesE
set_option linter.unusedVariables false
set_option linter.unusedSimpArgs false
set_option maxHeartbeats 8000000
set_option maxRecDepth 100000
namespace Go.TV.KFnBases
attribute [local irreducible] anyV wpV opsV Does thenV blockV RetL quV seqV
open Go.Proofs.Try Go.TV.F
theorem W_laws_big (code : List Int) (r' : Bool) (h0' : laws_big code = some r') : Fn X 20 [.one (.list false 1 (List.map (rK .u8) code))] [.one (.sc (.bool r'))] [] := by
  have H' := And.intro t3 (And.intro t32 (R_u8))
  unfold laws_big at h0'
  refine Fn.start (fn := f20) (N := 6) (res := [.tmp 2]) rfl rfl rfl rfl rfl (by simp) ?_
  refine enterG H' ?_
  refine wpV_seq1 ?_
  refine wpV_region ?_
  refine ops H' ?_
  refine opsN ?_
  refine wpV_seq1 ?_
  refine wpV_region ?_
  refine ops H' ?_
  refine opsN ?_
  refine retN ?_
  obtain rfl := Option.some.inj h0'
  exact outG H' rfl rfl
theorem W_spec_l01New (code : List Int) (r' : T_spec_l01Cur) (h0' : spec_l01New code = some r') : Fn X 48 [.one (.list false 1 (List.map (rK .u8) code))] [.one (.box true [.list false 1 (List.map (rK .u8) r'.b), .sc (.int .i64 r'.i), .sc (.int .i64 r'.h)])] [] := by
  have H' := And.intro t3 (And.intro t5 (And.intro t32 (And.intro t80 (R_u8))))
  unfold spec_l01New at h0'
  refine Fn.start (fn := f48) (N := 32) (res := [.tmp 2]) rfl rfl rfl rfl rfl (by simp) ?_
  refine enterG H' ?_
  refine wpV_seq1 ?_
  refine wpV_region ?_
  refine ops H' ?_
  refine opsN ?_
  refine wpV_seq1 ?_
  refine wpV_region ?_
  refine ops H' ?_
  refine opsN ?_
  refine wpV_seqJ (fun e' => ∃ h, spec_l01New_j1 code h = some r' ∧ e' = { N := 32, np := 1, nx := 1, sl := [(0, .pl (.one (.v (.list false 1 (List.map (rK .u8) code))))), (3, .pl (.one (.v (.sc (.int .i64 h)))))], ob := [] }) ?_ ?_
  · refine wpV_seq1 ?_
    refine wpV_region ?_
    refine ops H' ?_
    refine opsN ?_
    obtain ⟨p, hl', h0'⟩ := Option.bind_eq_some_iff.1 h0'
    refine wpV_block ?_
    refine wpV_loopM (fun s' e' => ∃ h_1 i, s' = (h_1, i) ∧ e' = { N := 32, np := 1, nx := 1, sl := [(0, .pl (.one (.v (.list false 1 (List.map (rK .u8) code))))), (3, .pl (.one (.v (.sc (.int .i64 h_1))))), (4, .pl (.one (.v (.sc (.int .i64 i)))))], ob := [] }) hl' (shd [0, 3, 4] [] 1 ⟨_, _, rfl, rfl⟩) ?_
    rintro s' y1' e' h1' ⟨h_1, i, rfl, rfl⟩
    replace h1' : spec_l01New_l1 code h_1 i = some y1' := h1'
    unfold spec_l01New_l1 at h1'
    refine wpV_seq1 ?_
    refine wpV_seq1 ?_
    refine wpV_region ?_
    refine ops H' ?_
    obtain ⟨b, gh1', h1'⟩ := Option.bind_eq_some_iff.1 h1'
    refine opsV_cut 3 (fun e' => e' = { N := 32, np := 1, nx := 1, sl := [(0, .pl (.one (.v (.list false 1 (List.map (rK .u8) code))))), (3, .pl (.one (.v (.sc (.int .i64 h_1))))), (4, .pl (.one (.v (.sc (.int .i64 i))))), (15, .pl (.one (.v (.sc (.bool b)))))], ob := [] }) ?_ ?_
    · simp only [List.take_succ_cons, List.take_zero]
      refine opsV_sp (fun hc' => ?_) (fun hc' => ?_)
      · replace gh1' := (ifT hc').symm.trans gh1'
        refine ops H' ?_
        obtain rfl := Option.some.inj gh1'
        refine opsV_nil ?_
        exact ⟨rfl, shd [0, 3, 4, 15] [] 1 rfl⟩
      · replace gh1' := (ifF hc').symm.trans gh1'
        refine ops H' ?_
        obtain rfl := Option.some.inj gh1'
        refine opsV_nil ?_
        exact ⟨rfl, shd [0, 3, 4, 15] [] 1 rfl⟩
    · rintro e' rfl
      simp only [List.drop_succ_cons, List.drop_zero]
      refine opsN ?_
      refine wpV_split (fun hc' => ?_) (fun hc' => ?_)
      · replace h1' := (ifT hc').symm.trans h1'
        refine skipN ?_
        refine wpV_seq1 ?_
        refine wpV_block ?_
        refine wpV_region ?_
        obtain ⟨x, hv', h1'⟩ := Option.bind_eq_some_iff.1 h1'
        have H' := And.intro (geti_f hv') H'
        refine ops H' ?_
        refine opsN ?_
        refine wpV_region ?_
        refine ops H' ?_
        refine opsN ?_
        obtain rfl := Option.some.inj h1'
        exact shd [0, 3, 4] [] 1 ⟨_, rfl, _, _, rfl, rfl⟩
      · replace h1' := (ifF hc').symm.trans h1'
        refine exitN ?_
        obtain rfl := Option.some.inj h1'
        refine ⟨_, rfl, fun hr' => ?_⟩
        subst hr'
        exact shd [0, 3] [] 1 ⟨_, h0', rfl⟩
  · rintro e' ⟨h, h0', rfl⟩
    unfold spec_l01New_j1 at h0'
    refine wpV_seq1 ?_
    refine wpV_region ?_
    refine ops H' ?_
    refine opsN ?_
    refine retN ?_
    obtain rfl := Option.some.inj h0'
    exact outG H' rfl rfl
theorem W_spec_l01Byte (c : T_spec_l01Cur) (r' : Int × T_spec_l01Cur) (h0' : spec_l01Byte c = some r') : Fn X 67 [.one (.box true [.list false 1 (List.map (rK .u8) c.b), .sc (.int .i64 c.i), .sc (.int .i64 c.h)])] [.one (.sc (.int .i64 r'.1))] [(0, .box true [.list false 1 (List.map (rK .u8) r'.2.b), .sc (.int .i64 r'.2.i), .sc (.int .i64 r'.2.h)])] := by
  have H' := And.intro t3 (And.intro t5 (And.intro t32 (And.intro t80 (R_u8))))
  unfold spec_l01Byte at h0'
  refine Fn.start (fn := f67) (N := 58) (res := [.tmp 2]) rfl rfl rfl rfl rfl (by simp) ?_
  refine enterG H' ?_
  refine wpV_seq1 ?_
  refine wpV_region ?_
  refine ops H' ?_
  refine opsN ?_
  refine wpV_seq1 ?_
  refine wpV_region ?_
  refine ops H' ?_
  refine opsN ?_
  refine wpV_seq1 ?_
  refine regQ ?_
  refine ops H' ?_
  refine quN ?_
  refine wpV_seq1 ?_
  refine wpV_seq1 ?_
  refine regQ ?_
  refine ops H' ?_
  refine quN ?_
  refine wpV_split (fun hc' => ?_) (fun hc' => ?_)
  · replace h0' := (ifT hc').symm.trans h0'
    refine wpV_seq1 ?_
    refine regQ ?_
    obtain ⟨x, hv', h0'⟩ := Option.bind_eq_some_iff.1 h0'
    have H' := And.intro (geti_f hv') H'
    refine ops H' ?_
    refine quN ?_
    refine wpV_region ?_
    refine ops H' ?_
    refine opsN ?_
    refine wpV_seq1 ?_
    refine wpV_region ?_
    refine ops H' ?_
    refine opsN ?_
    refine retN ?_
    obtain rfl := Option.some.inj h0'
    exact outG H' rfl rfl
  · replace h0' := (ifF hc').symm.trans h0'
    refine skipN ?_
    refine wpV_seq1 ?_
    refine wpV_region ?_
    refine ops H' ?_
    refine opsN ?_
    refine retN ?_
    obtain rfl := Option.some.inj h0'
    exact outG H' rfl rfl
theorem W_spec_l01Below (c : T_spec_l01Cur) (n : Int) (r' : Int × T_spec_l01Cur) (h0' : spec_l01Below c n = some r') : Fn X 49 [.one (.box true [.list false 1 (List.map (rK .u8) c.b), .sc (.int .i64 c.i), .sc (.int .i64 c.h)]), .one (.sc (.int .i64 n))] [.one (.sc (.int .i64 r'.1))] [(0, .box true [.list false 1 (List.map (rK .u8) r'.2.b), .sc (.int .i64 r'.2.i), .sc (.int .i64 r'.2.h)])] := by
  have H' := And.intro t3 (R_u8)
  unfold spec_l01Below at h0'
  refine Fn.start (fn := f49) (N := 37) (res := [.tmp 4]) rfl rfl rfl rfl rfl (by simp) ?_
  refine enterG H' ?_
  refine wpV_seq1 ?_
  refine wpV_region ?_
  refine ops H' ?_
  refine opsN ?_
  refine wpV_seq1 ?_
  refine wpV_seq1 ?_
  refine wpV_region ?_
  refine ops H' ?_
  refine opsN ?_
  refine wpV_split (fun hc' => ?_) (fun hc' => ?_)
  · replace h0' := (ifT hc').symm.trans h0'
    refine wpV_seq1 ?_
    refine wpV_region ?_
    refine ops H' ?_
    refine opsN ?_
    refine retN ?_
    obtain rfl := Option.some.inj h0'
    exact outG H' rfl rfl
  · replace h0' := (ifF hc').symm.trans h0'
    refine skipN ?_
    refine wpV_seq1 ?_
    refine wpV_seq1 ?_
    refine wpV_region ?_
    refine ops H' ?_
    refine opsN ?_
    refine wpV_split (fun hc' => ?_) (fun hc' => ?_)
    · replace h0' := (ifT hc').symm.trans h0'
      refine wpV_seq1 ?_
      refine wpV_region ?_
      refine ops H' ?_
      obtain ⟨x14, hy', h0'⟩ := Option.bind_eq_some_iff.1 h0'
      refine callGD H' (fun _ => [0]) (W_spec_l01Byte _ _ hy') ?_
      obtain ⟨u, hv', h0'⟩ := Option.bind_eq_some_iff.1 h0'
      have H' := And.intro (chkF hv') H'
      refine ops H' ?_
      refine opsN ?_
      refine retN ?_
      obtain rfl := Option.some.inj h0'
      exact outG H' rfl rfl
    · replace h0' := (ifF hc').symm.trans h0'
      refine skipN ?_
      refine wpV_seq1 ?_
      refine wpV_region ?_
      refine ops H' ?_
      obtain ⟨x18, hy', h0'⟩ := Option.bind_eq_some_iff.1 h0'
      refine callGD H' (fun _ => [0]) (W_spec_l01Byte _ _ hy') ?_
      refine ops H' ?_
      refine opsN ?_
      refine wpV_seq1 ?_
      refine wpV_region ?_
      refine ops H' ?_
      obtain ⟨x20, hy', h0'⟩ := Option.bind_eq_some_iff.1 h0'
      refine callGD H' (fun _ => [0]) (W_spec_l01Byte _ _ hy') ?_
      refine ops H' ?_
      refine opsN ?_
      refine wpV_seq1 ?_
      refine wpV_region ?_
      refine ops H' ?_
      obtain ⟨x22, hy', h0'⟩ := Option.bind_eq_some_iff.1 h0'
      refine callGD H' (fun _ => [0]) (W_spec_l01Byte _ _ hy') ?_
      refine ops H' ?_
      refine opsN ?_
      refine wpV_seq1 ?_
      refine wpV_region ?_
      refine ops H' ?_
      obtain ⟨x24, hy', h0'⟩ := Option.bind_eq_some_iff.1 h0'
      refine callGD H' (fun _ => [0]) (W_spec_l01Byte _ _ hy') ?_
      refine ops H' ?_
      refine opsN ?_
      refine wpV_seq1 ?_
      refine wpV_region ?_
      obtain ⟨u_1, hv', h0'⟩ := Option.bind_eq_some_iff.1 h0'
      have H' := And.intro (chkF hv') H'
      refine ops H' ?_
      refine opsN ?_
      refine retN ?_
      obtain rfl := Option.some.inj h0'
      exact outG H' rfl rfl
theorem W_spec_l01Once (c : T_spec_l01Cur) (n : Int) (r' : Bool × T_spec_l01Cur) (h0' : spec_l01Once c n = some r') : Fn X 50 [.one (.box true [.list false 1 (List.map (rK .u8) c.b), .sc (.int .i64 c.i), .sc (.int .i64 c.h)]), .one (.sc (.int .i64 n))] [.one (.sc (.bool r'.1))] [(0, .box true [.list false 1 (List.map (rK .u8) r'.2.b), .sc (.int .i64 r'.2.i), .sc (.int .i64 r'.2.h)])] := by
  have H' := And.intro t3 (R_u8)
  unfold spec_l01Once at h0'
  refine Fn.start (fn := f50) (N := 9) (res := [.tmp 4]) rfl rfl rfl rfl rfl (by simp) ?_
  refine enterG H' ?_
  refine wpV_seq1 ?_
  refine wpV_region ?_
  refine ops H' ?_
  refine opsN ?_
  refine wpV_seq1 ?_
  refine wpV_region ?_
  refine ops H' ?_
  obtain ⟨x7, hy', h0'⟩ := Option.bind_eq_some_iff.1 h0'
  refine callGD H' (fun _ => [0]) (W_spec_l01Below _ _ _ hy') ?_
  refine ops H' ?_
  refine opsN ?_
  refine retN ?_
  obtain rfl := Option.some.inj h0'
  exact outG H' rfl rfl
theorem W_spec_l05Parents (c : T_spec_l01Cur) (n : Int) (r' : (List Int) × T_spec_l01Cur) (h0' : spec_l05Parents c n = some r') : Fn X 55 [.one (.box true [.list false 1 (List.map (rK .u8) c.b), .sc (.int .i64 c.i), .sc (.int .i64 c.h)]), .one (.sc (.int .i64 n))] [.one (.list true 1 (List.map (rK .i64) r'.1))] [(0, .box true [.list false 1 (List.map (rK .u8) r'.2.b), .sc (.int .i64 r'.2.i), .sc (.int .i64 r'.2.h)])] := by
  have H' := And.intro t3 (And.intro t23 (And.intro R_i64 (R_u8)))
  unfold spec_l05Parents at h0'
  refine Fn.start (fn := f55) (N := 38) (res := [.tmp 4]) rfl rfl rfl rfl rfl (by simp) ?_
  refine enterG H' ?_
  refine wpV_seq1 ?_
  refine wpV_region ?_
  refine ops H' ?_
  refine opsN ?_
  refine wpV_seq1 ?_
  refine wpV_region ?_
  refine ops H' ?_
  refine opsN ?_
  refine wpV_seqJ (fun e' => ∃ c_1 c_2 c_3 out_, spec_l05Parents_j1 c_1 c_2 c_3 out_ = some r' ∧ e' = { N := 38, np := 2, nx := 3, sl := [(5, .pl (.one (.ref 2 [])))], ob := [(0, .box true [.list false 1 (List.map (rK .u8) c_1), .sc (.int .i64 c_2), .sc (.int .i64 c_3)]), (2, .list true 1 (List.map (rK .i64) out_))] }) ?_ ?_
  · refine wpV_seq1 ?_
    refine wpV_region ?_
    refine ops H' ?_
    refine opsN ?_
    obtain ⟨p, hl', h0'⟩ := Option.bind_eq_some_iff.1 h0'
    refine wpV_block ?_
    refine wpV_loopM (fun s' e' => ∃ v c_4 c_5 c_6 out__1, s' = (v, c_4, c_5, c_6, out__1) ∧ e' = { N := 38, np := 2, nx := 3, sl := [(0, .pl (.one (.ref 0 []))), (1, .pl (.one (.v (.sc (.int .i64 n))))), (5, .pl (.one (.ref 2 []))), (6, .pl (.one (.v (.sc (.int .i64 v)))))], ob := [(0, .box true [.list false 1 (List.map (rK .u8) c_4), .sc (.int .i64 c_5), .sc (.int .i64 c_6)]), (2, .list true 1 (List.map (rK .i64) out__1))] }) hl' (shd [0, 1, 5, 6] [(0, 0), (3, 2)] 3 ⟨_, _, _, _, _, rfl, rfl⟩) ?_
    rintro s' y1' e' h1' ⟨v, c_4, c_5, c_6, out__1, rfl, rfl⟩
    replace h1' : spec_l05Parents_l1 n v c_4 c_5 c_6 out__1 = some y1' := h1'
    unfold spec_l05Parents_l1 at h1'
    refine wpV_seq1 ?_
    refine wpV_seq1 ?_
    refine wpV_region ?_
    refine ops H' ?_
    refine opsN ?_
    refine wpV_split (fun hc' => ?_) (fun hc' => ?_)
    · replace h1' := (ifT hc').symm.trans h1'
      refine skipN ?_
      refine wpV_seq1 ?_
      refine wpV_block ?_
      refine wpV_seq1 ?_
      refine wpV_region ?_
      refine ops H' ?_
      obtain ⟨b, gh1', h1'⟩ := Option.bind_eq_some_iff.1 h1'
      refine opsV_cut 16 (fun e' => e' = { N := 38, np := 2, nx := 3, sl := [(0, .pl (.one (.ref 0 []))), (1, .pl (.one (.v (.sc (.int .i64 n))))), (5, .pl (.one (.ref 2 []))), (6, .pl (.one (.v (.sc (.int .i64 v))))), (32, .pl (.one (.v (.sc (.bool b.1)))))], ob := [(0, .box true [.list false 1 (List.map (rK .u8) b.2.1), .sc (.int .i64 b.2.2.1), .sc (.int .i64 b.2.2.2)]), (2, .list true 1 (List.map (rK .i64) out__1))] }) ?_ ?_
      · simp only [List.take_succ_cons, List.take_zero]
        refine opsV_sp (fun hc' => ?_) (fun hc' => ?_)
        · replace gh1' := (ifT hc').symm.trans gh1'
          refine ops H' ?_
          obtain ⟨b_1, ggh1', gh1'⟩ := Option.bind_eq_some_iff.1 gh1'
          refine opsV_cut 4 (fun e' => e' = { N := 38, np := 2, nx := 3, sl := [(0, .pl (.one (.ref 0 []))), (1, .pl (.one (.v (.sc (.int .i64 n))))), (5, .pl (.one (.ref 2 []))), (6, .pl (.one (.v (.sc (.int .i64 v))))), (16, .pl (.one (.v (.sc (.bool true))))), (17, .pl (.one (.v (.sc (.int .i64 v))))), (18, .pl (.one (.v (.sc (.int .i64 n))))), (19, .pl (.one (.v (.sc (.int .i64 (wk .i64 (n - 1))))))), (20, .pl (.one (.v (.sc (.bool (v == (wk .i64 (n - 1)))))))), (25, .pl (.one (.v (.sc (.bool b_1.1)))))], ob := [(0, .box true [.list false 1 (List.map (rK .u8) b_1.2.1), .sc (.int .i64 b_1.2.2.1), .sc (.int .i64 b_1.2.2.2)]), (2, .list true 1 (List.map (rK .i64) out__1))] }) ?_ ?_
          · simp only [List.take_succ_cons, List.take_zero]
            refine opsV_sp (fun hc' => ?_) (fun hc' => ?_)
            · replace ggh1' := (ifT hc').symm.trans ggh1'
              refine ops H' ?_
              obtain ⟨x23, hy', ggh1'⟩ := Option.bind_eq_some_iff.1 ggh1'
              refine callGD H' (fun _ => [0]) (W_spec_l01Once _ _ _ hy') ?_
              refine ops H' ?_
              obtain rfl := Option.some.inj ggh1'
              refine opsV_nil ?_
              exact ⟨rfl, shd [0, 1, 5, 6, 16, 17, 18, 19, 20, 25] [(0, 0), (2, 2)] 3 rfl⟩
            · replace ggh1' := (ifF hc').symm.trans ggh1'
              refine ops H' ?_
              obtain rfl := Option.some.inj ggh1'
              refine opsV_nil ?_
              exact ⟨rfl, shd [0, 1, 5, 6, 16, 17, 18, 19, 20, 25] [(0, 0), (2, 2)] 3 rfl⟩
          · rintro e' rfl
            simp only [List.drop_succ_cons, List.drop_zero]
            refine ops H' ?_
            obtain ⟨b_2, ggh1', gh1'⟩ := Option.bind_eq_some_iff.1 gh1'
            refine opsV_cut 5 (fun e' => e' = { N := 38, np := 2, nx := 3, sl := [(0, .pl (.one (.ref 0 []))), (1, .pl (.one (.v (.sc (.int .i64 n))))), (5, .pl (.one (.ref 2 []))), (6, .pl (.one (.v (.sc (.int .i64 v))))), (16, .pl (.one (.v (.sc (.bool true))))), (17, .pl (.one (.v (.sc (.int .i64 v))))), (18, .pl (.one (.v (.sc (.int .i64 n))))), (19, .pl (.one (.v (.sc (.int .i64 (wk .i64 (n - 1))))))), (20, .pl (.one (.v (.sc (.bool (v == (wk .i64 (n - 1)))))))), (25, .pl (.one (.v (.sc (.bool b_1.1))))), (31, .pl (.one (.v (.sc (.bool b_2.1)))))], ob := [(0, .box true [.list false 1 (List.map (rK .u8) b_2.2.1), .sc (.int .i64 b_2.2.2.1), .sc (.int .i64 b_2.2.2.2)]), (2, .list true 1 (List.map (rK .i64) out__1))] }) ?_ ?_
            · simp only [List.take_succ_cons, List.take_zero]
              refine opsV_sp (fun hc' => ?_) (fun hc' => ?_)
              · replace ggh1' := (ifF hc').symm.trans ggh1'
                refine ops H' ?_
                obtain ⟨x30, hy', ggh1'⟩ := Option.bind_eq_some_iff.1 ggh1'
                refine callGD H' (fun _ => [0]) (W_spec_l01Once _ _ _ hy') ?_
                refine ops H' ?_
                obtain rfl := Option.some.inj ggh1'
                refine opsV_nil ?_
                exact ⟨rfl, shd [0, 1, 5, 6, 16, 17, 18, 19, 20, 25, 31] [(0, 0), (2, 2)] 3 rfl⟩
              · replace ggh1' := (ifT hc').symm.trans ggh1'
                refine ops H' ?_
                obtain rfl := Option.some.inj ggh1'
                refine opsV_nil ?_
                exact ⟨rfl, shd [0, 1, 5, 6, 16, 17, 18, 19, 20, 25, 31] [(0, 0), (2, 2)] 3 rfl⟩
            · rintro e' rfl
              simp only [List.drop_succ_cons, List.drop_zero]
              refine ops H' ?_
              obtain rfl := Option.some.inj gh1'
              refine opsV_nil ?_
              exact ⟨rfl, shd [0, 1, 5, 6, 32] [(0, 0), (2, 2)] 3 rfl⟩
        · replace gh1' := (ifF hc').symm.trans gh1'
          refine ops H' ?_
          obtain rfl := Option.some.inj gh1'
          refine opsV_nil ?_
          exact ⟨rfl, shd [0, 1, 5, 6, 32] [(0, 0), (2, 2)] 3 rfl⟩
      · rintro e' rfl
        simp only [List.drop_succ_cons, List.drop_zero]
        refine opsN ?_
        refine wpV_split (fun hc' => ?_) (fun hc' => ?_)
        · replace h1' := (ifT hc').symm.trans h1'
          refine wpV_region ?_
          obtain ⟨l, hv', h1'⟩ := Option.bind_eq_some_iff.1 h1'
          have H' := And.intro (app1_f hv') H'
          refine ops H' ?_
          refine opsN ?_
          refine wpV_region ?_
          refine ops H' ?_
          refine opsN ?_
          obtain rfl := Option.some.inj h1'
          exact shd [0, 1, 5, 6] [(0, 0), (2, 2)] 3 ⟨_, rfl, _, _, _, _, _, rfl, rfl⟩
        · replace h1' := (ifF hc').symm.trans h1'
          refine skipN ?_
          refine wpV_region ?_
          refine ops H' ?_
          refine opsN ?_
          obtain rfl := Option.some.inj h1'
          exact shd [0, 1, 5, 6] [(0, 0), (2, 2)] 3 ⟨_, rfl, _, _, _, _, _, rfl, rfl⟩
    · replace h1' := (ifF hc').symm.trans h1'
      refine exitN ?_
      obtain rfl := Option.some.inj h1'
      refine ⟨_, rfl, fun hr' => ?_⟩
      subst hr'
      exact shd [5] [(0, 0), (2, 2)] 3 ⟨_, _, _, _, h0', rfl⟩
  · rintro e' ⟨c_1, c_2, c_3, out_, h0', rfl⟩
    unfold spec_l05Parents_j1 at h0'
    refine wpV_seq1 ?_
    refine wpV_region ?_
    refine ops H' ?_
    refine opsN ?_
    refine retN ?_
    obtain rfl := Option.some.inj h0'
    exact outG H' rfl rfl
theorem W_spec_DrawRightGraph (code : List Int) (r' : (List (List Int))) (h0' : spec_DrawRightGraph code = some r') : Fn X 26 [.one (.list false 1 (List.map (rK .u8) code))] [.one (.list true 1 (List.map (rL true 1 (rK .i64)) r'))] [] := by
  have H' := And.intro t3 (And.intro t23 (And.intro t40 (And.intro R_Li64 (And.intro R_i64 (R_u8)))))
  unfold spec_DrawRightGraph at h0'
  refine Fn.start (fn := f26) (N := 23) (res := [.tmp 2]) rfl rfl rfl rfl rfl (by simp) ?_
  refine enterG H' ?_
  refine wpV_seq1 ?_
  refine wpV_region ?_
  refine ops H' ?_
  refine opsN ?_
  refine wpV_seq1 ?_
  refine wpV_region ?_
  refine ops H' ?_
  obtain ⟨x7, hy', h0'⟩ := Option.bind_eq_some_iff.1 h0'
  refine callGD H' (fun _ => []) (W_spec_l01New _ _ hy') ?_
  refine ops H' ?_
  refine opsN ?_
  refine wpV_seq1 ?_
  refine wpV_region ?_
  refine ops H' ?_
  refine opsN ?_
  refine wpV_seqJ (fun e' => ∃ out_, spec_DrawRightGraph_j1 out_ = some r' ∧ e' = { N := 23, np := 1, nx := 2, sl := [(4, .pl (.one (.ref 1 [])))], ob := [(1, .list true 1 (List.map (rL true 1 (rK .i64)) out_))] }) ?_ ?_
  · refine wpV_seq1 ?_
    refine wpV_region ?_
    refine ops H' ?_
    refine opsN ?_
    obtain ⟨p, hl', h0'⟩ := Option.bind_eq_some_iff.1 h0'
    refine wpV_block ?_
    refine wpV_loopM (fun s' e' => ∃ v c c_1 c_2 out__1, s' = (v, c, c_1, c_2, out__1) ∧ e' = { N := 23, np := 1, nx := 3, sl := [(3, .pl (.one (.ref 1 []))), (4, .pl (.one (.ref 2 []))), (5, .pl (.one (.v (.sc (.int .i64 v)))))], ob := [(1, .box true [.list false 1 (List.map (rK .u8) c), .sc (.int .i64 c_1), .sc (.int .i64 c_2)]), (2, .list true 1 (List.map (rL true 1 (rK .i64)) out__1))] }) hl' (shd [3, 4, 5] [(2, 1), (3, 2)] 3 ⟨_, _, _, _, _, rfl, rfl⟩) ?_
    rintro s' y1' e' h1' ⟨v, c, c_1, c_2, out__1, rfl, rfl⟩
    replace h1' : spec_DrawRightGraph_l1 v c c_1 c_2 out__1 = some y1' := h1'
    unfold spec_DrawRightGraph_l1 at h1'
    refine wpV_seq1 ?_
    refine wpV_seq1 ?_
    refine wpV_region ?_
    refine ops H' ?_
    obtain ⟨x11, hy', h1'⟩ := Option.bind_eq_some_iff.1 h1'
    refine callGD H' (fun _ => [0]) (W_spec_l01Below _ _ _ hy') ?_
    refine ops H' ?_
    refine opsN ?_
    refine wpV_split (fun hc' => ?_) (fun hc' => ?_)
    · replace h1' := (ifT hc').symm.trans h1'
      refine skipN ?_
      refine wpV_seq1 ?_
      refine wpV_block ?_
      refine wpV_region ?_
      refine ops H' ?_
      obtain ⟨x19, hy', h1'⟩ := Option.bind_eq_some_iff.1 h1'
      refine callGD H' (fun _ => [0]) (W_spec_l05Parents _ _ _ hy') ?_
      obtain ⟨l, hv', h1'⟩ := Option.bind_eq_some_iff.1 h1'
      have H' := And.intro (app1_f hv') H'
      refine ops H' ?_
      refine opsN ?_
      refine wpV_region ?_
      refine ops H' ?_
      refine opsN ?_
      obtain rfl := Option.some.inj h1'
      exact shd [3, 4, 5] [(1, 1), (2, 2)] 3 ⟨_, rfl, _, _, _, _, _, rfl, rfl⟩
    · replace h1' := (ifF hc').symm.trans h1'
      refine exitN ?_
      obtain rfl := Option.some.inj h1'
      refine ⟨_, rfl, fun hr' => ?_⟩
      subst hr'
      exact shd [4] [(2, 1)] 2 ⟨_, h0', rfl⟩
  · rintro e' ⟨out_, h0', rfl⟩
    unfold spec_DrawRightGraph_j1 at h0'
    refine wpV_seq1 ?_
    refine wpV_region ?_
    refine ops H' ?_
    refine opsN ?_
    refine retN ?_
    obtain rfl := Option.some.inj h0'
    exact outG H' rfl rfl
theorem W_spec_DrawPlaces (code : List Int) (r' : (List Int)) (h0' : spec_DrawPlaces code = some r') : Fn X 43 [.one (.list false 1 (List.map (rK .u8) code))] [.one (.list true 1 (List.map (rK .i64) r'))] [] := by
  have H' := And.intro t3 (And.intro t23 (And.intro R_i64 (R_u8)))
  unfold spec_DrawPlaces at h0'
  refine Fn.start (fn := f43) (N := 21) (res := [.tmp 2]) rfl rfl rfl rfl rfl (by simp) ?_
  refine enterG H' ?_
  refine wpV_seq1 ?_
  refine wpV_region ?_
  refine ops H' ?_
  refine opsN ?_
  refine wpV_seq1 ?_
  refine wpV_region ?_
  refine ops H' ?_
  obtain ⟨x7, hy', h0'⟩ := Option.bind_eq_some_iff.1 h0'
  refine callGD H' (fun _ => []) (W_spec_l01New _ _ hy') ?_
  refine ops H' ?_
  refine opsN ?_
  refine wpV_seq1 ?_
  refine wpV_region ?_
  refine ops H' ?_
  obtain ⟨x9, hy', h0'⟩ := Option.bind_eq_some_iff.1 h0'
  refine callGD H' (fun _ => [0]) (W_spec_l01Byte _ _ hy') ?_
  refine opsN ?_
  refine wpV_seq1 ?_
  refine wpV_region ?_
  refine ops H' ?_
  refine opsN ?_
  refine wpV_seqJ (fun e' => ∃ out_, spec_DrawPlaces_j1 out_ = some r' ∧ e' = { N := 21, np := 1, nx := 2, sl := [(4, .pl (.one (.ref 1 [])))], ob := [(1, .list true 1 (List.map (rK .i64) out_))] }) ?_ ?_
  · refine wpV_seq1 ?_
    refine wpV_region ?_
    refine ops H' ?_
    refine opsN ?_
    obtain ⟨p, hl', h0'⟩ := Option.bind_eq_some_iff.1 h0'
    refine wpV_block ?_
    refine wpV_loopM (fun s' e' => ∃ i c c_1 c_2 out__1, s' = (i, c, c_1, c_2, out__1) ∧ e' = { N := 21, np := 1, nx := 3, sl := [(3, .pl (.one (.ref 1 []))), (4, .pl (.one (.ref 2 []))), (5, .pl (.one (.v (.sc (.int .i64 i)))))], ob := [(1, .box true [.list false 1 (List.map (rK .u8) c), .sc (.int .i64 c_1), .sc (.int .i64 c_2)]), (2, .list true 1 (List.map (rK .i64) out__1))] }) hl' (shd [3, 4, 5] [(2, 1), (4, 2)] 3 ⟨_, _, _, _, _, rfl, rfl⟩) ?_
    rintro s' y1' e' h1' ⟨i, c, c_1, c_2, out__1, rfl, rfl⟩
    replace h1' : spec_DrawPlaces_l1 i c c_1 c_2 out__1 = some y1' := h1'
    unfold spec_DrawPlaces_l1 at h1'
    refine wpV_seq1 ?_
    refine wpV_seq1 ?_
    refine wpV_region ?_
    refine ops H' ?_
    refine opsN ?_
    refine wpV_split (fun hc' => ?_) (fun hc' => ?_)
    · replace h1' := (ifT hc').symm.trans h1'
      refine skipN ?_
      refine wpV_seq1 ?_
      refine wpV_block ?_
      refine wpV_region ?_
      refine ops H' ?_
      obtain ⟨x17, hy', h1'⟩ := Option.bind_eq_some_iff.1 h1'
      refine callGD H' (fun _ => [0]) (W_spec_l01Below _ _ _ hy') ?_
      obtain ⟨l, hv', h1'⟩ := Option.bind_eq_some_iff.1 h1'
      have H' := And.intro (app1_f hv') H'
      refine ops H' ?_
      refine opsN ?_
      refine wpV_region ?_
      refine ops H' ?_
      refine opsN ?_
      obtain rfl := Option.some.inj h1'
      exact shd [3, 4, 5] [(1, 1), (2, 2)] 3 ⟨_, rfl, _, _, _, _, _, rfl, rfl⟩
    · replace h1' := (ifF hc').symm.trans h1'
      refine exitN ?_
      obtain rfl := Option.some.inj h1'
      refine ⟨_, rfl, fun hr' => ?_⟩
      subst hr'
      exact shd [4] [(2, 1)] 2 ⟨_, h0', rfl⟩
  · rintro e' ⟨out_, h0', rfl⟩
    unfold spec_DrawPlaces_j1 at h0'
    refine wpV_seq1 ?_
    refine wpV_region ?_
    refine ops H' ?_
    refine opsN ?_
    refine retN ?_
    obtain rfl := Option.some.inj h0'
    exact outG H' rfl rfl
theorem W_impl_inRange (n : Int) (least : Int) (most : Int) (r' : Bool) (h0' : impl_inRange n least most = some r') : Fn X 52 [.one (.sc (.int .i64 n)), .one (.sc (.int .i64 least)), .one (.sc (.int .i64 most))] [.one (.sc (.bool r'))] [] := by
  have H' := t3
  unfold impl_inRange at h0'
  refine Fn.start (fn := f52) (N := 15) (res := [.tmp 6]) rfl rfl rfl rfl rfl (by simp) ?_
  refine enterG H' ?_
  refine wpV_seq1 ?_
  refine wpV_region ?_
  refine ops H' ?_
  refine opsN ?_
  refine wpV_seq1 ?_
  refine wpV_region ?_
  refine ops H' ?_
  obtain ⟨b, gh0', h0'⟩ := Option.bind_eq_some_iff.1 h0'
  refine opsV_cut 4 (fun e' => e' = { N := 15, np := 3, nx := 3, sl := [(14, .pl (.one (.v (.sc (.bool b)))))], ob := [] }) ?_ ?_
  · simp only [List.take_succ_cons, List.take_zero]
    refine opsV_sp (fun hc' => ?_) (fun hc' => ?_)
    · replace gh0' := (ifT hc').symm.trans gh0'
      refine ops H' ?_
      obtain rfl := Option.some.inj gh0'
      refine opsV_nil ?_
      exact ⟨rfl, shd [14] [] 3 rfl⟩
    · replace gh0' := (ifF hc').symm.trans gh0'
      refine ops H' ?_
      obtain rfl := Option.some.inj gh0'
      refine opsV_nil ?_
      exact ⟨rfl, shd [14] [] 3 rfl⟩
  · rintro e' rfl
    simp only [List.drop_succ_cons, List.drop_zero]
    refine ops H' ?_
    refine opsN ?_
    refine retN ?_
    obtain rfl := Option.some.inj h0'
    exact outG H' rfl rfl
theorem W_impl_isPlace (n : Int) (size : Int) (r' : Bool) (h0' : impl_isPlace n size = some r') : Fn X 56 [.one (.sc (.int .i64 n)), .one (.sc (.int .i64 size))] [.one (.sc (.bool r'))] [] := by
  have H' := t3
  unfold impl_isPlace at h0'
  refine Fn.start (fn := f56) (N := 9) (res := [.tmp 4]) rfl rfl rfl rfl rfl (by simp) ?_
  refine enterG H' ?_
  refine wpV_seq1 ?_
  refine wpV_region ?_
  refine ops H' ?_
  refine opsN ?_
  refine wpV_seq1 ?_
  refine wpV_region ?_
  refine ops H' ?_
  obtain ⟨x8, hy', h0'⟩ := Option.bind_eq_some_iff.1 h0'
  refine callG H' (fun _ => []) (W_impl_inRange _ _ _ _ hy') ?_
  refine ops H' ?_
  refine opsN ?_
  refine retN ?_
  obtain rfl := Option.some.inj h0'
  exact outG H' rfl rfl
theorem W_impl_ascends (list_ : List Int) (below : Int) (r' : Bool) (h0' : impl_ascends list_ below = some r') : Fn X 60 [.one (.list false 1 (List.map (rK .i64) list_)), .one (.sc (.int .i64 below))] [.one (.sc (.bool r'))] [] := by
  have H' := And.intro t3 (And.intro t23 (R_i64))
  unfold impl_ascends at h0'
  refine Fn.start (fn := f60) (N := 33) (res := [.tmp 4]) rfl rfl rfl rfl rfl (by simp) ?_
  refine enterG H' ?_
  refine wpV_seq1 ?_
  refine wpV_region ?_
  refine ops H' ?_
  refine opsN ?_
  refine wpV_seqJ (fun e' => impl_ascends_j1 = some r' ∧ e' = { N := 33, np := 2, nx := 2, sl := [], ob := [] }) ?_ ?_
  · refine wpV_seq1 ?_
    refine wpV_region ?_
    refine ops H' ?_
    refine opsN ?_
    obtain ⟨p, hl', h0'⟩ := Option.bind_eq_some_iff.1 h0'
    refine wpV_block ?_
    refine wpV_loopM (fun x9 e' => e' = { N := 33, np := 2, nx := 2, sl := [(0, .pl (.one (.v (.list false 1 (List.map (rK .i64) list_))))), (1, .pl (.one (.v (.sc (.int .i64 below))))), (7, .pl (.one (.v (.list false 1 (List.map (rK .i64) list_))))), (8, .pl (.one (.v (.sc (.int .i64 (list_.length : Int)))))), (9, .pl (.one (.v (.sc (.int .i64 x9)))))], ob := [] }) hl' (shd [0, 1, 7, 8, 9] [] 2 rfl) ?_
    rintro x9 y1' e' h1' rfl
    replace h1' : impl_ascends_l1 list_ below x9 = some y1' := h1'
    unfold impl_ascends_l1 at h1'
    refine wpV_seq1 ?_
    refine wpV_region ?_
    refine ops H' ?_
    refine opsN ?_
    refine wpV_seq1 ?_
    refine wpV_split (fun hc' => ?_) (fun hc' => ?_)
    · replace h1' := (ifT hc').symm.trans h1'
      refine skipN ?_
      refine wpV_seq1 ?_
      refine wpV_block ?_
      refine wpV_seq1 ?_
      refine wpV_region ?_
      obtain ⟨x, hv', h1'⟩ := Option.bind_eq_some_iff.1 h1'
      have H' := And.intro (geti_f hv') H'
      refine ops H' ?_
      refine opsN ?_
      refine wpV_seq1 ?_
      refine wpV_region ?_
      refine ops H' ?_
      obtain ⟨x17, hy', h1'⟩ := Option.bind_eq_some_iff.1 h1'
      refine callG H' (fun _ => []) (W_impl_inRange _ _ _ _ hy') ?_
      refine ops H' ?_
      obtain ⟨b, gh1', h1'⟩ := Option.bind_eq_some_iff.1 h1'
      refine opsV_cut 12 (fun e' => e' = { N := 33, np := 2, nx := 2, sl := [(0, .pl (.one (.v (.list false 1 (List.map (rK .i64) list_))))), (1, .pl (.one (.v (.sc (.int .i64 below))))), (7, .pl (.one (.v (.list false 1 (List.map (rK .i64) list_))))), (8, .pl (.one (.v (.sc (.int .i64 (list_.length : Int)))))), (9, .pl (.one (.v (.sc (.int .i64 x9))))), (31, .pl (.one (.v (.sc (.bool b)))))], ob := [] }) ?_ ?_
      · simp only [List.take_succ_cons, List.take_zero]
        refine opsV_sp (fun hc' => ?_) (fun hc' => ?_)
        · replace gh1' := (ifF hc').symm.trans gh1'
          refine ops H' ?_
          obtain ⟨b_1, ggh1', gh1'⟩ := Option.bind_eq_some_iff.1 gh1'
          refine opsV_cut 8 (fun e' => e' = { N := 33, np := 2, nx := 2, sl := [(0, .pl (.one (.v (.list false 1 (List.map (rK .i64) list_))))), (1, .pl (.one (.v (.sc (.int .i64 below))))), (7, .pl (.one (.v (.list false 1 (List.map (rK .i64) list_))))), (8, .pl (.one (.v (.sc (.int .i64 (list_.length : Int)))))), (9, .pl (.one (.v (.sc (.int .i64 x9))))), (19, .pl (.one (.v (.sc (.bool false))))), (20, .pl (.one (.v (.sc (.int .i64 x9))))), (21, .pl (.one (.v (.sc (.bool (decide (x9 > 0))))))), (30, .pl (.one (.v (.sc (.bool b_1)))))], ob := [] }) ?_ ?_
          · simp only [List.take_succ_cons, List.take_zero]
            refine opsV_sp (fun hc' => ?_) (fun hc' => ?_)
            · replace ggh1' := (ifT hc').symm.trans ggh1'
              obtain ⟨x_1, hv', ggh1'⟩ := Option.bind_eq_some_iff.1 ggh1'
              have H' := And.intro (geti_f hv') H'
              refine ops H' ?_
              obtain rfl := Option.some.inj ggh1'
              refine opsV_nil ?_
              exact ⟨rfl, shd [0, 1, 7, 8, 9, 19, 20, 21, 30] [] 2 rfl⟩
            · replace ggh1' := (ifF hc').symm.trans ggh1'
              refine ops H' ?_
              obtain rfl := Option.some.inj ggh1'
              refine opsV_nil ?_
              exact ⟨rfl, shd [0, 1, 7, 8, 9, 19, 20, 21, 30] [] 2 rfl⟩
          · rintro e' rfl
            simp only [List.drop_succ_cons, List.drop_zero]
            refine ops H' ?_
            obtain rfl := Option.some.inj gh1'
            refine opsV_nil ?_
            exact ⟨rfl, shd [0, 1, 7, 8, 9, 31] [] 2 rfl⟩
        · replace gh1' := (ifT hc').symm.trans gh1'
          refine ops H' ?_
          obtain rfl := Option.some.inj gh1'
          refine opsV_nil ?_
          exact ⟨rfl, shd [0, 1, 7, 8, 9, 31] [] 2 rfl⟩
      · rintro e' rfl
        simp only [List.drop_succ_cons, List.drop_zero]
        refine opsN ?_
        refine wpV_split (fun hc' => ?_) (fun hc' => ?_)
        · replace h1' := (ifT hc').symm.trans h1'
          refine wpV_seq1 ?_
          refine wpV_region ?_
          refine ops H' ?_
          refine opsN ?_
          refine retN ?_
          obtain rfl := Option.some.inj h1'
          refine ⟨_, rfl, fun hr' => ?_⟩
          subst hr'
          obtain rfl := Option.some.inj h0'
          exact outG H' rfl rfl
        · replace h1' := (ifF hc').symm.trans h1'
          refine skipN ?_
          refine wpV_region ?_
          refine ops H' ?_
          refine opsN ?_
          obtain rfl := Option.some.inj h1'
          exact shd [0, 1, 7, 8, 9] [] 2 ⟨_, rfl, rfl⟩
    · replace h1' := (ifF hc').symm.trans h1'
      refine exitN ?_
      obtain rfl := Option.some.inj h1'
      refine ⟨_, rfl, fun hr' => ?_⟩
      subst hr'
      exact shd [] [] 2 ⟨h0', rfl⟩
  · rintro e' ⟨h0', rfl⟩
    unfold impl_ascends_j1 at h0'
    refine wpV_seq1 ?_
    refine wpV_region ?_
    refine ops H' ?_
    refine opsN ?_
    refine retN ?_
    obtain rfl := Option.some.inj h0'
    exact outG H' rfl rfl
theorem W_impl_GraphOk (parents : List (List Int)) (r' : Bool) (h0' : impl_GraphOk parents = some r') : Fn X 30 [.one (.list false 1 (List.map (rL false 1 (rK .i64)) parents))] [.one (.sc (.bool r'))] [] := by
  have H' := And.intro t3 (And.intro t23 (And.intro t40 (And.intro R_Li64 (R_i64))))
  unfold impl_GraphOk at h0'
  refine Fn.start (fn := f30) (N := 25) (res := [.tmp 2]) rfl rfl rfl rfl rfl (by simp) ?_
  refine enterG H' ?_
  refine wpV_seq1 ?_
  refine wpV_region ?_
  refine ops H' ?_
  refine opsN ?_
  refine wpV_seqJ (fun e' => impl_GraphOk_j1 parents = some r' ∧ e' = { N := 25, np := 1, nx := 1, sl := [(0, .pl (.one (.v (.list false 1 (List.map (rL false 1 (rK .i64)) parents)))))], ob := [] }) ?_ ?_
  · refine wpV_seq1 ?_
    refine wpV_region ?_
    refine ops H' ?_
    refine opsN ?_
    obtain ⟨p, hl', h0'⟩ := Option.bind_eq_some_iff.1 h0'
    refine wpV_block ?_
    refine wpV_loopM (fun x7 e' => e' = { N := 25, np := 1, nx := 1, sl := [(0, .pl (.one (.v (.list false 1 (List.map (rL false 1 (rK .i64)) parents))))), (5, .pl (.one (.v (.list false 1 (List.map (rL false 1 (rK .i64)) parents))))), (6, .pl (.one (.v (.sc (.int .i64 (parents.length : Int)))))), (7, .pl (.one (.v (.sc (.int .i64 x7)))))], ob := [] }) hl' (shd [0, 5, 6, 7] [] 1 rfl) ?_
    rintro x7 y1' e' h1' rfl
    replace h1' : impl_GraphOk_l1 parents x7 = some y1' := h1'
    unfold impl_GraphOk_l1 at h1'
    refine wpV_seq1 ?_
    refine wpV_region ?_
    refine ops H' ?_
    refine opsN ?_
    refine wpV_seq1 ?_
    refine wpV_split (fun hc' => ?_) (fun hc' => ?_)
    · replace h1' := (ifT hc').symm.trans h1'
      refine skipN ?_
      refine wpV_seq1 ?_
      refine wpV_block ?_
      refine wpV_seq1 ?_
      refine wpV_region ?_
      obtain ⟨x, hv', h1'⟩ := Option.bind_eq_some_iff.1 h1'
      have H' := And.intro (geti_f hv') H'
      refine ops H' ?_
      refine opsN ?_
      refine wpV_seq1 ?_
      refine wpV_region ?_
      refine ops H' ?_
      obtain ⟨b, gh1', h1'⟩ := Option.bind_eq_some_iff.1 h1'
      refine opsV_cut 5 (fun e' => e' = { N := 25, np := 1, nx := 1, sl := [(0, .pl (.one (.v (.list false 1 (List.map (rL false 1 (rK .i64)) parents))))), (5, .pl (.one (.v (.list false 1 (List.map (rL false 1 (rK .i64)) parents))))), (6, .pl (.one (.v (.sc (.int .i64 (parents.length : Int)))))), (7, .pl (.one (.v (.sc (.int .i64 x7))))), (20, .pl (.one (.v (.sc (.bool b)))))], ob := [] }) ?_ ?_
      · simp only [List.take_succ_cons, List.take_zero]
        refine opsV_sp (fun hc' => ?_) (fun hc' => ?_)
        · replace gh1' := (ifF hc').symm.trans gh1'
          refine ops H' ?_
          obtain ⟨x18, hy', gh1'⟩ := Option.bind_eq_some_iff.1 gh1'
          refine callG H' (fun _ => []) (W_impl_ascends _ _ _ hy') ?_
          refine ops H' ?_
          obtain rfl := Option.some.inj gh1'
          refine opsV_nil ?_
          exact ⟨rfl, shd [0, 5, 6, 7, 20] [] 1 rfl⟩
        · replace gh1' := (ifT hc').symm.trans gh1'
          refine ops H' ?_
          obtain rfl := Option.some.inj gh1'
          refine opsV_nil ?_
          exact ⟨rfl, shd [0, 5, 6, 7, 20] [] 1 rfl⟩
      · rintro e' rfl
        simp only [List.drop_succ_cons, List.drop_zero]
        refine opsN ?_
        refine wpV_split (fun hc' => ?_) (fun hc' => ?_)
        · replace h1' := (ifT hc').symm.trans h1'
          refine wpV_seq1 ?_
          refine wpV_region ?_
          refine ops H' ?_
          refine opsN ?_
          refine retN ?_
          obtain rfl := Option.some.inj h1'
          refine ⟨_, rfl, fun hr' => ?_⟩
          subst hr'
          obtain rfl := Option.some.inj h0'
          exact outG H' rfl rfl
        · replace h1' := (ifF hc').symm.trans h1'
          refine skipN ?_
          refine wpV_region ?_
          refine ops H' ?_
          refine opsN ?_
          obtain rfl := Option.some.inj h1'
          exact shd [0, 5, 6, 7] [] 1 ⟨_, rfl, rfl⟩
    · replace h1' := (ifF hc').symm.trans h1'
      refine exitN ?_
      obtain rfl := Option.some.inj h1'
      refine ⟨_, rfl, fun hr' => ?_⟩
      subst hr'
      exact shd [0] [] 1 ⟨h0', rfl⟩
  · rintro e' ⟨h0', rfl⟩
    unfold impl_GraphOk_j1 at h0'
    refine wpV_seq1 ?_
    refine wpV_region ?_
    refine ops H' ?_
    refine opsN ?_
    refine retN ?_
    obtain rfl := Option.some.inj h0'
    exact outG H' rfl rfl
theorem W_impl_unionOf (closed : List Int) (list_ : List Int) (r' : Int) (h0' : impl_unionOf closed list_ = some r') : Fn X 59 [.one (.list false 1 (List.map (rK .u64) closed)), .one (.list false 1 (List.map (rK .i64) list_))] [.one (.sc (.int .u64 r'))] [] := by
  have H' := And.intro t3 (And.intro t23 (And.intro t55 (And.intro t67 (And.intro R_i64 (R_u64)))))
  unfold impl_unionOf at h0'
  refine Fn.start (fn := f59) (N := 22) (res := [.tmp 4]) rfl rfl rfl rfl rfl (by simp) ?_
  refine enterG H' ?_
  refine wpV_seq1 ?_
  refine wpV_region ?_
  refine ops H' ?_
  refine opsN ?_
  refine wpV_seq1 ?_
  refine wpV_region ?_
  refine ops H' ?_
  refine opsN ?_
  refine wpV_seqJ (fun e' => ∃ s, impl_unionOf_j1 s = some r' ∧ e' = { N := 22, np := 2, nx := 2, sl := [(5, .pl (.one (.v (.sc (.int .u64 s)))))], ob := [] }) ?_ ?_
  · refine wpV_seq1 ?_
    refine wpV_region ?_
    refine ops H' ?_
    refine opsN ?_
    obtain ⟨p, hl', h0'⟩ := Option.bind_eq_some_iff.1 h0'
    refine wpV_block ?_
    refine wpV_loopM (fun s' e' => ∃ s_1 x10, s' = (s_1, x10) ∧ e' = { N := 22, np := 2, nx := 2, sl := [(0, .pl (.one (.v (.list false 1 (List.map (rK .u64) closed))))), (5, .pl (.one (.v (.sc (.int .u64 s_1))))), (8, .pl (.one (.v (.list false 1 (List.map (rK .i64) list_))))), (9, .pl (.one (.v (.sc (.int .i64 (list_.length : Int)))))), (10, .pl (.one (.v (.sc (.int .i64 x10)))))], ob := [] }) hl' (shd [0, 5, 8, 9, 10] [] 2 ⟨_, _, rfl, rfl⟩) ?_
    rintro s' y1' e' h1' ⟨s_1, x10, rfl, rfl⟩
    replace h1' : impl_unionOf_l1 closed list_ s_1 x10 = some y1' := h1'
    unfold impl_unionOf_l1 at h1'
    refine wpV_seq1 ?_
    refine wpV_region ?_
    refine ops H' ?_
    refine opsN ?_
    refine wpV_seq1 ?_
    refine wpV_split (fun hc' => ?_) (fun hc' => ?_)
    · replace h1' := (ifT hc').symm.trans h1'
      refine skipN ?_
      refine wpV_seq1 ?_
      refine wpV_block ?_
      refine wpV_seq1 ?_
      refine wpV_region ?_
      obtain ⟨x, hv', h1'⟩ := Option.bind_eq_some_iff.1 h1'
      have H' := And.intro (geti_f hv') H'
      refine ops H' ?_
      refine opsN ?_
      refine wpV_region ?_
      obtain ⟨x_1, hv', h1'⟩ := Option.bind_eq_some_iff.1 h1'
      have H' := And.intro (geti_f hv') H'
      refine ops H' ?_
      refine opsN ?_
      refine wpV_region ?_
      refine ops H' ?_
      refine opsN ?_
      obtain rfl := Option.some.inj h1'
      exact shd [0, 5, 8, 9, 10] [] 2 ⟨_, rfl, _, _, rfl, rfl⟩
    · replace h1' := (ifF hc').symm.trans h1'
      refine exitN ?_
      obtain rfl := Option.some.inj h1'
      refine ⟨_, rfl, fun hr' => ?_⟩
      subst hr'
      exact shd [5] [] 2 ⟨_, h0', rfl⟩
  · rintro e' ⟨s, h0', rfl⟩
    unfold impl_unionOf_j1 at h0'
    refine wpV_seq1 ?_
    refine wpV_region ?_
    refine ops H' ?_
    refine opsN ?_
    refine retN ?_
    obtain rfl := Option.some.inj h0'
    exact outG H' rfl rfl
theorem W_impl_closures (parents : List (List Int)) (r' : (List Int)) (h0' : impl_closures parents = some r') : Fn X 57 [.one (.list false 1 (List.map (rL false 1 (rK .i64)) parents))] [.one (.list true 1 (List.map (rK .u64) r'))] [] := by
  have H' := And.intro t3 (And.intro t23 (And.intro t40 (And.intro t55 (And.intro t56 (And.intro t67 (And.intro R_Li64 (And.intro R_i64 (R_u64))))))))
  unfold impl_closures at h0'
  refine Fn.start (fn := f57) (N := 28) (res := [.tmp 2]) rfl rfl rfl rfl rfl (by simp) ?_
  refine enterG H' ?_
  refine wpV_seq1 ?_
  refine wpV_region ?_
  refine ops H' ?_
  refine opsN ?_
  refine wpV_seq1 ?_
  refine wpV_region ?_
  obtain ⟨x8, hv', h0'⟩ := Option.bind_eq_some_iff.1 h0'
  have H' := And.intro (mkl_f hv') H'
  refine ops H' ?_
  refine opsN ?_
  refine wpV_seqJ (fun e' => ∃ out_, impl_closures_j1 out_ = some r' ∧ e' = { N := 28, np := 1, nx := 2, sl := [(3, .pl (.one (.ref 1 [])))], ob := [(1, .list true 1 (List.map (rK .u64) out_))] }) ?_ ?_
  · refine wpV_seq1 ?_
    refine wpV_region ?_
    refine ops H' ?_
    refine opsN ?_
    obtain ⟨p, hl', h0'⟩ := Option.bind_eq_some_iff.1 h0'
    refine wpV_block ?_
    refine wpV_loopM (fun s' e' => ∃ x11 out__1, s' = (x11, out__1) ∧ e' = { N := 28, np := 1, nx := 2, sl := [(3, .pl (.one (.ref 1 []))), (9, .pl (.one (.v (.list false 1 (List.map (rL false 1 (rK .i64)) parents))))), (10, .pl (.one (.v (.sc (.int .i64 (parents.length : Int)))))), (11, .pl (.one (.v (.sc (.int .i64 x11)))))], ob := [(1, .list true 1 (List.map (rK .u64) out__1))] }) hl' (shd [3, 9, 10, 11] [(2, 1)] 2 ⟨_, _, rfl, rfl⟩) ?_
    rintro s' y1' e' h1' ⟨x11, out__1, rfl, rfl⟩
    replace h1' : impl_closures_l1 parents x11 out__1 = some y1' := h1'
    unfold impl_closures_l1 at h1'
    refine wpV_seq1 ?_
    refine wpV_region ?_
    refine ops H' ?_
    refine opsN ?_
    refine wpV_seq1 ?_
    refine wpV_split (fun hc' => ?_) (fun hc' => ?_)
    · replace h1' := (ifT hc').symm.trans h1'
      refine skipN ?_
      refine wpV_seq1 ?_
      refine wpV_block ?_
      refine wpV_seq1 ?_
      refine wpV_region ?_
      obtain ⟨x, hv', h1'⟩ := Option.bind_eq_some_iff.1 h1'
      have H' := And.intro (geti_f hv') H'
      refine ops H' ?_
      refine opsN ?_
      refine wpV_region ?_
      refine ops H' ?_
      obtain ⟨x20, hy', h1'⟩ := Option.bind_eq_some_iff.1 h1'
      refine callG H' (fun _ => []) (W_impl_unionOf _ _ _ hy') ?_
      obtain ⟨u, hv', h1'⟩ := Option.bind_eq_some_iff.1 h1'
      have H' := And.intro (chkF hv') H'
      obtain ⟨x_1, hv', h1'⟩ := Option.bind_eq_some_iff.1 h1'
      have H' := And.intro (geti_f hv') H'
      refine ops H' ?_
      refine opsN ?_
      refine wpV_region ?_
      refine ops H' ?_
      refine opsN ?_
      obtain rfl := Option.some.inj h1'
      exact shd [3, 9, 10, 11] [(1, 1)] 2 ⟨_, rfl, _, _, rfl, rfl⟩
    · replace h1' := (ifF hc').symm.trans h1'
      refine exitN ?_
      obtain rfl := Option.some.inj h1'
      refine ⟨_, rfl, fun hr' => ?_⟩
      subst hr'
      exact shd [3] [(1, 1)] 2 ⟨_, h0', rfl⟩
  · rintro e' ⟨out_, h0', rfl⟩
    unfold impl_closures_j1 at h0'
    refine wpV_seq1 ?_
    refine wpV_region ?_
    refine ops H' ?_
    refine opsN ?_
    refine retN ?_
    obtain rfl := Option.some.inj h0'
    exact outG H' rfl rfl
theorem W_impl_commons (parents : List (List Int)) (a : Int) (b : Int) (r' : Int × (List Int)) (h0' : impl_commons parents a b = some r') : Fn X 65 [.one (.list false 1 (List.map (rL false 1 (rK .i64)) parents)), .one (.sc (.int .i64 a)), .one (.sc (.int .i64 b))] [.one (.sc (.int .u64 r'.1)), .one (.list true 1 (List.map (rK .u64) r'.2))] [] := by
  have H' := And.intro t40 (And.intro t55 (And.intro t67 (And.intro R_Li64 (And.intro R_i64 (R_u64)))))
  unfold impl_commons at h0'
  refine Fn.start (fn := f65) (N := 38) (res := [.tmp 6, .tmp 7]) rfl rfl rfl rfl rfl (by simp) ?_
  refine enterG H' ?_
  refine wpV_seq1 ?_
  refine wpV_region ?_
  refine ops H' ?_
  refine opsN ?_
  refine wpV_seq1 ?_
  refine wpV_seq1 ?_
  refine wpV_region ?_
  refine ops H' ?_
  obtain ⟨x12, hy', h0'⟩ := Option.bind_eq_some_iff.1 h0'
  refine callG H' (fun _ => []) (W_impl_isPlace _ _ _ hy') ?_
  refine ops H' ?_
  obtain ⟨b_1, gh0', h0'⟩ := Option.bind_eq_some_iff.1 h0'
  refine opsV_cut 6 (fun e' => e' = { N := 38, np := 3, nx := 3, sl := [(0, .pl (.one (.v (.list false 1 (List.map (rL false 1 (rK .i64)) parents))))), (1, .pl (.one (.v (.sc (.int .i64 a))))), (2, .pl (.one (.v (.sc (.int .i64 b))))), (20, .pl (.one (.v (.sc (.bool b_1)))))], ob := [] }) ?_ ?_
  · simp only [List.take_succ_cons, List.take_zero]
    refine opsV_sp (fun hc' => ?_) (fun hc' => ?_)
    · replace gh0' := (ifF hc').symm.trans gh0'
      refine ops H' ?_
      obtain ⟨x18, hy', gh0'⟩ := Option.bind_eq_some_iff.1 gh0'
      refine callG H' (fun _ => []) (W_impl_isPlace _ _ _ hy') ?_
      refine ops H' ?_
      obtain rfl := Option.some.inj gh0'
      refine opsV_nil ?_
      exact ⟨rfl, shd [0, 1, 2, 20] [] 3 rfl⟩
    · replace gh0' := (ifT hc').symm.trans gh0'
      refine ops H' ?_
      obtain rfl := Option.some.inj gh0'
      refine opsV_nil ?_
      exact ⟨rfl, shd [0, 1, 2, 20] [] 3 rfl⟩
  · rintro e' rfl
    simp only [List.drop_succ_cons, List.drop_zero]
    refine ops H' ?_
    obtain ⟨b_2, gh0', h0'⟩ := Option.bind_eq_some_iff.1 h0'
    refine opsV_cut 4 (fun e' => e' = { N := 38, np := 3, nx := 3, sl := [(0, .pl (.one (.v (.list false 1 (List.map (rL false 1 (rK .i64)) parents))))), (1, .pl (.one (.v (.sc (.int .i64 a))))), (2, .pl (.one (.v (.sc (.int .i64 b))))), (25, .pl (.one (.v (.sc (.bool b_2)))))], ob := [] }) ?_ ?_
    · simp only [List.take_succ_cons, List.take_zero]
      refine opsV_sp (fun hc' => ?_) (fun hc' => ?_)
      · replace gh0' := (ifF hc').symm.trans gh0'
        refine ops H' ?_
        obtain ⟨x23, hy', gh0'⟩ := Option.bind_eq_some_iff.1 gh0'
        refine callG H' (fun _ => []) (W_impl_GraphOk _ _ hy') ?_
        refine ops H' ?_
        obtain rfl := Option.some.inj gh0'
        refine opsV_nil ?_
        exact ⟨rfl, shd [0, 1, 2, 25] [] 3 rfl⟩
      · replace gh0' := (ifT hc').symm.trans gh0'
        refine ops H' ?_
        obtain rfl := Option.some.inj gh0'
        refine opsV_nil ?_
        exact ⟨rfl, shd [0, 1, 2, 25] [] 3 rfl⟩
    · rintro e' rfl
      simp only [List.drop_succ_cons, List.drop_zero]
      refine opsN ?_
      refine wpV_split (fun hc' => ?_) (fun hc' => ?_)
      · replace h0' := (ifT hc').symm.trans h0'
        refine wpV_seq1 ?_
        refine wpV_region ?_
        refine ops H' ?_
        refine opsN ?_
        refine retN ?_
        obtain rfl := Option.some.inj h0'
        exact outG H' rfl rfl
      · replace h0' := (ifF hc').symm.trans h0'
        refine skipN ?_
        refine wpV_seq1 ?_
        refine wpV_region ?_
        refine ops H' ?_
        obtain ⟨x27, hy', h0'⟩ := Option.bind_eq_some_iff.1 h0'
        refine callG H' (fun _ => []) (W_impl_closures _ _ hy') ?_
        refine ops H' ?_
        refine opsN ?_
        refine wpV_seq1 ?_
        refine regQ ?_
        obtain ⟨x, hv', h0'⟩ := Option.bind_eq_some_iff.1 h0'
        have H' := And.intro (geti_f hv') H'
        obtain ⟨x_1, hv', h0'⟩ := Option.bind_eq_some_iff.1 h0'
        have H' := And.intro (geti_f hv') H'
        refine ops H' ?_
        refine quN ?_
        refine retN ?_
        obtain rfl := Option.some.inj h0'
        exact outG H' rfl rfl
theorem W_impl_set_has (s : Int) (v : Int) (r' : Bool) (h0' : impl_set_has s v = some r') : Fn X 58 [.one (.sc (.int .u64 s)), .one (.sc (.int .i64 v))] [.one (.sc (.bool r'))] [] := by
  have H' := And.intro t3 (And.intro t55 (t56))
  unfold impl_set_has at h0'
  refine Fn.start (fn := f58) (N := 15) (res := [.tmp 4]) rfl rfl rfl rfl rfl (by simp) ?_
  refine enterG H' ?_
  refine wpV_seq1 ?_
  refine wpV_region ?_
  refine ops H' ?_
  refine opsN ?_
  refine wpV_seq1 ?_
  refine wpV_region ?_
  refine ops H' ?_
  obtain ⟨x6, hy', h0'⟩ := Option.bind_eq_some_iff.1 h0'
  refine callG H' (fun _ => []) (W_impl_inRange _ _ _ _ hy') ?_
  refine ops H' ?_
  obtain ⟨b, gh0', h0'⟩ := Option.bind_eq_some_iff.1 h0'
  refine opsV_cut 7 (fun e' => e' = { N := 15, np := 2, nx := 2, sl := [(14, .pl (.one (.v (.sc (.bool b)))))], ob := [] }) ?_ ?_
  · simp only [List.take_succ_cons, List.take_zero]
    refine opsV_sp (fun hc' => ?_) (fun hc' => ?_)
    · replace gh0' := (ifT hc').symm.trans gh0'
      obtain ⟨u, hv', gh0'⟩ := Option.bind_eq_some_iff.1 gh0'
      have H' := And.intro (chkF hv') H'
      refine ops H' ?_
      obtain rfl := Option.some.inj gh0'
      refine opsV_nil ?_
      exact ⟨rfl, shd [14] [] 2 rfl⟩
    · replace gh0' := (ifF hc').symm.trans gh0'
      refine ops H' ?_
      obtain rfl := Option.some.inj gh0'
      refine opsV_nil ?_
      exact ⟨rfl, shd [14] [] 2 rfl⟩
  · rintro e' rfl
    simp only [List.drop_succ_cons, List.drop_zero]
    refine ops H' ?_
    refine opsN ?_
    refine retN ?_
    obtain rfl := Option.some.inj h0'
    exact outG H' rfl rfl
theorem W_impl_set_list (s : Int) (r' : (List Int)) (h0' : impl_set_list s = some r') : Fn X 47 [.one (.sc (.int .u64 s))] [.one (.list true 1 (List.map (rK .i64) r'))] [] := by
  have H' := And.intro t3 (And.intro t23 (R_i64))
  unfold impl_set_list at h0'
  refine Fn.start (fn := f47) (N := 17) (res := [.tmp 2]) rfl rfl rfl rfl rfl (by simp) ?_
  refine enterG H' ?_
  refine wpV_seq1 ?_
  refine wpV_region ?_
  refine ops H' ?_
  refine opsN ?_
  refine wpV_seq1 ?_
  refine wpV_region ?_
  refine ops H' ?_
  refine opsN ?_
  refine wpV_seqJ (fun e' => ∃ out_, impl_set_list_j1 out_ = some r' ∧ e' = { N := 17, np := 1, nx := 2, sl := [(3, .pl (.one (.ref 1 [])))], ob := [(1, .list true 1 (List.map (rK .i64) out_))] }) ?_ ?_
  · refine wpV_seq1 ?_
    refine wpV_region ?_
    refine ops H' ?_
    refine opsN ?_
    obtain ⟨p, hl', h0'⟩ := Option.bind_eq_some_iff.1 h0'
    refine wpV_block ?_
    refine wpV_loopM (fun s' e' => ∃ x5 out__1, s' = (x5, out__1) ∧ e' = { N := 17, np := 1, nx := 2, sl := [(0, .pl (.one (.v (.sc (.int .u64 s))))), (3, .pl (.one (.ref 1 []))), (5, .pl (.one (.v (.sc (.int .i64 x5)))))], ob := [(1, .list true 1 (List.map (rK .i64) out__1))] }) hl' (shd [0, 3, 5] [(2, 1)] 2 ⟨_, _, rfl, rfl⟩) ?_
    rintro s' y1' e' h1' ⟨x5, out__1, rfl, rfl⟩
    replace h1' : impl_set_list_l1 s x5 out__1 = some y1' := h1'
    unfold impl_set_list_l1 at h1'
    refine wpV_seq1 ?_
    refine wpV_region ?_
    refine ops H' ?_
    refine opsN ?_
    refine wpV_seq1 ?_
    refine wpV_split (fun hc' => ?_) (fun hc' => ?_)
    · replace h1' := (ifT hc').symm.trans h1'
      refine skipN ?_
      refine wpV_seq1 ?_
      refine wpV_block ?_
      refine wpV_seq1 ?_
      refine wpV_region ?_
      refine ops H' ?_
      refine opsN ?_
      refine wpV_seq1 ?_
      refine wpV_region ?_
      refine ops H' ?_
      obtain ⟨x10, hy', h1'⟩ := Option.bind_eq_some_iff.1 h1'
      refine callG H' (fun _ => []) (W_impl_set_has _ _ _ hy') ?_
      refine opsN ?_
      refine wpV_split (fun hc' => ?_) (fun hc' => ?_)
      · replace h1' := (ifT hc').symm.trans h1'
        refine wpV_region ?_
        obtain ⟨l, hv', h1'⟩ := Option.bind_eq_some_iff.1 h1'
        have H' := And.intro (app1_f hv') H'
        refine ops H' ?_
        refine opsN ?_
        refine wpV_region ?_
        refine ops H' ?_
        refine opsN ?_
        obtain rfl := Option.some.inj h1'
        exact shd [0, 3, 5] [(1, 1)] 2 ⟨_, rfl, _, _, rfl, rfl⟩
      · replace h1' := (ifF hc').symm.trans h1'
        refine skipN ?_
        refine wpV_region ?_
        refine ops H' ?_
        refine opsN ?_
        obtain rfl := Option.some.inj h1'
        exact shd [0, 3, 5] [(1, 1)] 2 ⟨_, rfl, _, _, rfl, rfl⟩
    · replace h1' := (ifF hc').symm.trans h1'
      refine exitN ?_
      obtain rfl := Option.some.inj h1'
      refine ⟨_, rfl, fun hr' => ?_⟩
      subst hr'
      exact shd [3] [(1, 1)] 2 ⟨_, h0', rfl⟩
  · rintro e' ⟨out_, h0', rfl⟩
    unfold impl_set_list_j1 at h0'
    refine wpV_seq1 ?_
    refine wpV_region ?_
    refine ops H' ?_
    refine opsN ?_
    refine retN ?_
    obtain rfl := Option.some.inj h0'
    exact outG H' rfl rfl
theorem W_slices_Clone_int_int (s : List Int) (r' : List Int) (h0' : slices_Clone_int_int s = some r') : Fn X 69 [.one (.list false 1 (List.map (rK .i64) s))] [.one (.list true 1 (List.map (rK .i64) r'))] [] := by
  have H' := And.intro t3 (And.intro t23 (R_i64))
  unfold slices_Clone_int_int at h0'
  refine Fn.start (fn := f69) (N := 8) (res := [.tmp 2]) rfl rfl rfl rfl rfl (by simp) ?_
  refine enterG H' ?_
  refine wpV_seq1 ?_
  refine wpV_region ?_
  refine ops H' ?_
  refine opsN ?_
  refine wpV_seq1 ?_
  refine wpV_seq1 ?_
  refine wpV_region ?_
  refine ops H' ?_
  refine opsV_nilEq H' (fun b' hb' => ?_)
  refine opsN ?_
  refine wpV_split (fun hc' => ?_) (fun hc' => ?_)
  · have hs' : s = [] := by simpa using hb' hc'
    subst hs'
    obtain rfl : r' = [] := by simpa [appn] using h0'.symm
    refine wpV_seq1 ?_
    refine wpV_region ?_
    refine ops H' ?_
    refine opsN ?_
    refine retN ?_
    exact outG H' rfl rfl
  · refine skipN ?_
    refine wpV_seq1 ?_
    refine wpV_region ?_
    have H' := And.intro (appz_f (rK .i64) h0') H'
    refine ops H' ?_
    refine opsN ?_
    refine retN ?_
    exact outG H' rfl rfl
theorem W_impl_Bases_c1_c1 (other : Int) (c : Int) (c_1 : List Int) (r' : Bool) (h0' : impl_Bases_c1_c1 other c c_1 = some r') : Fn X 72 [.one (.sc (.int .i64 other)), .one (.box false [.sc (.int .i64 c)]), .one (.box false [.list false 1 (List.map (rK .u64) c_1)])] [.one (.sc (.bool r'))] [] := by
  have H' := And.intro t3 (And.intro t55 (And.intro t67 (R_u64)))
  unfold impl_Bases_c1_c1 at h0'
  refine Fn.start (fn := f72) (N := 16) (res := [.tmp 4]) rfl rfl rfl rfl rfl (by simp) ?_
  refine enterG H' ?_
  refine wpV_seq1 ?_
  refine wpV_region ?_
  refine ops H' ?_
  refine opsN ?_
  refine wpV_seq1 ?_
  refine regQ ?_
  refine ops H' ?_
  obtain ⟨b, gh0', h0'⟩ := Option.bind_eq_some_iff.1 h0'
  refine quV_cut 7 (fun e' => e' = { N := 16, np := 3, nx := 3, sl := [(15, .pl (.one (.v (.sc (.bool b)))))], ob := [] }) ?_ ?_
  · simp only [List.take_succ_cons, List.take_zero]
    refine quV_sp (fun hc' => ?_) (fun hc' => ?_)
    · replace gh0' := (ifT hc').symm.trans gh0'
      obtain ⟨x, hv', gh0'⟩ := Option.bind_eq_some_iff.1 gh0'
      have H' := And.intro (geti_f hv') H'
      refine ops H' ?_
      obtain ⟨x14, hy', gh0'⟩ := Option.bind_eq_some_iff.1 gh0'
      refine callGQ H' (W_impl_set_has _ _ _ hy') ?_
      refine ops H' ?_
      obtain rfl := Option.some.inj gh0'
      refine quV_nil ?_
      exact ⟨rfl, shd [15] [] 3 rfl⟩
    · replace gh0' := (ifF hc').symm.trans gh0'
      refine ops H' ?_
      obtain rfl := Option.some.inj gh0'
      refine quV_nil ?_
      exact ⟨rfl, shd [15] [] 3 rfl⟩
  · rintro e' rfl
    simp only [List.drop_succ_cons, List.drop_zero]
    refine ops H' ?_
    refine quN ?_
    refine retN ?_
    obtain rfl := Option.some.inj h0'
    exact outG H' rfl rfl
theorem W_slices_IndexFunc_int_int__2 (s : List Int) (f : Int → Option Bool) (f_f : Nat) (f_c0 : V) (f_c1 : V) (f_h : ∀ (z0' : Int) r', f z0' = some r' → Fn X f_f [.one (.sc (.int .i64 z0')), .one (f_c0), .one (f_c1)] [.one (.sc (.bool r'))] []) (r' : Int) (h0' : slices_IndexFunc_int_int s f = some r') : Fn X 74 [.one (.list false 1 (List.map (rK .i64) s)), .one (.fn f_f [f_c0, f_c1])] [.one (.sc (.int .i64 r'))] [] := by
  have H' := And.intro t3 (And.intro t23 (R_i64))
  unfold slices_IndexFunc_int_int at h0'
  refine Fn.start (fn := f74) (N := 19) (res := [.tmp 4]) rfl rfl rfl rfl rfl (by simp) ?_
  refine enterG H' ?_
  refine wpV_seq1 ?_
  refine wpV_region ?_
  refine ops H' ?_
  refine opsN ?_
  refine wpV_seqJ (fun e' => slices_IndexFunc_int_int_j1 = some r' ∧ e' = { N := 19, np := 2, nx := 2, sl := [], ob := [] }) ?_ ?_
  · refine wpV_seq1 ?_
    refine wpV_region ?_
    refine ops H' ?_
    refine opsN ?_
    obtain ⟨p, hl', h0'⟩ := Option.bind_eq_some_iff.1 h0'
    refine wpV_block ?_
    refine wpV_loopM (fun x8 e' => e' = { N := 19, np := 2, nx := 2, sl := [(0, .pl (.one (.v (.list false 1 (List.map (rK .i64) s))))), (1, .pl (.one (.v (.fn f_f [f_c0, f_c1])))), (7, .pl (.one (.v (.sc (.int .i64 (s.length : Int)))))), (8, .pl (.one (.v (.sc (.int .i64 x8)))))], ob := [] }) hl' (shd [0, 1, 7, 8] [] 2 rfl) ?_
    rintro x8 y1' e' h1' rfl
    replace h1' : slices_IndexFunc_int_int_l1 s f x8 = some y1' := h1'
    unfold slices_IndexFunc_int_int_l1 at h1'
    refine wpV_seq1 ?_
    refine wpV_region ?_
    refine ops H' ?_
    refine opsN ?_
    refine wpV_seq1 ?_
    refine wpV_split (fun hc' => ?_) (fun hc' => ?_)
    · replace h1' := (ifT hc').symm.trans h1'
      refine skipN ?_
      refine wpV_seq1 ?_
      refine wpV_block ?_
      refine wpV_seq1 ?_
      refine wpV_region ?_
      refine ops H' ?_
      refine opsN ?_
      refine wpV_seq1 ?_
      refine wpV_region ?_
      obtain ⟨x, hv', h1'⟩ := Option.bind_eq_some_iff.1 h1'
      have H' := And.intro (geti_f hv') H'
      refine ops H' ?_
      obtain ⟨x16, hy', h1'⟩ := Option.bind_eq_some_iff.1 h1'
      refine callG H' (fun _ => []) (f_h _ _ hy') ?_
      refine opsN ?_
      refine wpV_split (fun hc' => ?_) (fun hc' => ?_)
      · replace h1' := (ifT hc').symm.trans h1'
        refine wpV_seq1 ?_
        refine wpV_region ?_
        refine ops H' ?_
        refine opsN ?_
        refine retN ?_
        obtain rfl := Option.some.inj h1'
        refine ⟨_, rfl, fun hr' => ?_⟩
        subst hr'
        obtain rfl := Option.some.inj h0'
        exact outG H' rfl rfl
      · replace h1' := (ifF hc').symm.trans h1'
        refine skipN ?_
        refine wpV_region ?_
        refine ops H' ?_
        refine opsN ?_
        obtain rfl := Option.some.inj h1'
        exact shd [0, 1, 7, 8] [] 2 ⟨_, rfl, rfl⟩
    · replace h1' := (ifF hc').symm.trans h1'
      refine exitN ?_
      obtain rfl := Option.some.inj h1'
      refine ⟨_, rfl, fun hr' => ?_⟩
      subst hr'
      exact shd [] [] 2 ⟨h0', rfl⟩
  · rintro e' ⟨h0', rfl⟩
    unfold slices_IndexFunc_int_int_j1 at h0'
    refine wpV_seq1 ?_
    refine wpV_region ?_
    refine ops H' ?_
    refine opsN ?_
    refine retN ?_
    obtain rfl := Option.some.inj h0'
    exact outG H' rfl rfl
theorem W_slices_ContainsFunc_int_int__2 (s : List Int) (f : Int → Option Bool) (f_f : Nat) (f_c0 : V) (f_c1 : V) (f_h : ∀ (z0' : Int) r', f z0' = some r' → Fn X f_f [.one (.sc (.int .i64 z0')), .one (f_c0), .one (f_c1)] [.one (.sc (.bool r'))] []) (r' : Bool) (h0' : slices_ContainsFunc_int_int s f = some r') : Fn X 71 [.one (.list false 1 (List.map (rK .i64) s)), .one (.fn f_f [f_c0, f_c1])] [.one (.sc (.bool r'))] [] := by
  have H' := And.intro t3 (R_i64)
  unfold slices_ContainsFunc_int_int at h0'
  refine Fn.start (fn := f71) (N := 9) (res := [.tmp 4]) rfl rfl rfl rfl rfl (by simp) ?_
  refine enterG H' ?_
  refine wpV_seq1 ?_
  refine wpV_region ?_
  refine ops H' ?_
  refine opsN ?_
  refine wpV_seq1 ?_
  refine wpV_region ?_
  refine ops H' ?_
  obtain ⟨x7, hy', h0'⟩ := Option.bind_eq_some_iff.1 h0'
  refine callG H' (fun _ => []) (W_slices_IndexFunc_int_int__2 _ f _ _ _ f_h _ hy') ?_
  refine ops H' ?_
  refine opsN ?_
  refine retN ?_
  obtain rfl := Option.some.inj h0'
  exact outG H' rfl rfl
theorem W_impl_Bases_c1 (v : Int) (c : List Int) (c_1 : List Int) (r' : Bool) (h0' : impl_Bases_c1 v c c_1 = some r') : Fn X 70 [.one (.sc (.int .i64 v)), .one (.box false [.list false 1 (List.map (rK .i64) c)]), .one (.box false [.list false 1 (List.map (rK .u64) c_1)])] [.one (.sc (.bool r'))] [] := by
  have H' := And.intro t23 (And.intro R_i64 (R_u64))
  unfold impl_Bases_c1 at h0'
  refine Fn.start (fn := f70) (N := 8) (res := [.tmp 4]) rfl rfl rfl rfl rfl (by simp) ?_
  refine enterG H' ?_
  refine wpV_seq1 ?_
  refine wpV_region ?_
  refine ops H' ?_
  refine opsN ?_
  refine wpV_seq1 ?_
  refine wpV_region ?_
  refine ops H' ?_
  refine opsV_frz H' 3 ?_
  refine opsV_mkF H' ?_
  obtain ⟨x7, hy', h0'⟩ := Option.bind_eq_some_iff.1 h0'
  refine callG H' (fun _ => []) (W_slices_ContainsFunc_int_int__2 _ (fun z0' => impl_Bases_c1_c1 z0' v c_1) _ _ _ (fun z0' r' h' => W_impl_Bases_c1_c1 z0' _ _ r' h') _ hy') ?_
  refine ops H' ?_
  refine opsN ?_
  refine retN ?_
  obtain rfl := Option.some.inj h0'
  exact outG H' rfl rfl
theorem W_slices_DeleteFunc_int_int__2 (s : List Int) (del : Int → Option Bool) (del_f : Nat) (del_c0 : V) (del_c1 : V) (del_h : ∀ (z0' : Int) r', del z0' = some r' → Fn X del_f [.one (.sc (.int .i64 z0')), .one (del_c0), .one (del_c1)] [.one (.sc (.bool r'))] []) (r' : (List Int)) (h0' : slices_DeleteFunc_int_int s del = some r') : Fn X 68 [.one (.list true 1 (List.map (rK .i64) s)), .one (.fn del_f [del_c0, del_c1])] [.one (.list true 1 (List.map (rK .i64) r'))] [] := by
  have H' := And.intro t3 (And.intro t23 (R_i64))
  unfold slices_DeleteFunc_int_int at h0'
  refine Fn.start (fn := f68) (N := 42) (res := [.tmp 4]) rfl rfl rfl rfl rfl (by simp) ?_
  refine enterG H' ?_
  refine wpV_seq1 ?_
  refine wpV_region ?_
  refine ops H' ?_
  refine opsN ?_
  refine wpV_seq1 ?_
  refine wpV_region ?_
  refine ops H' ?_
  obtain ⟨x10, hy', h0'⟩ := Option.bind_eq_some_iff.1 h0'
  refine callG H' (fun _ => []) (W_slices_IndexFunc_int_int__2 _ del _ _ _ del_h _ hy') ?_
  refine ops H' ?_
  refine opsN ?_
  refine wpV_seq1 ?_
  refine wpV_seq1 ?_
  refine wpV_region ?_
  refine ops H' ?_
  refine opsN ?_
  refine wpV_split (fun hc' => ?_) (fun hc' => ?_)
  · replace h0' := (ifT hc').symm.trans h0'
    refine wpV_seq1 ?_
    refine wpV_region ?_
    refine ops H' ?_
    refine opsN ?_
    refine retN ?_
    obtain rfl := Option.some.inj h0'
    exact outG H' rfl rfl
  · replace h0' := (ifF hc').symm.trans h0'
    refine skipN ?_
    refine wpV_seqJ (fun e' => ∃ i s_1, slices_DeleteFunc_int_int_j1 i s_1 = some r' ∧ e' = { N := 42, np := 2, nx := 2, sl := [(0, .pl (.one (.ref 0 []))), (5, .pl (.one (.v (.sc (.int .i64 i)))))], ob := [(0, .list true 1 (List.map (rK .i64) s_1))] }) ?_ ?_
    · refine wpV_seq1 ?_
      refine wpV_region ?_
      refine ops H' ?_
      refine opsN ?_
      obtain ⟨p, hl', h0'⟩ := Option.bind_eq_some_iff.1 h0'
      refine wpV_block ?_
      refine wpV_loopM (fun s' e' => ∃ i_1 j s_2, s' = (i_1, j, s_2) ∧ e' = { N := 42, np := 2, nx := 2, sl := [(0, .pl (.one (.ref 0 []))), (1, .pl (.one (.v (.fn del_f [del_c0, del_c1])))), (5, .pl (.one (.v (.sc (.int .i64 i_1))))), (6, .pl (.one (.v (.sc (.int .i64 j)))))], ob := [(0, .list true 1 (List.map (rK .i64) s_2))] }) hl' (shd [0, 1, 5, 6] [(0, 0)] 2 ⟨_, _, _, rfl, rfl⟩) ?_
      rintro s' y1' e' h1' ⟨i_1, j, s_2, rfl, rfl⟩
      replace h1' : slices_DeleteFunc_int_int_l1 del i_1 j s_2 = some y1' := h1'
      unfold slices_DeleteFunc_int_int_l1 at h1'
      refine wpV_seq1 ?_
      refine wpV_seq1 ?_
      refine wpV_region ?_
      refine ops H' ?_
      refine opsN ?_
      refine wpV_split (fun hc' => ?_) (fun hc' => ?_)
      · replace h1' := (ifT hc').symm.trans h1'
        refine skipN ?_
        refine wpV_seq1 ?_
        refine wpV_block ?_
        refine wpV_seq1 ?_
        refine wpV_region ?_
        obtain ⟨x, hv', h1'⟩ := Option.bind_eq_some_iff.1 h1'
        have H' := And.intro (geti_f hv') H'
        refine ops H' ?_
        refine opsN ?_
        refine wpV_seq1 ?_
        refine wpV_region ?_
        refine ops H' ?_
        obtain ⟨x28, hy', h1'⟩ := Option.bind_eq_some_iff.1 h1'
        refine callG H' (fun _ => []) (del_h _ _ hy') ?_
        refine ops H' ?_
        refine opsN ?_
        refine wpV_split (fun hc' => ?_) (fun hc' => ?_)
        · replace h1' := (ifT hc').symm.trans h1'
          refine wpV_seq1 ?_
          refine wpV_region ?_
          obtain ⟨x_1, hv', h1'⟩ := Option.bind_eq_some_iff.1 h1'
          have H' := And.intro (geti_f hv') H'
          refine ops H' ?_
          refine opsN ?_
          refine wpV_region ?_
          refine ops H' ?_
          refine opsN ?_
          refine wpV_region ?_
          refine ops H' ?_
          refine opsN ?_
          obtain rfl := Option.some.inj h1'
          exact shd [0, 1, 5, 6] [(0, 0)] 2 ⟨_, rfl, _, _, _, rfl, rfl⟩
        · replace h1' := (ifF hc').symm.trans h1'
          refine skipN ?_
          refine wpV_region ?_
          refine ops H' ?_
          refine opsN ?_
          obtain rfl := Option.some.inj h1'
          exact shd [0, 1, 5, 6] [(0, 0)] 2 ⟨_, rfl, _, _, _, rfl, rfl⟩
      · replace h1' := (ifF hc').symm.trans h1'
        refine exitN ?_
        obtain rfl := Option.some.inj h1'
        refine ⟨_, rfl, fun hr' => ?_⟩
        subst hr'
        exact shd [0, 5] [(0, 0)] 2 ⟨_, _, h0', rfl⟩
    · rintro e' ⟨i, s_1, h0', rfl⟩
      unfold slices_DeleteFunc_int_int_j1 at h0'
      refine wpV_seq1 ?_
      refine wpV_region ?_
      obtain ⟨x38, hv', h0'⟩ := Option.bind_eq_some_iff.1 h0'
      have H' := And.intro (cutL_f hv') H'
      refine ops H' ?_
      refine opsV_clr H' ?_
      refine opsN ?_
      refine wpV_seq1 ?_
      refine wpV_region ?_
      refine ops H' ?_
      obtain ⟨x41, hv', h0'⟩ := Option.bind_eq_some_iff.1 h0'
      have H' := And.intro (cutH_f hv') H'
      refine opsV_cutO H' ?_
      refine ops H' ?_
      refine opsN ?_
      refine retN ?_
      obtain rfl := Option.some.inj h0'
      exact outG H' rfl rfl
theorem W_impl_Bases (parents : List (List Int)) (a : Int) (b : Int) (r' : (List Int)) (h0' : impl_Bases parents a b = some r') : Fn X 44 [.one (.list false 1 (List.map (rL false 1 (rK .i64)) parents)), .one (.sc (.int .i64 a)), .one (.sc (.int .i64 b))] [.one (.list true 1 (List.map (rK .i64) r'))] [] := by
  have H' := And.intro t23 (And.intro t67 (And.intro R_Li64 (And.intro R_i64 (R_u64))))
  unfold impl_Bases at h0'
  refine Fn.start (fn := f44) (N := 23) (res := [.tmp 6]) rfl rfl rfl rfl rfl (by simp) ?_
  refine enterG H' ?_
  refine wpV_seq1 ?_
  refine wpV_region ?_
  refine ops H' ?_
  refine opsN ?_
  refine wpV_seq1 ?_
  refine wpV_region ?_
  refine ops H' ?_
  obtain ⟨x14, hy', h0'⟩ := Option.bind_eq_some_iff.1 h0'
  refine callG H' (fun _ => []) (W_impl_commons _ _ _ _ hy') ?_
  refine ops H' ?_
  refine opsN ?_
  refine wpV_seq1 ?_
  refine wpV_region ?_
  refine ops H' ?_
  obtain ⟨x18, hy', h0'⟩ := Option.bind_eq_some_iff.1 h0'
  refine callG H' (fun _ => []) (W_impl_set_list _ _ hy') ?_
  refine ops H' ?_
  refine opsN ?_
  refine wpV_seq1 ?_
  refine wpV_region ?_
  refine ops H' ?_
  obtain ⟨x20, hy', h0'⟩ := Option.bind_eq_some_iff.1 h0'
  refine callG H' (fun _ => []) (W_slices_Clone_int_int _ _ hy') ?_
  refine opsV_frz H' 8 ?_
  refine opsV_frz H' 6 ?_
  refine opsV_mkF H' ?_
  obtain ⟨x22, hy', h0'⟩ := Option.bind_eq_some_iff.1 h0'
  refine callG H' (fun _ => [0]) (W_slices_DeleteFunc_int_int__2 _ (fun z0' => impl_Bases_c1 z0' x18 x14.2) _ _ _ (fun z0' r' h' => W_impl_Bases_c1 z0' _ _ r' h') _ hy') ?_
  refine ops H' ?_
  refine opsN ?_
  refine retN ?_
  obtain rfl := Option.some.inj h0'
  exact outG H' rfl rfl
theorem W_impl_Commons (parents : List (List Int)) (a : Int) (b : Int) (r' : (List Int)) (h0' : impl_Commons parents a b = some r') : Fn X 37 [.one (.list false 1 (List.map (rL false 1 (rK .i64)) parents)), .one (.sc (.int .i64 a)), .one (.sc (.int .i64 b))] [.one (.list true 1 (List.map (rK .i64) r'))] [] := by
  have H' := And.intro R_Li64 (And.intro R_i64 (R_u64))
  unfold impl_Commons at h0'
  refine Fn.start (fn := f37) (N := 18) (res := [.tmp 6]) rfl rfl rfl rfl rfl (by simp) ?_
  refine enterG H' ?_
  refine wpV_seq1 ?_
  refine wpV_region ?_
  refine ops H' ?_
  refine opsN ?_
  refine wpV_seq1 ?_
  refine wpV_region ?_
  refine ops H' ?_
  obtain ⟨x13, hy', h0'⟩ := Option.bind_eq_some_iff.1 h0'
  refine callG H' (fun _ => []) (W_impl_commons _ _ _ _ hy') ?_
  refine ops H' ?_
  refine opsN ?_
  refine wpV_seq1 ?_
  refine wpV_region ?_
  refine ops H' ?_
  obtain ⟨x17, hy', h0'⟩ := Option.bind_eq_some_iff.1 h0'
  refine callG H' (fun _ => []) (W_impl_set_list _ _ hy') ?_
  refine ops H' ?_
  refine opsN ?_
  refine retN ?_
  obtain rfl := Option.some.inj h0'
  exact outG H' rfl rfl
theorem W_spec_l01In (x : Int) (least : Int) (most : Int) (r' : Bool) (h0' : spec_l01In x least most = some r') : Fn X 54 [.one (.sc (.int .i64 x)), .one (.sc (.int .i64 least)), .one (.sc (.int .i64 most))] [.one (.sc (.bool r'))] [] := by
  have H' := t3
  unfold spec_l01In at h0'
  refine Fn.start (fn := f54) (N := 15) (res := [.tmp 6]) rfl rfl rfl rfl rfl (by simp) ?_
  refine enterG H' ?_
  refine wpV_seq1 ?_
  refine wpV_region ?_
  refine ops H' ?_
  refine opsN ?_
  refine wpV_seq1 ?_
  refine wpV_region ?_
  refine ops H' ?_
  obtain ⟨b, gh0', h0'⟩ := Option.bind_eq_some_iff.1 h0'
  refine opsV_cut 4 (fun e' => e' = { N := 15, np := 3, nx := 3, sl := [(14, .pl (.one (.v (.sc (.bool b)))))], ob := [] }) ?_ ?_
  · simp only [List.take_succ_cons, List.take_zero]
    refine opsV_sp (fun hc' => ?_) (fun hc' => ?_)
    · replace gh0' := (ifT hc').symm.trans gh0'
      refine ops H' ?_
      obtain rfl := Option.some.inj gh0'
      refine opsV_nil ?_
      exact ⟨rfl, shd [14] [] 3 rfl⟩
    · replace gh0' := (ifF hc').symm.trans gh0'
      refine ops H' ?_
      obtain rfl := Option.some.inj gh0'
      refine opsV_nil ?_
      exact ⟨rfl, shd [14] [] 3 rfl⟩
  · rintro e' rfl
    simp only [List.drop_succ_cons, List.drop_zero]
    refine ops H' ?_
    refine opsN ?_
    refine retN ?_
    obtain rfl := Option.some.inj h0'
    exact outG H' rfl rfl
theorem W_spec_l05Rise (list_ : List Int) (n : Int) (r' : Bool) (h0' : spec_l05Rise list_ n = some r') : Fn X 73 [.one (.list false 1 (List.map (rK .i64) list_)), .one (.sc (.int .i64 n))] [.one (.sc (.bool r'))] [] := by
  have H' := And.intro t3 (And.intro t23 (R_i64))
  unfold spec_l05Rise at h0'
  refine Fn.start (fn := f73) (N := 36) (res := [.tmp 4]) rfl rfl rfl rfl rfl (by simp) ?_
  refine enterG H' ?_
  refine wpV_seq1 ?_
  refine wpV_region ?_
  refine ops H' ?_
  refine opsN ?_
  refine wpV_seqJ (fun e' => spec_l05Rise_j1 = some r' ∧ e' = { N := 36, np := 2, nx := 2, sl := [], ob := [] }) ?_ ?_
  · refine wpV_seq1 ?_
    refine wpV_region ?_
    refine ops H' ?_
    refine opsN ?_
    obtain ⟨p, hl', h0'⟩ := Option.bind_eq_some_iff.1 h0'
    refine wpV_block ?_
    refine wpV_loopM (fun i e' => e' = { N := 36, np := 2, nx := 2, sl := [(0, .pl (.one (.v (.list false 1 (List.map (rK .i64) list_))))), (1, .pl (.one (.v (.sc (.int .i64 n))))), (5, .pl (.one (.v (.sc (.int .i64 i)))))], ob := [] }) hl' (shd [0, 1, 5] [] 2 rfl) ?_
    rintro i y1' e' h1' rfl
    replace h1' : spec_l05Rise_l1 list_ n i = some y1' := h1'
    unfold spec_l05Rise_l1 at h1'
    refine wpV_seq1 ?_
    refine wpV_seq1 ?_
    refine wpV_region ?_
    refine ops H' ?_
    refine opsN ?_
    refine wpV_split (fun hc' => ?_) (fun hc' => ?_)
    · replace h1' := (ifT hc').symm.trans h1'
      refine skipN ?_
      refine wpV_seq1 ?_
      refine wpV_block ?_
      refine wpV_seq1 ?_
      refine regQ ?_
      obtain ⟨x, hv', h1'⟩ := Option.bind_eq_some_iff.1 h1'
      have H' := And.intro (geti_f hv') H'
      refine ops H' ?_
      obtain ⟨x18, hy', h1'⟩ := Option.bind_eq_some_iff.1 h1'
      refine callGQ H' (W_spec_l01In _ _ _ _ hy') ?_
      refine ops H' ?_
      obtain ⟨b, gh1', h1'⟩ := Option.bind_eq_some_iff.1 h1'
      refine quV_cut 15 (fun e' => e' = { N := 36, np := 2, nx := 2, sl := [(0, .pl (.one (.v (.list false 1 (List.map (rK .i64) list_))))), (1, .pl (.one (.v (.sc (.int .i64 n))))), (5, .pl (.one (.v (.sc (.int .i64 i))))), (35, .pl (.one (.v (.sc (.bool b)))))], ob := [] }) ?_ ?_
      · simp only [List.take_succ_cons, List.take_zero]
        refine quV_sp (fun hc' => ?_) (fun hc' => ?_)
        · replace gh1' := (ifF hc').symm.trans gh1'
          refine ops H' ?_
          obtain ⟨b_1, ggh1', gh1'⟩ := Option.bind_eq_some_iff.1 gh1'
          refine quV_cut 11 (fun e' => e' = { N := 36, np := 2, nx := 2, sl := [(0, .pl (.one (.v (.list false 1 (List.map (rK .i64) list_))))), (1, .pl (.one (.v (.sc (.int .i64 n))))), (5, .pl (.one (.v (.sc (.int .i64 i))))), (20, .pl (.one (.v (.sc (.bool false))))), (21, .pl (.one (.v (.sc (.int .i64 i))))), (22, .pl (.one (.v (.sc (.bool (decide (i > 0))))))), (34, .pl (.one (.v (.sc (.bool b_1)))))], ob := [] }) ?_ ?_
          · simp only [List.take_succ_cons, List.take_zero]
            refine quV_sp (fun hc' => ?_) (fun hc' => ?_)
            · replace ggh1' := (ifT hc').symm.trans ggh1'
              obtain ⟨x_1, hv', ggh1'⟩ := Option.bind_eq_some_iff.1 ggh1'
              have H' := And.intro (geti_f hv') H'
              refine ops H' ?_
              obtain rfl := Option.some.inj ggh1'
              refine quV_nil ?_
              exact ⟨rfl, shd [0, 1, 5, 20, 21, 22, 34] [] 2 rfl⟩
            · replace ggh1' := (ifF hc').symm.trans ggh1'
              refine ops H' ?_
              obtain rfl := Option.some.inj ggh1'
              refine quV_nil ?_
              exact ⟨rfl, shd [0, 1, 5, 20, 21, 22, 34] [] 2 rfl⟩
          · rintro e' rfl
            simp only [List.drop_succ_cons, List.drop_zero]
            refine ops H' ?_
            obtain rfl := Option.some.inj gh1'
            refine quV_nil ?_
            exact ⟨rfl, shd [0, 1, 5, 35] [] 2 rfl⟩
        · replace gh1' := (ifT hc').symm.trans gh1'
          refine ops H' ?_
          obtain rfl := Option.some.inj gh1'
          refine quV_nil ?_
          exact ⟨rfl, shd [0, 1, 5, 35] [] 2 rfl⟩
      · rintro e' rfl
        simp only [List.drop_succ_cons, List.drop_zero]
        refine quN ?_
        refine wpV_split (fun hc' => ?_) (fun hc' => ?_)
        · replace h1' := (ifT hc').symm.trans h1'
          refine wpV_seq1 ?_
          refine wpV_region ?_
          refine ops H' ?_
          refine opsN ?_
          refine retN ?_
          obtain rfl := Option.some.inj h1'
          refine ⟨_, rfl, fun hr' => ?_⟩
          subst hr'
          obtain rfl := Option.some.inj h0'
          exact outG H' rfl rfl
        · replace h1' := (ifF hc').symm.trans h1'
          refine skipN ?_
          refine wpV_region ?_
          refine ops H' ?_
          refine opsN ?_
          obtain rfl := Option.some.inj h1'
          exact shd [0, 1, 5] [] 2 ⟨_, rfl, rfl⟩
    · replace h1' := (ifF hc').symm.trans h1'
      refine exitN ?_
      obtain rfl := Option.some.inj h1'
      refine ⟨_, rfl, fun hr' => ?_⟩
      subst hr'
      exact shd [] [] 2 ⟨h0', rfl⟩
  · rintro e' ⟨h0', rfl⟩
    unfold spec_l05Rise_j1 at h0'
    refine wpV_seq1 ?_
    refine wpV_region ?_
    refine ops H' ?_
    refine opsN ?_
    refine retN ?_
    obtain rfl := Option.some.inj h0'
    exact outG H' rfl rfl
theorem W_spec_GraphOk (parents : List (List Int)) (r' : Bool) (h0' : spec_GraphOk parents = some r') : Fn X 66 [.one (.list false 1 (List.map (rL false 1 (rK .i64)) parents))] [.one (.sc (.bool r'))] [] := by
  have H' := And.intro t3 (And.intro t23 (And.intro t40 (And.intro R_Li64 (R_i64))))
  unfold spec_GraphOk at h0'
  refine Fn.start (fn := f66) (N := 28) (res := [.tmp 2]) rfl rfl rfl rfl rfl (by simp) ?_
  refine enterG H' ?_
  refine wpV_seq1 ?_
  refine wpV_region ?_
  refine ops H' ?_
  refine opsN ?_
  refine wpV_seq1 ?_
  refine wpV_seq1 ?_
  refine wpV_region ?_
  refine ops H' ?_
  refine opsN ?_
  refine wpV_split (fun hc' => ?_) (fun hc' => ?_)
  · replace h0' := (ifT hc').symm.trans h0'
    refine wpV_seq1 ?_
    refine wpV_region ?_
    refine ops H' ?_
    refine opsN ?_
    refine retN ?_
    obtain rfl := Option.some.inj h0'
    exact outG H' rfl rfl
  · replace h0' := (ifF hc').symm.trans h0'
    refine skipN ?_
    refine wpV_seqJ (fun e' => spec_GraphOk_j1 = some r' ∧ e' = { N := 28, np := 1, nx := 1, sl := [], ob := [] }) ?_ ?_
    · refine wpV_seq1 ?_
      refine wpV_region ?_
      refine ops H' ?_
      refine opsN ?_
      obtain ⟨p, hl', h0'⟩ := Option.bind_eq_some_iff.1 h0'
      refine wpV_block ?_
      refine wpV_loopM (fun v e' => e' = { N := 28, np := 1, nx := 1, sl := [(0, .pl (.one (.v (.list false 1 (List.map (rL false 1 (rK .i64)) parents))))), (3, .pl (.one (.v (.sc (.int .i64 v)))))], ob := [] }) hl' (shd [0, 3] [] 1 rfl) ?_
      rintro v y1' e' h1' rfl
      replace h1' : spec_GraphOk_l1 parents v = some y1' := h1'
      unfold spec_GraphOk_l1 at h1'
      refine wpV_seq1 ?_
      refine wpV_seq1 ?_
      refine wpV_region ?_
      refine ops H' ?_
      refine opsN ?_
      refine wpV_split (fun hc' => ?_) (fun hc' => ?_)
      · replace h1' := (ifT hc').symm.trans h1'
        refine skipN ?_
        refine wpV_seq1 ?_
        refine wpV_block ?_
        refine wpV_seq1 ?_
        refine wpV_region ?_
        obtain ⟨x, hv', h1'⟩ := Option.bind_eq_some_iff.1 h1'
        have H' := And.intro (geti_f hv') H'
        refine ops H' ?_
        obtain ⟨b, gh1', h1'⟩ := Option.bind_eq_some_iff.1 h1'
        refine opsV_cut 8 (fun e' => e' = { N := 28, np := 1, nx := 1, sl := [(0, .pl (.one (.v (.list false 1 (List.map (rL false 1 (rK .i64)) parents))))), (3, .pl (.one (.v (.sc (.int .i64 v))))), (27, .pl (.one (.v (.sc (.bool b)))))], ob := [] }) ?_ ?_
        · simp only [List.take_succ_cons, List.take_zero]
          refine opsV_sp (fun hc' => ?_) (fun hc' => ?_)
          · replace gh1' := (ifF hc').symm.trans gh1'
            refine ops H' ?_
            obtain ⟨x25, hy', gh1'⟩ := Option.bind_eq_some_iff.1 gh1'
            refine callG H' (fun _ => []) (W_spec_l05Rise _ _ _ hy') ?_
            refine ops H' ?_
            obtain rfl := Option.some.inj gh1'
            refine opsV_nil ?_
            exact ⟨rfl, shd [0, 3, 27] [] 1 rfl⟩
          · replace gh1' := (ifT hc').symm.trans gh1'
            refine ops H' ?_
            obtain rfl := Option.some.inj gh1'
            refine opsV_nil ?_
            exact ⟨rfl, shd [0, 3, 27] [] 1 rfl⟩
        · rintro e' rfl
          simp only [List.drop_succ_cons, List.drop_zero]
          refine opsN ?_
          refine wpV_split (fun hc' => ?_) (fun hc' => ?_)
          · replace h1' := (ifT hc').symm.trans h1'
            refine wpV_seq1 ?_
            refine wpV_region ?_
            refine ops H' ?_
            refine opsN ?_
            refine retN ?_
            obtain rfl := Option.some.inj h1'
            refine ⟨_, rfl, fun hr' => ?_⟩
            subst hr'
            obtain rfl := Option.some.inj h0'
            exact outG H' rfl rfl
          · replace h1' := (ifF hc').symm.trans h1'
            refine skipN ?_
            refine wpV_region ?_
            refine ops H' ?_
            refine opsN ?_
            obtain rfl := Option.some.inj h1'
            exact shd [0, 3] [] 1 ⟨_, rfl, rfl⟩
      · replace h1' := (ifF hc').symm.trans h1'
        refine exitN ?_
        obtain rfl := Option.some.inj h1'
        refine ⟨_, rfl, fun hr' => ?_⟩
        subst hr'
        exact shd [] [] 1 ⟨h0', rfl⟩
    · rintro e' ⟨h0', rfl⟩
      unfold spec_GraphOk_j1 at h0'
      refine wpV_seq1 ?_
      refine wpV_region ?_
      refine ops H' ?_
      refine opsN ?_
      refine retN ?_
      obtain rfl := Option.some.inj h0'
      exact outG H' rfl rfl
theorem W_spec_l05Has (parents : List (List Int)) (v : Int) (r' : Bool) (h0' : spec_l05Has parents v = some r') : Fn X 62 [.one (.list false 1 (List.map (rL false 1 (rK .i64)) parents)), .one (.sc (.int .i64 v))] [.one (.sc (.bool r'))] [] := by
  have H' := And.intro t3 (And.intro t40 (And.intro R_Li64 (R_i64)))
  unfold spec_l05Has at h0'
  refine Fn.start (fn := f62) (N := 14) (res := [.tmp 4]) rfl rfl rfl rfl rfl (by simp) ?_
  refine enterG H' ?_
  refine wpV_seq1 ?_
  refine wpV_region ?_
  refine ops H' ?_
  refine opsN ?_
  refine wpV_seq1 ?_
  refine wpV_region ?_
  refine ops H' ?_
  obtain ⟨x6, hy', h0'⟩ := Option.bind_eq_some_iff.1 h0'
  refine callG H' (fun _ => []) (W_spec_GraphOk _ _ hy') ?_
  refine ops H' ?_
  obtain ⟨b, gh0', h0'⟩ := Option.bind_eq_some_iff.1 h0'
  refine opsV_cut 6 (fun e' => e' = { N := 14, np := 2, nx := 2, sl := [(13, .pl (.one (.v (.sc (.bool b)))))], ob := [] }) ?_ ?_
  · simp only [List.take_succ_cons, List.take_zero]
    refine opsV_sp (fun hc' => ?_) (fun hc' => ?_)
    · replace gh0' := (ifT hc').symm.trans gh0'
      refine ops H' ?_
      obtain ⟨x12, hy', gh0'⟩ := Option.bind_eq_some_iff.1 gh0'
      refine callG H' (fun _ => []) (W_spec_l01In _ _ _ _ hy') ?_
      refine ops H' ?_
      obtain rfl := Option.some.inj gh0'
      refine opsV_nil ?_
      exact ⟨rfl, shd [13] [] 2 rfl⟩
    · replace gh0' := (ifF hc').symm.trans gh0'
      refine ops H' ?_
      obtain rfl := Option.some.inj gh0'
      refine opsV_nil ?_
      exact ⟨rfl, shd [13] [] 2 rfl⟩
  · rintro e' rfl
    simp only [List.drop_succ_cons, List.drop_zero]
    refine ops H' ?_
    refine opsN ?_
    refine retN ?_
    obtain rfl := Option.some.inj h0'
    exact outG H' rfl rfl
end Go.TV.KFnBases
