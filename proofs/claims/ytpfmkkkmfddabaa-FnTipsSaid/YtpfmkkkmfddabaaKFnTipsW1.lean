/- Walks. -/
import Derived.Test.YtpfmkkkmfddabaaKFnTipsE
import Derived.Test.YtpfmkkkmfddabaaKFnTipsW0
set_option linter.unusedVariables false
set_option linter.unusedSimpArgs false
namespace Go.TV.KFnTips
attribute [local irreducible] wpV opsV Does thenV blockV RetL quV seqV
open Go.Proofs.Try Go.TV.F
theorem W_spec_IsAncestor (parents : List (List Int)) (a : Int) (b : Int) (r' : Bool) (h0' : spec_IsAncestor parents a b = some r') : Fn X 42 [.one (.list false 1 (List.map (rL false 1 (rK .i64)) parents)), .one (.sc (.int .i64 a)), .one (.sc (.int .i64 b))] [.one (.sc (.bool r'))] [] := by
  have H' := And.intro t3 (And.intro t4 (And.intro t23 (And.intro t72 (And.intro R_Li64 (And.intro R_b (R_i64))))))
  unfold spec_IsAncestor at h0'
  refine Fn.start (fn := f42) (N := 24) (res := [.tmp 6]) rfl rfl rfl rfl rfl (by simp) ?_
  refine enterG H' ?_
  refine wpV_seq1 ?_
  refine wpV_region ?_
  refine ops H' ?_
  refine opsN ?_
  refine wpV_seq1 ?_
  refine wpV_region ?_
  refine ops H' ?_
  obtain ⟨x9, hy', h0'⟩ := Option.bind_eq_some_iff.1 h0'
  refine callG H' (fun _ => []) (W_spec_l05Has _ _ _ hy') ?_
  refine ops H' ?_
  obtain ⟨b_1, gh0', h0'⟩ := Option.bind_eq_some_iff.1 h0'
  refine opsV_cut 4 (fun e' => e' = { N := 24, np := 3, nx := 3, sl := [(0, .pl (.one (.v (.list false 1 (List.map (rL false 1 (rK .i64)) parents))))), (1, .pl (.one (.v (.sc (.int .i64 a))))), (2, .pl (.one (.v (.sc (.int .i64 b))))), (14, .pl (.one (.v (.sc (.bool b_1)))))], ob := [] }) ?_ ?_
  · simp only [List.take_succ_cons, List.take_zero]
    refine opsV_sp (fun hc' => ?_) (fun hc' => ?_)
    · replace gh0' := (ifT hc').symm.trans gh0'
      refine ops H' ?_
      obtain ⟨x13, hy', gh0'⟩ := Option.bind_eq_some_iff.1 gh0'
      refine callG H' (fun _ => []) (W_spec_l05Has _ _ _ hy') ?_
      refine ops H' ?_
      obtain rfl := Option.some.inj gh0'
      refine opsV_nil ?_
      exact ⟨rfl, shd [0, 1, 2, 14] [] 3 rfl⟩
    · replace gh0' := (ifF hc').symm.trans gh0'
      refine ops H' ?_
      obtain rfl := Option.some.inj gh0'
      refine opsV_nil ?_
      exact ⟨rfl, shd [0, 1, 2, 14] [] 3 rfl⟩
  · rintro e' rfl
    simp only [List.drop_succ_cons, List.drop_zero]
    refine ops H' ?_
    obtain ⟨b_2, gh0', h0'⟩ := Option.bind_eq_some_iff.1 h0'
    refine opsV_cut 8 (fun e' => e' = { N := 24, np := 3, nx := 3, sl := [(23, .pl (.one (.v (.sc (.bool b_2)))))], ob := [] }) ?_ ?_
    · simp only [List.take_succ_cons, List.take_zero]
      refine opsV_sp (fun hc' => ?_) (fun hc' => ?_)
      · replace gh0' := (ifT hc').symm.trans gh0'
        refine ops H' ?_
        obtain ⟨x19, hy', gh0'⟩ := Option.bind_eq_some_iff.1 gh0'
        refine callG H' (fun _ => []) (W_spec_l05Set _ _ _ hy') ?_
        obtain ⟨x, hv', gh0'⟩ := Option.bind_eq_some_iff.1 gh0'
        have H' := And.intro (geti_f hv') H'
        refine ops H' ?_
        obtain rfl := Option.some.inj gh0'
        refine opsV_nil ?_
        exact ⟨rfl, shd [23] [] 3 rfl⟩
      · replace gh0' := (ifF hc').symm.trans gh0'
        refine ops H' ?_
        obtain rfl := Option.some.inj gh0'
        refine opsV_nil ?_
        exact ⟨rfl, shd [23] [] 3 rfl⟩
    · rintro e' rfl
      simp only [List.drop_succ_cons, List.drop_zero]
      refine ops H' ?_
      refine opsN ?_
      refine retN ?_
      obtain rfl := Option.some.inj h0'
      exact outG H' rfl rfl
theorem W_laws_within (list_ : List Int) (x : Int) (r' : Bool) (h0' : laws_within list_ x = some r') : Fn X 24 [.one (.list false 1 (List.map (rK .i64) list_)), .one (.sc (.int .i64 x))] [.one (.sc (.bool r'))] [] := by
  have H' := And.intro t3 (And.intro t23 (R_i64))
  unfold laws_within at h0'
  refine Fn.start (fn := f24) (N := 18) (res := [.tmp 4]) rfl rfl rfl rfl rfl (by simp) ?_
  refine enterG H' ?_
  refine wpV_seq1 ?_
  refine wpV_region ?_
  refine ops H' ?_
  refine opsN ?_
  refine wpV_seqJ (fun e' => laws_within_j1 = some r' ∧ e' = { N := 18, np := 2, nx := 2, sl := [], ob := [] }) ?_ ?_
  · refine wpV_seq1 ?_
    refine wpV_region ?_
    refine ops H' ?_
    refine opsN ?_
    obtain ⟨p, hl', h0'⟩ := Option.bind_eq_some_iff.1 h0'
    refine wpV_block ?_
    refine wpV_loopM (fun i e' => e' = { N := 18, np := 2, nx := 2, sl := [(0, .pl (.one (.v (.list false 1 (List.map (rK .i64) list_))))), (1, .pl (.one (.v (.sc (.int .i64 x))))), (5, .pl (.one (.v (.sc (.int .i64 i)))))], ob := [] }) hl' (shd [0, 1, 5] [] 2 rfl) ?_
    rintro i y1' e' h1' rfl
    replace h1' : laws_within_l1 list_ x i = some y1' := h1'
    unfold laws_within_l1 at h1'
    refine wpV_seq1 ?_
    refine wpV_seq1 ?_
    refine wpV_region ?_
    refine ops H' ?_
    refine opsN ?_
    refine wpV_split (fun hc' => ?_) (fun hc' => ?_)
    · replace h1' := (ifT hc').symm.trans h1'
      refine skipN ?_
      refine wpV_seq1 ?_
      refine wpV_block ?_
      refine wpV_seq1 ?_
      refine wpV_region ?_
      obtain ⟨x_1, hv', h1'⟩ := Option.bind_eq_some_iff.1 h1'
      have H' := And.intro (geti_f hv') H'
      refine ops H' ?_
      refine opsN ?_
      refine wpV_split (fun hc' => ?_) (fun hc' => ?_)
      · replace h1' := (ifT hc').symm.trans h1'
        refine wpV_seq1 ?_
        refine wpV_region ?_
        refine ops H' ?_
        refine opsN ?_
        refine retN ?_
        obtain rfl := Option.some.inj h1'
        refine ⟨_, rfl, fun hr' => ?_⟩
        subst hr'
        obtain rfl := Option.some.inj h0'
        exact outG H' rfl rfl
      · replace h1' := (ifF hc').symm.trans h1'
        refine skipN ?_
        refine wpV_region ?_
        refine ops H' ?_
        refine opsN ?_
        obtain rfl := Option.some.inj h1'
        exact shd [0, 1, 5] [] 2 ⟨_, rfl, rfl⟩
    · replace h1' := (ifF hc').symm.trans h1'
      refine exitN ?_
      obtain rfl := Option.some.inj h1'
      refine ⟨_, rfl, fun hr' => ?_⟩
      subst hr'
      exact shd [] [] 2 ⟨h0', rfl⟩
  · rintro e' ⟨h0', rfl⟩
    unfold laws_within_j1 at h0'
    refine wpV_seq1 ?_
    refine wpV_region ?_
    refine ops H' ?_
    refine opsN ?_
    refine retN ?_
    obtain rfl := Option.some.inj h0'
    exact outG H' rfl rfl
theorem W_laws_FnTips (code : List Int) (r' : Bool) (h0' : laws_FnTips code = some r') : Fn X 9 [.one (.list false 1 (List.map (rK .u8) code))] [.one (.sc (.bool r'))] [] := by
  have H' := And.intro t3 (And.intro t4 (And.intro t23 (And.intro t40 (And.intro R_Li64 (And.intro R_i64 (R_u8))))))
  unfold laws_FnTips at h0'
  refine Fn.start (fn := f9) (N := 95) (res := [.tmp 2]) rfl rfl rfl rfl rfl (by simp) ?_
  refine enterG H' ?_
  refine wpV_seq1 ?_
  refine wpV_region ?_
  refine ops H' ?_
  refine opsN ?_
  refine wpV_seq1 ?_
  refine wpV_seq1 ?_
  refine wpV_region ?_
  refine ops H' ?_
  obtain ⟨x11, hy', h0'⟩ := Option.bind_eq_some_iff.1 h0'
  refine callG H' (fun _ => []) (W_laws_big _ _ hy') ?_
  refine opsN ?_
  refine wpV_split (fun hc' => ?_) (fun hc' => ?_)
  · replace h0' := (ifT hc').symm.trans h0'
    refine wpV_seq1 ?_
    refine wpV_region ?_
    refine ops H' ?_
    refine opsN ?_
    refine retN ?_
    obtain rfl := Option.some.inj h0'
    exact outG H' rfl rfl
  · replace h0' := (ifF hc').symm.trans h0'
    refine skipN ?_
    refine wpV_seq1 ?_
    refine wpV_region ?_
    refine ops H' ?_
    obtain ⟨x13, hy', h0'⟩ := Option.bind_eq_some_iff.1 h0'
    refine callG H' (fun _ => []) (W_spec_DrawRightGraph _ _ hy') ?_
    refine ops H' ?_
    refine opsN ?_
    refine wpV_seq1 ?_
    refine wpV_region ?_
    refine ops H' ?_
    obtain ⟨x15, hy', h0'⟩ := Option.bind_eq_some_iff.1 h0'
    refine callG H' (fun _ => []) (W_impl_Tips _ _ hy') ?_
    refine ops H' ?_
    refine opsN ?_
    refine wpV_seq1 ?_
    refine wpV_region ?_
    refine ops H' ?_
    obtain ⟨x17, hy', h0'⟩ := Option.bind_eq_some_iff.1 h0'
    refine callG H' (fun _ => []) (W_impl_Levels _ _ hy') ?_
    refine ops H' ?_
    refine opsN ?_
    refine wpV_seq1 ?_
    refine wpV_seq1 ?_
    refine wpV_region ?_
    refine ops H' ?_
    obtain ⟨b, gh0', h0'⟩ := Option.bind_eq_some_iff.1 h0'
    refine opsV_cut 8 (fun e' => e' = { N := 95, np := 1, nx := 4, sl := [(3, .pl (.one (.ref 1 []))), (4, .pl (.one (.ref 2 []))), (5, .pl (.one (.ref 3 []))), (31, .pl (.one (.v (.sc (.bool b)))))], ob := [(1, .list true 1 (List.map (rL true 1 (rK .i64)) x13)), (2, .list true 1 (List.map (rK .i64) x15)), (3, .list true 1 (List.map (rK .i64) x17))] }) ?_ ?_
    · simp only [List.take_succ_cons, List.take_zero]
      refine opsV_sp (fun hc' => ?_) (fun hc' => ?_)
      · replace gh0' := (ifF hc').symm.trans gh0'
        refine ops H' ?_
        obtain ⟨x26, hy', gh0'⟩ := Option.bind_eq_some_iff.1 gh0'
        refine callG H' (fun _ => []) (W_impl_ProperOf _ _ _ hy') ?_
        refine ops H' ?_
        obtain rfl := Option.some.inj gh0'
        refine opsV_nil ?_
        exact ⟨rfl, shd [3, 4, 5, 31] [(2, 1), (3, 2), (4, 3)] 4 rfl⟩
      · replace gh0' := (ifT hc').symm.trans gh0'
        refine ops H' ?_
        obtain rfl := Option.some.inj gh0'
        refine opsV_nil ?_
        exact ⟨rfl, shd [3, 4, 5, 31] [(2, 1), (3, 2), (4, 3)] 4 rfl⟩
    · rintro e' rfl
      simp only [List.drop_succ_cons, List.drop_zero]
      refine opsN ?_
      refine wpV_split (fun hc' => ?_) (fun hc' => ?_)
      · replace h0' := (ifT hc').symm.trans h0'
        refine wpV_seq1 ?_
        refine wpV_region ?_
        refine ops H' ?_
        refine opsN ?_
        refine retN ?_
        obtain rfl := Option.some.inj h0'
        exact outG H' rfl rfl
      · replace h0' := (ifF hc').symm.trans h0'
        refine skipN ?_
        refine wpV_seqJ (fun e' => laws_FnTips_j1 = some r' ∧ e' = { N := 95, np := 1, nx := 1, sl := [], ob := [] }) ?_ ?_
        · refine wpV_seq1 ?_
          refine wpV_region ?_
          refine ops H' ?_
          refine opsN ?_
          obtain ⟨p, hl', h0'⟩ := Option.bind_eq_some_iff.1 h0'
          refine wpV_block ?_
          refine wpV_loopM (fun v e' => e' = { N := 95, np := 1, nx := 4, sl := [(3, .pl (.one (.ref 1 []))), (4, .pl (.one (.ref 2 []))), (5, .pl (.one (.ref 3 []))), (6, .pl (.one (.v (.sc (.int .i64 v)))))], ob := [(1, .list true 1 (List.map (rL true 1 (rK .i64)) x13)), (2, .list true 1 (List.map (rK .i64) x15)), (3, .list true 1 (List.map (rK .i64) x17))] }) hl' (shd [3, 4, 5, 6] [(1, 1), (2, 2), (3, 3)] 4 rfl) ?_
          rintro v y1' e' h1' rfl
          replace h1' : laws_FnTips_l1 x13 x15 x17 v = some y1' := h1'
          unfold laws_FnTips_l1 at h1'
          refine wpV_seq1 ?_
          refine wpV_seq1 ?_
          refine wpV_region ?_
          refine ops H' ?_
          refine opsN ?_
          refine wpV_split (fun hc' => ?_) (fun hc' => ?_)
          · replace h1' := (ifT hc').symm.trans h1'
            refine skipN ?_
            refine wpV_seqJ (fun e' => laws_FnTips_j2 v = some y1' ∧ e' = { N := 95, np := 1, nx := 4, sl := [(3, .pl (.one (.ref 1 []))), (4, .pl (.one (.ref 2 []))), (5, .pl (.one (.ref 3 []))), (6, .pl (.one (.v (.sc (.int .i64 v)))))], ob := [(1, .list true 1 (List.map (rL true 1 (rK .i64)) x13)), (2, .list true 1 (List.map (rK .i64) x15)), (3, .list true 1 (List.map (rK .i64) x17))] }) ?_ ?_
            · refine wpV_block ?_
              refine wpV_seq1 ?_
              refine wpV_region ?_
              refine ops H' ?_
              refine opsN ?_
              refine wpV_seqJ (fun e' => ∃ under, laws_FnTips_j3 x13 x15 x17 v under = some y1' ∧ e' = { N := 95, np := 1, nx := 4, sl := [(3, .pl (.one (.ref 1 []))), (4, .pl (.one (.ref 2 []))), (5, .pl (.one (.ref 3 []))), (6, .pl (.one (.v (.sc (.int .i64 v))))), (7, .pl (.one (.v (.sc (.bool under)))))], ob := [(1, .list true 1 (List.map (rL true 1 (rK .i64)) x13)), (2, .list true 1 (List.map (rK .i64) x15)), (3, .list true 1 (List.map (rK .i64) x17))] }) ?_ ?_
              · refine wpV_seq1 ?_
                refine wpV_region ?_
                refine ops H' ?_
                refine opsN ?_
                obtain ⟨p_2, hl', h1'⟩ := Option.bind_eq_some_iff.1 h1'
                refine wpV_block ?_
                refine wpV_loopM (fun s' e' => ∃ under_1 u, s' = (under_1, u) ∧ e' = { N := 95, np := 1, nx := 4, sl := [(3, .pl (.one (.ref 1 []))), (4, .pl (.one (.ref 2 []))), (5, .pl (.one (.ref 3 []))), (6, .pl (.one (.v (.sc (.int .i64 v))))), (7, .pl (.one (.v (.sc (.bool under_1))))), (8, .pl (.one (.v (.sc (.int .i64 u)))))], ob := [(1, .list true 1 (List.map (rL true 1 (rK .i64)) x13)), (2, .list true 1 (List.map (rK .i64) x15)), (3, .list true 1 (List.map (rK .i64) x17))] }) hl' (shd [3, 4, 5, 6, 7, 8] [(1, 1), (2, 2), (3, 3)] 4 ⟨_, _, rfl, rfl⟩) ?_
                rintro s' y2' e' h2' ⟨under_1, u, rfl, rfl⟩
                replace h2' : laws_FnTips_l3 x13 v under_1 u = some y2' := h2'
                unfold laws_FnTips_l3 at h2'
                refine wpV_seq1 ?_
                refine wpV_seq1 ?_
                refine wpV_region ?_
                refine ops H' ?_
                refine opsN ?_
                refine wpV_split (fun hc' => ?_) (fun hc' => ?_)
                · replace h2' := (ifT hc').symm.trans h2'
                  refine skipN ?_
                  refine wpV_seq1 ?_
                  refine wpV_block ?_
                  refine wpV_region ?_
                  refine ops H' ?_
                  obtain ⟨b_2, gh2', h2'⟩ := Option.bind_eq_some_iff.1 h2'
                  refine opsV_cut 5 (fun e' => e' = { N := 95, np := 1, nx := 4, sl := [(3, .pl (.one (.ref 1 []))), (4, .pl (.one (.ref 2 []))), (5, .pl (.one (.ref 3 []))), (6, .pl (.one (.v (.sc (.int .i64 v))))), (8, .pl (.one (.v (.sc (.int .i64 u))))), (52, .pl (.one (.v (.sc (.bool b_2)))))], ob := [(1, .list true 1 (List.map (rL true 1 (rK .i64)) x13)), (2, .list true 1 (List.map (rK .i64) x15)), (3, .list true 1 (List.map (rK .i64) x17))] }) ?_ ?_
                  · simp only [List.take_succ_cons, List.take_zero]
                    refine opsV_sp (fun hc' => ?_) (fun hc' => ?_)
                    · replace gh2' := (ifF hc').symm.trans gh2'
                      refine ops H' ?_
                      obtain ⟨x51, hy', gh2'⟩ := Option.bind_eq_some_iff.1 gh2'
                      refine callG H' (fun _ => []) (W_spec_IsAncestor _ _ _ _ hy') ?_
                      refine ops H' ?_
                      obtain rfl := Option.some.inj gh2'
                      refine opsV_nil ?_
                      exact ⟨rfl, shd [3, 4, 5, 6, 8, 52] [(1, 1), (2, 2), (3, 3)] 4 rfl⟩
                    · replace gh2' := (ifT hc').symm.trans gh2'
                      refine ops H' ?_
                      obtain rfl := Option.some.inj gh2'
                      refine opsV_nil ?_
                      exact ⟨rfl, shd [3, 4, 5, 6, 8, 52] [(1, 1), (2, 2), (3, 3)] 4 rfl⟩
                  · rintro e' rfl
                    simp only [List.drop_succ_cons, List.drop_zero]
                    refine ops H' ?_
                    refine opsN ?_
                    refine wpV_region ?_
                    refine ops H' ?_
                    refine opsN ?_
                    obtain rfl := Option.some.inj h2'
                    exact shd [3, 4, 5, 6, 7, 8] [(1, 1), (2, 2), (3, 3)] 4 ⟨_, rfl, _, _, rfl, rfl⟩
                · replace h2' := (ifF hc').symm.trans h2'
                  refine exitN ?_
                  obtain rfl := Option.some.inj h2'
                  refine ⟨_, rfl, fun hr' => ?_⟩
                  subst hr'
                  exact shd [3, 4, 5, 6, 7] [(1, 1), (2, 2), (3, 3)] 4 ⟨_, h1', rfl⟩
              · rintro e' ⟨under, h1', rfl⟩
                unfold laws_FnTips_j3 at h1'
                refine wpV_seq1 ?_
                refine wpV_seq1 ?_
                refine wpV_region ?_
                refine ops H' ?_
                obtain ⟨x56, hy', h1'⟩ := Option.bind_eq_some_iff.1 h1'
                refine callG H' (fun _ => []) (W_laws_within _ _ _ hy') ?_
                refine ops H' ?_
                refine opsN ?_
                refine wpV_split (fun hc' => ?_) (fun hc' => ?_)
                · replace h1' := (ifT hc').symm.trans h1'
                  refine wpV_seq1 ?_
                  refine wpV_region ?_
                  refine ops H' ?_
                  refine opsN ?_
                  refine retN ?_
                  obtain rfl := Option.some.inj h1'
                  refine ⟨_, rfl, fun hr' => ?_⟩
                  subst hr'
                  obtain rfl := Option.some.inj h0'
                  exact outG H' rfl rfl
                · replace h1' := (ifF hc').symm.trans h1'
                  refine skipN ?_
                  refine wpV_seqJ (fun e' => laws_FnTips_j4 x13 x17 v = some y1' ∧ e' = { N := 95, np := 1, nx := 4, sl := [(3, .pl (.one (.ref 1 []))), (4, .pl (.one (.ref 2 []))), (5, .pl (.one (.ref 3 []))), (6, .pl (.one (.v (.sc (.int .i64 v)))))], ob := [(1, .list true 1 (List.map (rL true 1 (rK .i64)) x13)), (2, .list true 1 (List.map (rK .i64) x15)), (3, .list true 1 (List.map (rK .i64) x17))] }) ?_ ?_
                  · refine wpV_seq1 ?_
                    refine wpV_region ?_
                    refine ops H' ?_
                    refine opsN ?_
                    obtain ⟨p_1, hl', h1'⟩ := Option.bind_eq_some_iff.1 h1'
                    refine wpV_block ?_
                    refine wpV_loopM (fun k e' => e' = { N := 95, np := 1, nx := 4, sl := [(3, .pl (.one (.ref 1 []))), (4, .pl (.one (.ref 2 []))), (5, .pl (.one (.ref 3 []))), (6, .pl (.one (.v (.sc (.int .i64 v))))), (9, .pl (.one (.v (.sc (.int .i64 k)))))], ob := [(1, .list true 1 (List.map (rL true 1 (rK .i64)) x13)), (2, .list true 1 (List.map (rK .i64) x15)), (3, .list true 1 (List.map (rK .i64) x17))] }) hl' (shd [3, 4, 5, 6, 9] [(1, 1), (2, 2), (3, 3)] 4 rfl) ?_
                    rintro k y2' e' h2' rfl
                    replace h2' : laws_FnTips_l2 x13 x17 v k = some y2' := h2'
                    unfold laws_FnTips_l2 at h2'
                    refine wpV_seq1 ?_
                    refine wpV_seq1 ?_
                    refine wpV_region ?_
                    obtain ⟨x_2, hv', h2'⟩ := Option.bind_eq_some_iff.1 h2'
                    have H' := And.intro (geti_f hv') H'
                    refine ops H' ?_
                    refine opsN ?_
                    refine wpV_split (fun hc' => ?_) (fun hc' => ?_)
                    · replace h2' := (ifT hc').symm.trans h2'
                      refine skipN ?_
                      refine wpV_seq1 ?_
                      refine wpV_block ?_
                      refine wpV_seq1 ?_
                      refine regQ ?_
                      obtain ⟨x_3, hv', h2'⟩ := Option.bind_eq_some_iff.1 h2'
                      have H' := And.intro (geti_f hv') H'
                      obtain ⟨x_4, hv', h2'⟩ := Option.bind_eq_some_iff.1 h2'
                      have H' := And.intro (geti_f hv') H'
                      obtain ⟨x_5, hv', h2'⟩ := Option.bind_eq_some_iff.1 h2'
                      have H' := And.intro (geti_f hv') H'
                      refine ops H' ?_
                      refine quN ?_
                      refine wpV_split (fun hc' => ?_) (fun hc' => ?_)
                      · replace h2' := (ifT hc').symm.trans h2'
                        refine wpV_seq1 ?_
                        refine wpV_region ?_
                        refine ops H' ?_
                        refine opsN ?_
                        refine retN ?_
                        obtain rfl := Option.some.inj h2'
                        refine ⟨_, rfl, fun hr' => ?_⟩
                        subst hr'
                        obtain rfl := Option.some.inj h1'
                        refine ⟨_, rfl, fun hr' => ?_⟩
                        subst hr'
                        obtain rfl := Option.some.inj h0'
                        exact outG H' rfl rfl
                      · replace h2' := (ifF hc').symm.trans h2'
                        refine skipN ?_
                        refine wpV_region ?_
                        refine ops H' ?_
                        refine opsN ?_
                        obtain rfl := Option.some.inj h2'
                        exact shd [3, 4, 5, 6, 9] [(1, 1), (2, 2), (3, 3)] 4 ⟨_, rfl, rfl⟩
                    · replace h2' := (ifF hc').symm.trans h2'
                      refine exitN ?_
                      obtain rfl := Option.some.inj h2'
                      refine ⟨_, rfl, fun hr' => ?_⟩
                      subst hr'
                      exact shd [3, 4, 5, 6] [(1, 1), (2, 2), (3, 3)] 4 ⟨h1', rfl⟩
                  · rintro e' ⟨h1', rfl⟩
                    unfold laws_FnTips_j4 at h1'
                    refine wpV_seq1 ?_
                    refine wpV_region ?_
                    obtain ⟨x, hv', h1'⟩ := Option.bind_eq_some_iff.1 h1'
                    have H' := And.intro (geti_f hv') H'
                    refine ops H' ?_
                    obtain ⟨b_1, gh1', h1'⟩ := Option.bind_eq_some_iff.1 h1'
                    refine opsV_cut 6 (fun e' => e' = { N := 95, np := 1, nx := 4, sl := [(3, .pl (.one (.ref 1 []))), (4, .pl (.one (.ref 2 []))), (5, .pl (.one (.ref 3 []))), (6, .pl (.one (.v (.sc (.int .i64 v))))), (94, .pl (.one (.v (.sc (.bool b_1)))))], ob := [(1, .list true 1 (List.map (rL true 1 (rK .i64)) x13)), (2, .list true 1 (List.map (rK .i64) x15)), (3, .list true 1 (List.map (rK .i64) x17))] }) ?_ ?_
                    · simp only [List.take_succ_cons, List.take_zero]
                      refine opsV_sp (fun hc' => ?_) (fun hc' => ?_)
                      · replace gh1' := (ifT hc').symm.trans gh1'
                        obtain ⟨x_1, hv', gh1'⟩ := Option.bind_eq_some_iff.1 gh1'
                        have H' := And.intro (geti_f hv') H'
                        refine ops H' ?_
                        obtain rfl := Option.some.inj gh1'
                        refine opsV_nil ?_
                        exact ⟨rfl, shd [3, 4, 5, 6, 94] [(1, 1), (2, 2), (3, 3)] 4 rfl⟩
                      · replace gh1' := (ifF hc').symm.trans gh1'
                        refine ops H' ?_
                        obtain rfl := Option.some.inj gh1'
                        refine opsV_nil ?_
                        exact ⟨rfl, shd [3, 4, 5, 6, 94] [(1, 1), (2, 2), (3, 3)] 4 rfl⟩
                    · rintro e' rfl
                      simp only [List.drop_succ_cons, List.drop_zero]
                      refine opsN ?_
                      refine wpV_split (fun hc' => ?_) (fun hc' => ?_)
                      · replace h1' := (ifT hc').symm.trans h1'
                        refine wpV_seq1 ?_
                        refine wpV_region ?_
                        refine ops H' ?_
                        refine opsN ?_
                        refine retN ?_
                        obtain rfl := Option.some.inj h1'
                        refine ⟨_, rfl, fun hr' => ?_⟩
                        subst hr'
                        obtain rfl := Option.some.inj h0'
                        exact outG H' rfl rfl
                      · replace h1' := (ifF hc').symm.trans h1'
                        refine skipN ?_
                        exact shd [3, 4, 5, 6] [(1, 1), (2, 2), (3, 3)] 4 ⟨h1', rfl⟩
            · rintro e' ⟨h1', rfl⟩
              unfold laws_FnTips_j2 at h1'
              refine wpV_region ?_
              refine ops H' ?_
              refine opsN ?_
              obtain rfl := Option.some.inj h1'
              exact shd [3, 4, 5, 6] [(1, 1), (2, 2), (3, 3)] 4 ⟨_, rfl, rfl⟩
          · replace h1' := (ifF hc').symm.trans h1'
            refine exitN ?_
            obtain rfl := Option.some.inj h1'
            refine ⟨_, rfl, fun hr' => ?_⟩
            subst hr'
            exact shd [] [] 1 ⟨h0', rfl⟩
        · rintro e' ⟨h0', rfl⟩
          unfold laws_FnTips_j1 at h0'
          refine wpV_seq1 ?_
          refine wpV_region ?_
          refine ops H' ?_
          refine opsN ?_
          refine retN ?_
          obtain rfl := Option.some.inj h0'
          exact outG H' rfl rfl
end Go.TV.KFnTips
