/- Walks. -/
import Derived.Test.YtmoglghkjfjalaaKFnExactReadBundleE
import Derived.Test.YtmoglghkjfjalaaKFnExactReadBundleW2
import Derived.Test.YtmoglghkjfjalaaKFnExactReadBundleW3
set_option linter.unusedVariables false
set_option linter.unusedSimpArgs false
set_option maxHeartbeats 8000000
set_option maxRecDepth 100000
namespace Go.TV.KFnExactReadBundle
attribute [local irreducible] anyV wpV opsV Does thenV blockV RetL quV seqV
open Go.Proofs.Try Go.TV.F
theorem W_laws_markChangeS (a : List T_impl_Change) (k : Int) (r' : Int × (List T_impl_Change)) (h0' : laws_markChangeS a k = some r') : Fn X 49 [.one (.list true 4 (List.map (r_T_impl_Change true) a)), .one (.sc (.int .i64 k))] [.one (.sc (.int .i64 r'.1))] [(0, .list true 4 (List.map (r_T_impl_Change true) r'.2))] := by
  have H' := And.intro t3 (And.intro t9 (And.intro t36 (And.intro t75 (And.intro t80 (And.intro R_T_impl_Change (R_s))))))
  unfold laws_markChangeS at h0'
  refine Fn.start (fn := f49) (N := 43) (res := [.tmp 4]) rfl rfl rfl rfl rfl (by simp) ?_
  refine enterG H' ?_
  refine wpV_seq1 ?_
  refine wpV_region ?_
  refine ops H' ?_
  refine opsN ?_
  refine wpV_seqJ (fun e' => ∃ k_1 a_1, laws_markChangeS_j1 k_1 a_1 = some r' ∧ e' = { N := 43, np := 2, nx := 2, sl := [(1, .pl (.one (.v (.sc (.int .i64 k_1)))))], ob := [(0, .list true 4 (List.map (r_T_impl_Change true) a_1))] }) ?_ ?_
  · refine wpV_seq1 ?_
    refine wpV_region ?_
    refine ops H' ?_
    refine opsN ?_
    obtain ⟨p, hl', h0'⟩ := Option.bind_eq_some_iff.1 h0'
    refine wpV_block ?_
    refine wpV_loopM (fun s' e' => ∃ k_2 i a_2, s' = (k_2, i, a_2) ∧ e' = { N := 43, np := 2, nx := 2, sl := [(0, .pl (.one (.ref 0 []))), (1, .pl (.one (.v (.sc (.int .i64 k_2))))), (5, .pl (.one (.v (.sc (.int .i64 i)))))], ob := [(0, .list true 4 (List.map (r_T_impl_Change true) a_2))] }) hl' (shd [0, 1, 5] [(0, 0)] 2 ⟨_, _, _, rfl, rfl⟩) ?_
    rintro s' y1' e' h1' ⟨k_2, i, a_2, rfl, rfl⟩
    replace h1' : laws_markChangeS_l1 k_2 i a_2 = some y1' := h1'
    unfold laws_markChangeS_l1 at h1'
    refine wpV_seq1 ?_
    refine wpV_seq1 ?_
    refine wpV_region ?_
    refine ops H' ?_
    refine opsN ?_
    refine wpV_split (fun hc' => ?_) (fun hc' => ?_)
    · replace h1' := (ifT hc').symm.trans h1'
      refine skipN ?_
      refine wpV_seq1 ?_
      refine wpV_block ?_
      refine wpV_seq1 ?_
      refine wpV_region ?_
      obtain ⟨x, hv', h1'⟩ := Option.bind_eq_some_iff.1 h1'
      have H' := And.intro (geti_f hv') H'
      refine ops H' ?_
      refine opsN ?_
      refine wpV_seq1 ?_
      refine wpV_region ?_
      refine ops H' ?_
      refine opsN ?_
      refine wpV_seq1 ?_
      refine wpV_region ?_
      refine ops H' ?_
      obtain ⟨x22, hy', h1'⟩ := Option.bind_eq_some_iff.1 h1'
      refine callG H' (fun _ => []) (W_laws_markText _ _ hy') ?_
      obtain ⟨x_1, hv', h1'⟩ := Option.bind_eq_some_iff.1 h1'
      have H' := And.intro (geti_f hv') H'
      refine ops H' ?_
      refine opsN ?_
      refine wpV_seq1 ?_
      refine wpV_region ?_
      refine ops H' ?_
      refine opsN ?_
      refine wpV_seq1 ?_
      refine wpV_region ?_
      refine ops H' ?_
      obtain ⟨x30, hy', h1'⟩ := Option.bind_eq_some_iff.1 h1'
      refine callG H' (fun _ => []) (W_laws_markText _ _ hy') ?_
      obtain ⟨x_2, hv', h1'⟩ := Option.bind_eq_some_iff.1 h1'
      have H' := And.intro (geti_f hv') H'
      refine ops H' ?_
      refine opsN ?_
      refine wpV_seq1 ?_
      refine wpV_region ?_
      refine ops H' ?_
      refine opsN ?_
      refine wpV_region ?_
      obtain ⟨x_3, hv', h1'⟩ := Option.bind_eq_some_iff.1 h1'
      have H' := And.intro (geti_f hv') H'
      refine ops H' ?_
      obtain ⟨x41, hy', h1'⟩ := Option.bind_eq_some_iff.1 h1'
      refine callG H' (fun _ => [0]) (W_laws_markStringS _ _ _ hy') ?_
      refine ops H' ?_
      refine opsN ?_
      refine wpV_region ?_
      refine ops H' ?_
      refine opsN ?_
      obtain rfl := Option.some.inj h1'
      exact shd [0, 1, 5] [(0, 0)] 2 ⟨_, rfl, _, _, _, rfl, rfl⟩
    · replace h1' := (ifF hc').symm.trans h1'
      refine exitN ?_
      obtain rfl := Option.some.inj h1'
      refine ⟨_, rfl, fun hr' => ?_⟩
      subst hr'
      exact shd [1] [(0, 0)] 2 ⟨_, _, h0', rfl⟩
  · rintro e' ⟨k_1, a_1, h0', rfl⟩
    unfold laws_markChangeS_j1 at h0'
    refine wpV_seq1 ?_
    refine wpV_region ?_
    refine ops H' ?_
    refine opsN ?_
    refine retN ?_
    obtain rfl := Option.some.inj h0'
    exact outG H' rfl rfl
theorem W_laws_markStepS (a : List T_impl_Step) (k : Int) (r' : Int × (List T_impl_Step)) (h0' : laws_markStepS a k = some r') : Fn X 10 [.one (.list true 3 (List.map (r_T_impl_Step true) a)), .one (.sc (.int .i64 k))] [.one (.sc (.int .i64 r'.1))] [(0, .list true 3 (List.map (r_T_impl_Step true) r'.2))] := by
  have H' := And.intro t3 (And.intro t9 (And.intro t22 (And.intro t43 (And.intro t75 (And.intro t77 (And.intro R_T_impl_Change (And.intro R_T_impl_Step (And.intro R_i64 (R_s)))))))))
  unfold laws_markStepS at h0'
  refine Fn.start (fn := f10) (N := 35) (res := [.tmp 4]) rfl rfl rfl rfl rfl (by simp) ?_
  refine enterG H' ?_
  refine wpV_seq1 ?_
  refine wpV_region ?_
  refine ops H' ?_
  refine opsN ?_
  refine wpV_seqJ (fun e' => ∃ k_1 a_1, laws_markStepS_j1 k_1 a_1 = some r' ∧ e' = { N := 35, np := 2, nx := 2, sl := [(1, .pl (.one (.v (.sc (.int .i64 k_1)))))], ob := [(0, .list true 3 (List.map (r_T_impl_Step true) a_1))] }) ?_ ?_
  · refine wpV_seq1 ?_
    refine wpV_region ?_
    refine ops H' ?_
    refine opsN ?_
    obtain ⟨p, hl', h0'⟩ := Option.bind_eq_some_iff.1 h0'
    refine wpV_block ?_
    refine wpV_loopM (fun s' e' => ∃ k_2 i a_2, s' = (k_2, i, a_2) ∧ e' = { N := 35, np := 2, nx := 2, sl := [(0, .pl (.one (.ref 0 []))), (1, .pl (.one (.v (.sc (.int .i64 k_2))))), (5, .pl (.one (.v (.sc (.int .i64 i)))))], ob := [(0, .list true 3 (List.map (r_T_impl_Step true) a_2))] }) hl' (shd [0, 1, 5] [(0, 0)] 2 ⟨_, _, _, rfl, rfl⟩) ?_
    rintro s' y1' e' h1' ⟨k_2, i, a_2, rfl, rfl⟩
    replace h1' : laws_markStepS_l1 k_2 i a_2 = some y1' := h1'
    unfold laws_markStepS_l1 at h1'
    refine wpV_seq1 ?_
    refine wpV_seq1 ?_
    refine wpV_region ?_
    refine ops H' ?_
    refine opsN ?_
    refine wpV_split (fun hc' => ?_) (fun hc' => ?_)
    · replace h1' := (ifT hc').symm.trans h1'
      refine skipN ?_
      refine wpV_seq1 ?_
      refine wpV_block ?_
      refine wpV_seq1 ?_
      refine wpV_region ?_
      obtain ⟨x, hv', h1'⟩ := Option.bind_eq_some_iff.1 h1'
      have H' := And.intro (geti_f hv') H'
      refine ops H' ?_
      obtain ⟨x18, hy', h1'⟩ := Option.bind_eq_some_iff.1 h1'
      refine callG H' (fun _ => [0]) (W_laws_markIntS _ _ _ hy') ?_
      refine ops H' ?_
      refine opsN ?_
      refine wpV_seq1 ?_
      refine wpV_region ?_
      refine ops H' ?_
      obtain ⟨x22, hy', h1'⟩ := Option.bind_eq_some_iff.1 h1'
      refine callG H' (fun _ => []) (W_laws_markText _ _ hy') ?_
      obtain ⟨x_1, hv', h1'⟩ := Option.bind_eq_some_iff.1 h1'
      have H' := And.intro (geti_f hv') H'
      refine ops H' ?_
      refine opsN ?_
      refine wpV_seq1 ?_
      refine wpV_region ?_
      refine ops H' ?_
      refine opsN ?_
      refine wpV_region ?_
      obtain ⟨x_2, hv', h1'⟩ := Option.bind_eq_some_iff.1 h1'
      have H' := And.intro (geti_f hv') H'
      refine ops H' ?_
      obtain ⟨x33, hy', h1'⟩ := Option.bind_eq_some_iff.1 h1'
      refine callG H' (fun _ => [0]) (W_laws_markChangeS _ _ _ hy') ?_
      refine ops H' ?_
      refine opsN ?_
      refine wpV_region ?_
      refine ops H' ?_
      refine opsN ?_
      obtain rfl := Option.some.inj h1'
      exact shd [0, 1, 5] [(0, 0)] 2 ⟨_, rfl, _, _, _, rfl, rfl⟩
    · replace h1' := (ifF hc').symm.trans h1'
      refine exitN ?_
      obtain rfl := Option.some.inj h1'
      refine ⟨_, rfl, fun hr' => ?_⟩
      subst hr'
      exact shd [1] [(0, 0)] 2 ⟨_, _, h0', rfl⟩
  · rintro e' ⟨k_1, a_1, h0', rfl⟩
    unfold laws_markStepS_j1 at h0'
    refine wpV_seq1 ?_
    refine wpV_region ?_
    refine ops H' ?_
    refine opsN ?_
    refine retN ?_
    obtain rfl := Option.some.inj h0'
    exact outG H' rfl rfl
theorem W_laws_heldIntS (a : List Int) (k : Int) (r' : Int) (h0' : laws_heldIntS a k = some r') : Fn X 50 [.one (.list false 1 (List.map (rK .i64) a)), .one (.sc (.int .i64 k))] [.one (.sc (.int .i64 r'))] [] := by
  have H' := And.intro t3 (And.intro t43 (R_i64))
  unfold laws_heldIntS at h0'
  refine Fn.start (fn := f50) (N := 21) (res := [.tmp 4]) rfl rfl rfl rfl rfl (by simp) ?_
  refine enterG H' ?_
  refine wpV_seq1 ?_
  refine wpV_region ?_
  refine ops H' ?_
  refine opsN ?_
  refine wpV_seqJ (fun e' => ∃ k_1, laws_heldIntS_j1 k_1 = some r' ∧ e' = { N := 21, np := 2, nx := 2, sl := [(1, .pl (.one (.v (.sc (.int .i64 k_1)))))], ob := [] }) ?_ ?_
  · refine wpV_seq1 ?_
    refine wpV_region ?_
    refine ops H' ?_
    refine opsN ?_
    obtain ⟨p, hl', h0'⟩ := Option.bind_eq_some_iff.1 h0'
    refine wpV_block ?_
    refine wpV_loopM (fun s' e' => ∃ k_2 i, s' = (k_2, i) ∧ e' = { N := 21, np := 2, nx := 2, sl := [(0, .pl (.one (.v (.list false 1 (List.map (rK .i64) a))))), (1, .pl (.one (.v (.sc (.int .i64 k_2))))), (5, .pl (.one (.v (.sc (.int .i64 i)))))], ob := [] }) hl' (shd [0, 1, 5] [] 2 ⟨_, _, rfl, rfl⟩) ?_
    rintro s' y1' e' h1' ⟨k_2, i, rfl, rfl⟩
    replace h1' : laws_heldIntS_l1 a k_2 i = some y1' := h1'
    unfold laws_heldIntS_l1 at h1'
    refine wpV_seq1 ?_
    refine wpV_seq1 ?_
    refine wpV_region ?_
    refine ops H' ?_
    refine opsN ?_
    refine wpV_split (fun hc' => ?_) (fun hc' => ?_)
    · replace h1' := (ifT hc').symm.trans h1'
      refine skipN ?_
      refine wpV_seq1 ?_
      refine wpV_block ?_
      refine wpV_seq1 ?_
      refine wpV_seq1 ?_
      refine wpV_region ?_
      obtain ⟨x, hv', h1'⟩ := Option.bind_eq_some_iff.1 h1'
      have H' := And.intro (geti_f hv') H'
      refine ops H' ?_
      refine opsN ?_
      refine wpV_split (fun hc' => ?_) (fun hc' => ?_)
      · replace h1' := (ifT hc').symm.trans h1'
        refine wpV_seq1 ?_
        refine wpV_region ?_
        refine ops H' ?_
        refine opsN ?_
        refine retN ?_
        obtain rfl := Option.some.inj h1'
        refine ⟨_, rfl, fun hr' => ?_⟩
        subst hr'
        obtain rfl := Option.some.inj h0'
        exact outG H' rfl rfl
      · replace h1' := (ifF hc').symm.trans h1'
        refine skipN ?_
        refine wpV_region ?_
        refine ops H' ?_
        refine opsN ?_
        refine wpV_region ?_
        refine ops H' ?_
        refine opsN ?_
        obtain rfl := Option.some.inj h1'
        exact shd [0, 1, 5] [] 2 ⟨_, rfl, _, _, rfl, rfl⟩
    · replace h1' := (ifF hc').symm.trans h1'
      refine exitN ?_
      obtain rfl := Option.some.inj h1'
      refine ⟨_, rfl, fun hr' => ?_⟩
      subst hr'
      exact shd [1] [] 2 ⟨_, h0', rfl⟩
  · rintro e' ⟨k_1, h0', rfl⟩
    unfold laws_heldIntS_j1 at h0'
    refine wpV_seq1 ?_
    refine wpV_region ?_
    refine ops H' ?_
    refine opsN ?_
    refine retN ?_
    obtain rfl := Option.some.inj h0'
    exact outG H' rfl rfl
theorem W_laws_heldStringS (a : List ByteArray) (k : Int) (r' : Int) (h0' : laws_heldStringS a k = some r') : Fn X 110 [.one (.list false 1 (List.map rS a)), .one (.sc (.int .i64 k))] [.one (.sc (.int .i64 r'))] [] := by
  have H' := And.intro t3 (And.intro t9 (And.intro t36 (R_s)))
  unfold laws_heldStringS at h0'
  refine Fn.start (fn := f110) (N := 22) (res := [.tmp 4]) rfl rfl rfl rfl rfl (by simp) ?_
  refine enterG H' ?_
  refine wpV_seq1 ?_
  refine wpV_region ?_
  refine ops H' ?_
  refine opsN ?_
  refine wpV_seqJ (fun e' => ∃ k_1, laws_heldStringS_j1 k_1 = some r' ∧ e' = { N := 22, np := 2, nx := 2, sl := [(1, .pl (.one (.v (.sc (.int .i64 k_1)))))], ob := [] }) ?_ ?_
  · refine wpV_seq1 ?_
    refine wpV_region ?_
    refine ops H' ?_
    refine opsN ?_
    obtain ⟨p, hl', h0'⟩ := Option.bind_eq_some_iff.1 h0'
    refine wpV_block ?_
    refine wpV_loopM (fun s' e' => ∃ k_2 i, s' = (k_2, i) ∧ e' = { N := 22, np := 2, nx := 2, sl := [(0, .pl (.one (.v (.list false 1 (List.map rS a))))), (1, .pl (.one (.v (.sc (.int .i64 k_2))))), (5, .pl (.one (.v (.sc (.int .i64 i)))))], ob := [] }) hl' (shd [0, 1, 5] [] 2 ⟨_, _, rfl, rfl⟩) ?_
    rintro s' y1' e' h1' ⟨k_2, i, rfl, rfl⟩
    replace h1' : laws_heldStringS_l1 a k_2 i = some y1' := h1'
    unfold laws_heldStringS_l1 at h1'
    refine wpV_seq1 ?_
    refine wpV_seq1 ?_
    refine wpV_region ?_
    refine ops H' ?_
    refine opsN ?_
    refine wpV_split (fun hc' => ?_) (fun hc' => ?_)
    · replace h1' := (ifT hc').symm.trans h1'
      refine skipN ?_
      refine wpV_seq1 ?_
      refine wpV_block ?_
      refine wpV_seq1 ?_
      refine wpV_seq1 ?_
      refine regQ ?_
      obtain ⟨x, hv', h1'⟩ := Option.bind_eq_some_iff.1 h1'
      have H' := And.intro (geti_f hv') H'
      refine ops H' ?_
      obtain ⟨x17, hy', h1'⟩ := Option.bind_eq_some_iff.1 h1'
      refine callGQ H' (W_laws_markText _ _ hy') ?_
      refine ops H' ?_
      refine quN ?_
      refine wpV_split (fun hc' => ?_) (fun hc' => ?_)
      · replace h1' := (ifT hc').symm.trans h1'
        refine wpV_seq1 ?_
        refine wpV_region ?_
        refine ops H' ?_
        refine opsN ?_
        refine retN ?_
        obtain rfl := Option.some.inj h1'
        refine ⟨_, rfl, fun hr' => ?_⟩
        subst hr'
        obtain rfl := Option.some.inj h0'
        exact outG H' rfl rfl
      · replace h1' := (ifF hc').symm.trans h1'
        refine skipN ?_
        refine wpV_region ?_
        refine ops H' ?_
        refine opsN ?_
        refine wpV_region ?_
        refine ops H' ?_
        refine opsN ?_
        obtain rfl := Option.some.inj h1'
        exact shd [0, 1, 5] [] 2 ⟨_, rfl, _, _, rfl, rfl⟩
    · replace h1' := (ifF hc').symm.trans h1'
      refine exitN ?_
      obtain rfl := Option.some.inj h1'
      refine ⟨_, rfl, fun hr' => ?_⟩
      subst hr'
      exact shd [1] [] 2 ⟨_, h0', rfl⟩
  · rintro e' ⟨k_1, h0', rfl⟩
    unfold laws_heldStringS_j1 at h0'
    refine wpV_seq1 ?_
    refine wpV_region ?_
    refine ops H' ?_
    refine opsN ?_
    refine retN ?_
    obtain rfl := Option.some.inj h0'
    exact outG H' rfl rfl
theorem W_laws_heldChangeS (a : List T_impl_Change) (k : Int) (r' : Int) (h0' : laws_heldChangeS a k = some r') : Fn X 51 [.one (.list false 4 (List.map (r_T_impl_Change false) a)), .one (.sc (.int .i64 k))] [.one (.sc (.int .i64 r'))] [] := by
  have H' := And.intro t3 (And.intro t9 (And.intro t36 (And.intro t75 (And.intro t80 (And.intro R_T_impl_Change (R_s))))))
  unfold laws_heldChangeS at h0'
  refine Fn.start (fn := f51) (N := 51) (res := [.tmp 4]) rfl rfl rfl rfl rfl (by simp) ?_
  refine enterG H' ?_
  refine wpV_seq1 ?_
  refine wpV_region ?_
  refine ops H' ?_
  refine opsN ?_
  refine wpV_seqJ (fun e' => ∃ k_1, laws_heldChangeS_j1 k_1 = some r' ∧ e' = { N := 51, np := 2, nx := 2, sl := [(1, .pl (.one (.v (.sc (.int .i64 k_1)))))], ob := [] }) ?_ ?_
  · refine wpV_seq1 ?_
    refine wpV_region ?_
    refine ops H' ?_
    refine opsN ?_
    obtain ⟨p, hl', h0'⟩ := Option.bind_eq_some_iff.1 h0'
    refine wpV_block ?_
    refine wpV_loopM (fun s' e' => ∃ k_2 i, s' = (k_2, i) ∧ e' = { N := 51, np := 2, nx := 2, sl := [(0, .pl (.one (.v (.list false 4 (List.map (r_T_impl_Change false) a))))), (1, .pl (.one (.v (.sc (.int .i64 k_2))))), (5, .pl (.one (.v (.sc (.int .i64 i)))))], ob := [] }) hl' (shd [0, 1, 5] [] 2 ⟨_, _, rfl, rfl⟩) ?_
    rintro s' y1' e' h1' ⟨k_2, i, rfl, rfl⟩
    replace h1' : laws_heldChangeS_l1 a k_2 i = some y1' := h1'
    unfold laws_heldChangeS_l1 at h1'
    refine wpV_seq1 ?_
    refine wpV_seq1 ?_
    refine wpV_region ?_
    refine ops H' ?_
    refine opsN ?_
    refine wpV_split (fun hc' => ?_) (fun hc' => ?_)
    · replace h1' := (ifT hc').symm.trans h1'
      refine skipN ?_
      refine wpV_seq1 ?_
      refine wpV_block ?_
      refine wpV_seq1 ?_
      refine wpV_seq1 ?_
      refine wpV_region ?_
      obtain ⟨x, hv', h1'⟩ := Option.bind_eq_some_iff.1 h1'
      have H' := And.intro (geti_f hv') H'
      refine ops H' ?_
      refine opsN ?_
      refine wpV_split (fun hc' => ?_) (fun hc' => ?_)
      · replace h1' := (ifT hc').symm.trans h1'
        refine wpV_seq1 ?_
        refine wpV_region ?_
        refine ops H' ?_
        refine opsN ?_
        refine retN ?_
        obtain rfl := Option.some.inj h1'
        refine ⟨_, rfl, fun hr' => ?_⟩
        subst hr'
        obtain rfl := Option.some.inj h0'
        exact outG H' rfl rfl
      · replace h1' := (ifF hc').symm.trans h1'
        refine skipN ?_
        refine wpV_seq1 ?_
        refine wpV_region ?_
        refine ops H' ?_
        refine opsN ?_
        refine wpV_seq1 ?_
        refine wpV_seq1 ?_
        refine regQ ?_
        refine ops H' ?_
        obtain ⟨x27, hy', h1'⟩ := Option.bind_eq_some_iff.1 h1'
        refine callGQ H' (W_laws_markText _ _ hy') ?_
        refine ops H' ?_
        refine quN ?_
        refine wpV_split (fun hc' => ?_) (fun hc' => ?_)
        · replace h1' := (ifT hc').symm.trans h1'
          refine wpV_seq1 ?_
          refine wpV_region ?_
          refine ops H' ?_
          refine opsN ?_
          refine retN ?_
          obtain rfl := Option.some.inj h1'
          refine ⟨_, rfl, fun hr' => ?_⟩
          subst hr'
          obtain rfl := Option.some.inj h0'
          exact outG H' rfl rfl
        · replace h1' := (ifF hc').symm.trans h1'
          refine skipN ?_
          refine wpV_seq1 ?_
          refine wpV_region ?_
          refine ops H' ?_
          refine opsN ?_
          refine wpV_seq1 ?_
          refine wpV_seq1 ?_
          refine regQ ?_
          refine ops H' ?_
          obtain ⟨x37, hy', h1'⟩ := Option.bind_eq_some_iff.1 h1'
          refine callGQ H' (W_laws_markText _ _ hy') ?_
          refine ops H' ?_
          refine quN ?_
          refine wpV_split (fun hc' => ?_) (fun hc' => ?_)
          · replace h1' := (ifT hc').symm.trans h1'
            refine wpV_seq1 ?_
            refine wpV_region ?_
            refine ops H' ?_
            refine opsN ?_
            refine retN ?_
            obtain rfl := Option.some.inj h1'
            refine ⟨_, rfl, fun hr' => ?_⟩
            subst hr'
            obtain rfl := Option.some.inj h0'
            exact outG H' rfl rfl
          · replace h1' := (ifF hc').symm.trans h1'
            refine skipN ?_
            refine wpV_seq1 ?_
            refine wpV_region ?_
            refine ops H' ?_
            refine opsN ?_
            refine wpV_seq1 ?_
            refine wpV_region ?_
            refine ops H' ?_
            obtain ⟨x47, hy', h1'⟩ := Option.bind_eq_some_iff.1 h1'
            refine callG H' (fun _ => []) (W_laws_heldStringS _ _ _ hy') ?_
            refine ops H' ?_
            refine opsN ?_
            refine wpV_seq1 ?_
            refine wpV_region ?_
            refine ops H' ?_
            refine opsN ?_
            refine wpV_split (fun hc' => ?_) (fun hc' => ?_)
            · replace h1' := (ifT hc').symm.trans h1'
              refine wpV_seq1 ?_
              refine wpV_region ?_
              refine ops H' ?_
              refine opsN ?_
              refine retN ?_
              obtain rfl := Option.some.inj h1'
              refine ⟨_, rfl, fun hr' => ?_⟩
              subst hr'
              obtain rfl := Option.some.inj h0'
              exact outG H' rfl rfl
            · replace h1' := (ifF hc').symm.trans h1'
              refine skipN ?_
              refine wpV_region ?_
              refine ops H' ?_
              refine opsN ?_
              obtain rfl := Option.some.inj h1'
              exact shd [0, 1, 5] [] 2 ⟨_, rfl, _, _, rfl, rfl⟩
    · replace h1' := (ifF hc').symm.trans h1'
      refine exitN ?_
      obtain rfl := Option.some.inj h1'
      refine ⟨_, rfl, fun hr' => ?_⟩
      subst hr'
      exact shd [1] [] 2 ⟨_, h0', rfl⟩
  · rintro e' ⟨k_1, h0', rfl⟩
    unfold laws_heldChangeS_j1 at h0'
    refine wpV_seq1 ?_
    refine wpV_region ?_
    refine ops H' ?_
    refine opsN ?_
    refine retN ?_
    obtain rfl := Option.some.inj h0'
    exact outG H' rfl rfl
theorem W_laws_heldStepS (a : List T_impl_Step) (k : Int) (r' : Int) (h0' : laws_heldStepS a k = some r') : Fn X 11 [.one (.list false 3 (List.map (r_T_impl_Step false) a)), .one (.sc (.int .i64 k))] [.one (.sc (.int .i64 r'))] [] := by
  have H' := And.intro t3 (And.intro t9 (And.intro t22 (And.intro t43 (And.intro t75 (And.intro t77 (And.intro R_T_impl_Change (And.intro R_T_impl_Step (And.intro R_i64 (R_s)))))))))
  unfold laws_heldStepS at h0'
  refine Fn.start (fn := f11) (N := 41) (res := [.tmp 4]) rfl rfl rfl rfl rfl (by simp) ?_
  refine enterG H' ?_
  refine wpV_seq1 ?_
  refine wpV_region ?_
  refine ops H' ?_
  refine opsN ?_
  refine wpV_seqJ (fun e' => ∃ k_1, laws_heldStepS_j1 k_1 = some r' ∧ e' = { N := 41, np := 2, nx := 2, sl := [(1, .pl (.one (.v (.sc (.int .i64 k_1)))))], ob := [] }) ?_ ?_
  · refine wpV_seq1 ?_
    refine wpV_region ?_
    refine ops H' ?_
    refine opsN ?_
    obtain ⟨p, hl', h0'⟩ := Option.bind_eq_some_iff.1 h0'
    refine wpV_block ?_
    refine wpV_loopM (fun s' e' => ∃ k_2 i, s' = (k_2, i) ∧ e' = { N := 41, np := 2, nx := 2, sl := [(0, .pl (.one (.v (.list false 3 (List.map (r_T_impl_Step false) a))))), (1, .pl (.one (.v (.sc (.int .i64 k_2))))), (5, .pl (.one (.v (.sc (.int .i64 i)))))], ob := [] }) hl' (shd [0, 1, 5] [] 2 ⟨_, _, rfl, rfl⟩) ?_
    rintro s' y1' e' h1' ⟨k_2, i, rfl, rfl⟩
    replace h1' : laws_heldStepS_l1 a k_2 i = some y1' := h1'
    unfold laws_heldStepS_l1 at h1'
    refine wpV_seq1 ?_
    refine wpV_seq1 ?_
    refine wpV_region ?_
    refine ops H' ?_
    refine opsN ?_
    refine wpV_split (fun hc' => ?_) (fun hc' => ?_)
    · replace h1' := (ifT hc').symm.trans h1'
      refine skipN ?_
      refine wpV_seq1 ?_
      refine wpV_block ?_
      refine wpV_seq1 ?_
      refine wpV_region ?_
      obtain ⟨x, hv', h1'⟩ := Option.bind_eq_some_iff.1 h1'
      have H' := And.intro (geti_f hv') H'
      refine ops H' ?_
      obtain ⟨x18, hy', h1'⟩ := Option.bind_eq_some_iff.1 h1'
      refine callG H' (fun _ => []) (W_laws_heldIntS _ _ _ hy') ?_
      refine ops H' ?_
      refine opsN ?_
      refine wpV_seq1 ?_
      refine wpV_seq1 ?_
      refine wpV_region ?_
      refine ops H' ?_
      refine opsN ?_
      refine wpV_split (fun hc' => ?_) (fun hc' => ?_)
      · replace h1' := (ifT hc').symm.trans h1'
        refine wpV_seq1 ?_
        refine wpV_region ?_
        refine ops H' ?_
        refine opsN ?_
        refine retN ?_
        obtain rfl := Option.some.inj h1'
        refine ⟨_, rfl, fun hr' => ?_⟩
        subst hr'
        obtain rfl := Option.some.inj h0'
        exact outG H' rfl rfl
      · replace h1' := (ifF hc').symm.trans h1'
        refine skipN ?_
        refine wpV_seq1 ?_
        refine wpV_seq1 ?_
        refine regQ ?_
        refine ops H' ?_
        obtain ⟨x27, hy', h1'⟩ := Option.bind_eq_some_iff.1 h1'
        refine callGQ H' (W_laws_markText _ _ hy') ?_
        refine ops H' ?_
        refine quN ?_
        refine wpV_split (fun hc' => ?_) (fun hc' => ?_)
        · replace h1' := (ifT hc').symm.trans h1'
          refine wpV_seq1 ?_
          refine wpV_region ?_
          refine ops H' ?_
          refine opsN ?_
          refine retN ?_
          obtain rfl := Option.some.inj h1'
          refine ⟨_, rfl, fun hr' => ?_⟩
          subst hr'
          obtain rfl := Option.some.inj h0'
          exact outG H' rfl rfl
        · replace h1' := (ifF hc').symm.trans h1'
          refine skipN ?_
          refine wpV_seq1 ?_
          refine wpV_region ?_
          refine ops H' ?_
          refine opsN ?_
          refine wpV_seq1 ?_
          refine wpV_region ?_
          refine ops H' ?_
          obtain ⟨x37, hy', h1'⟩ := Option.bind_eq_some_iff.1 h1'
          refine callG H' (fun _ => []) (W_laws_heldChangeS _ _ _ hy') ?_
          refine ops H' ?_
          refine opsN ?_
          refine wpV_seq1 ?_
          refine wpV_region ?_
          refine ops H' ?_
          refine opsN ?_
          refine wpV_split (fun hc' => ?_) (fun hc' => ?_)
          · replace h1' := (ifT hc').symm.trans h1'
            refine wpV_seq1 ?_
            refine wpV_region ?_
            refine ops H' ?_
            refine opsN ?_
            refine retN ?_
            obtain rfl := Option.some.inj h1'
            refine ⟨_, rfl, fun hr' => ?_⟩
            subst hr'
            obtain rfl := Option.some.inj h0'
            exact outG H' rfl rfl
          · replace h1' := (ifF hc').symm.trans h1'
            refine skipN ?_
            refine wpV_region ?_
            refine ops H' ?_
            refine opsN ?_
            obtain rfl := Option.some.inj h1'
            exact shd [0, 1, 5] [] 2 ⟨_, rfl, _, _, rfl, rfl⟩
    · replace h1' := (ifF hc').symm.trans h1'
      refine exitN ?_
      obtain rfl := Option.some.inj h1'
      refine ⟨_, rfl, fun hr' => ?_⟩
      subst hr'
      exact shd [1] [] 2 ⟨_, h0', rfl⟩
  · rintro e' ⟨k_1, h0', rfl⟩
    unfold laws_heldStepS_j1 at h0'
    refine wpV_seq1 ?_
    refine wpV_region ?_
    refine ops H' ?_
    refine opsN ?_
    refine retN ?_
    obtain rfl := Option.some.inj h0'
    exact outG H' rfl rfl
theorem W_laws_FnExactReadBundle (aText : ByteArray) (r' : Bool) (h0' : laws_FnExactReadBundle aText = some r') : Fn X 3 [.one (.sc (.string aText))] [.one (.sc (.bool r'))] [] := by
  have H' := And.intro t3 (And.intro t4 (And.intro t9 (And.intro R_T_impl_Change (And.intro R_T_impl_Step (And.intro R_i64 (R_s))))))
  unfold laws_FnExactReadBundle at h0'
  refine Fn.start (fn := f3) (N := 66) (res := [.tmp 2]) rfl rfl rfl rfl rfl (by simp) ?_
  refine enterG H' ?_
  refine wpV_seq1 ?_
  refine wpV_region ?_
  refine ops H' ?_
  refine opsN ?_
  refine wpV_seq1 ?_
  refine wpV_seq1 ?_
  refine wpV_region ?_
  refine ops H' ?_
  refine opsN ?_
  refine wpV_split (fun hc' => ?_) (fun hc' => ?_)
  · replace h0' := (ifT hc').symm.trans h0'
    refine wpV_seq1 ?_
    refine wpV_region ?_
    refine ops H' ?_
    refine opsN ?_
    refine retN ?_
    obtain rfl := Option.some.inj h0'
    exact outG H' rfl rfl
  · replace h0' := (ifF hc').symm.trans h0'
    refine skipN ?_
    refine wpV_seq1 ?_
    refine wpV_region ?_
    refine ops H' ?_
    obtain ⟨x16, hy', h0'⟩ := Option.bind_eq_some_iff.1 h0'
    refine callG H' (fun _ => []) (W_spec_ReadBundle _ _ hy') ?_
    refine ops H' ?_
    refine opsN ?_
    refine wpV_seq1 ?_
    refine wpV_region ?_
    refine ops H' ?_
    obtain ⟨x21, hy', h0'⟩ := Option.bind_eq_some_iff.1 h0'
    refine callG H' (fun _ => []) (W_impl_ReadBundle _ _ hy') ?_
    refine ops H' ?_
    refine opsN ?_
    refine wpV_seq1 ?_
    refine wpV_seq1 ?_
    refine wpV_region ?_
    refine ops H' ?_
    obtain ⟨x26, hy', h0'⟩ := Option.bind_eq_some_iff.1 h0'
    refine callG H' (fun _ => []) (W_laws_eqStepS _ _ _ hy') ?_
    refine ops H' ?_
    obtain ⟨b, gh0', h0'⟩ := Option.bind_eq_some_iff.1 h0'
    refine opsV_cut 4 (fun e' => e' = { N := 66, np := 1, nx := 3, sl := [(0, .pl (.one (.v (.sc (.string aText))))), (3, .pl (.one (.ref 1 []))), (4, .pl (.one (.v (.sc (.bool x16.2))))), (5, .pl (.one (.ref 2 []))), (32, .pl (.one (.v (.sc (.bool b)))))], ob := [(1, .list true 3 (List.map (r_T_impl_Step true) x16.1)), (2, .list true 3 (List.map (r_T_impl_Step true) x21.1))] }) ?_ ?_
    · simp only [List.take_succ_cons, List.take_zero]
      refine opsV_sp (fun hc' => ?_) (fun hc' => ?_)
      · replace gh0' := (ifF hc').symm.trans gh0'
        refine ops H' ?_
        obtain rfl := Option.some.inj gh0'
        refine opsV_nil ?_
        exact ⟨rfl, shd [0, 3, 4, 5, 32] [(1, 1), (3, 2)] 3 rfl⟩
      · replace gh0' := (ifT hc').symm.trans gh0'
        refine ops H' ?_
        obtain rfl := Option.some.inj gh0'
        refine opsV_nil ?_
        exact ⟨rfl, shd [0, 3, 4, 5, 32] [(1, 1), (3, 2)] 3 rfl⟩
    · rintro e' rfl
      simp only [List.drop_succ_cons, List.drop_zero]
      refine opsN ?_
      refine wpV_split (fun hc' => ?_) (fun hc' => ?_)
      · replace h0' := (ifT hc').symm.trans h0'
        refine wpV_seq1 ?_
        refine wpV_region ?_
        refine ops H' ?_
        refine opsN ?_
        refine retN ?_
        obtain rfl := Option.some.inj h0'
        exact outG H' rfl rfl
      · replace h0' := (ifF hc').symm.trans h0'
        refine skipN ?_
        refine wpV_seq1 ?_
        refine wpV_region ?_
        refine ops H' ?_
        refine opsN ?_
        refine wpV_seq1 ?_
        refine wpV_region ?_
        refine ops H' ?_
        obtain ⟨x35, hy', h0'⟩ := Option.bind_eq_some_iff.1 h0'
        refine callG H' (fun _ => [0]) (W_laws_markStepS _ _ _ hy') ?_
        refine ops H' ?_
        refine opsN ?_
        refine wpV_seq1 ?_
        refine wpV_region ?_
        refine ops H' ?_
        refine opsN ?_
        refine wpV_seq1 ?_
        refine wpV_region ?_
        refine ops H' ?_
        obtain ⟨x38, hy', h0'⟩ := Option.bind_eq_some_iff.1 h0'
        refine callG H' (fun _ => []) (W_laws_heldStepS _ _ _ hy') ?_
        refine ops H' ?_
        refine opsN ?_
        refine wpV_seq1 ?_
        refine wpV_seq1 ?_
        refine wpV_region ?_
        refine ops H' ?_
        refine opsN ?_
        refine wpV_split (fun hc' => ?_) (fun hc' => ?_)
        · replace h0' := (ifT hc').symm.trans h0'
          refine wpV_seq1 ?_
          refine wpV_region ?_
          refine ops H' ?_
          refine opsN ?_
          refine retN ?_
          obtain rfl := Option.some.inj h0'
          exact outG H' rfl rfl
        · replace h0' := (ifF hc').symm.trans h0'
          refine skipN ?_
          refine wpV_seq1 ?_
          refine wpV_seq1 ?_
          refine wpV_region ?_
          refine ops H' ?_
          refine opsN ?_
          refine wpV_split (fun hc' => ?_) (fun hc' => ?_)
          · replace h0' := (ifT hc').symm.trans h0'
            refine wpV_seq1 ?_
            refine wpV_region ?_
            refine ops H' ?_
            refine opsN ?_
            refine retN ?_
            obtain rfl := Option.some.inj h0'
            exact outG H' rfl rfl
          · replace h0' := (ifF hc').symm.trans h0'
            refine skipN ?_
            refine wpV_seq1 ?_
            refine wpV_region ?_
            refine ops H' ?_
            obtain ⟨x46, hy', h0'⟩ := Option.bind_eq_some_iff.1 h0'
            refine callG H' (fun _ => []) (W_impl_ReadBundle _ _ hy') ?_
            refine ops H' ?_
            refine opsN ?_
            refine wpV_seq1 ?_
            refine wpV_seq1 ?_
            refine wpV_region ?_
            refine ops H' ?_
            obtain ⟨x51, hy', h0'⟩ := Option.bind_eq_some_iff.1 h0'
            refine callG H' (fun _ => []) (W_laws_eqStepS _ _ _ hy') ?_
            refine ops H' ?_
            obtain ⟨b_1, gh0', h0'⟩ := Option.bind_eq_some_iff.1 h0'
            refine opsV_cut 4 (fun e' => e' = { N := 66, np := 1, nx := 2, sl := [(5, .pl (.one (.ref 1 []))), (7, .pl (.one (.v (.sc (.int .i64 x35.1))))), (57, .pl (.one (.v (.sc (.bool b_1)))))], ob := [(1, .list true 3 (List.map (r_T_impl_Step true) x35.2))] }) ?_ ?_
            · simp only [List.take_succ_cons, List.take_zero]
              refine opsV_sp (fun hc' => ?_) (fun hc' => ?_)
              · replace gh0' := (ifF hc').symm.trans gh0'
                refine ops H' ?_
                obtain rfl := Option.some.inj gh0'
                refine opsV_nil ?_
                exact ⟨rfl, shd [5, 7, 57] [(2, 1)] 2 rfl⟩
              · replace gh0' := (ifT hc').symm.trans gh0'
                refine ops H' ?_
                obtain rfl := Option.some.inj gh0'
                refine opsV_nil ?_
                exact ⟨rfl, shd [5, 7, 57] [(2, 1)] 2 rfl⟩
            · rintro e' rfl
              simp only [List.drop_succ_cons, List.drop_zero]
              refine opsN ?_
              refine wpV_split (fun hc' => ?_) (fun hc' => ?_)
              · replace h0' := (ifT hc').symm.trans h0'
                refine wpV_seq1 ?_
                refine wpV_region ?_
                refine ops H' ?_
                refine opsN ?_
                refine retN ?_
                obtain rfl := Option.some.inj h0'
                exact outG H' rfl rfl
              · replace h0' := (ifF hc').symm.trans h0'
                refine skipN ?_
                refine wpV_seq1 ?_
                refine wpV_region ?_
                refine ops H' ?_
                refine opsN ?_
                refine wpV_seq1 ?_
                refine wpV_region ?_
                refine ops H' ?_
                obtain ⟨x60, hy', h0'⟩ := Option.bind_eq_some_iff.1 h0'
                refine callG H' (fun _ => []) (W_laws_heldStepS _ _ _ hy') ?_
                refine ops H' ?_
                refine opsN ?_
                refine wpV_seq1 ?_
                refine wpV_seq1 ?_
                refine wpV_region ?_
                refine ops H' ?_
                refine opsN ?_
                refine wpV_split (fun hc' => ?_) (fun hc' => ?_)
                · replace h0' := (ifT hc').symm.trans h0'
                  refine wpV_seq1 ?_
                  refine wpV_region ?_
                  refine ops H' ?_
                  refine opsN ?_
                  refine retN ?_
                  obtain rfl := Option.some.inj h0'
                  exact outG H' rfl rfl
                · replace h0' := (ifF hc').symm.trans h0'
                  refine skipN ?_
                  refine wpV_seq1 ?_
                  refine wpV_seq1 ?_
                  refine wpV_region ?_
                  refine ops H' ?_
                  refine opsN ?_
                  refine wpV_split (fun hc' => ?_) (fun hc' => ?_)
                  · replace h0' := (ifT hc').symm.trans h0'
                    refine wpV_seq1 ?_
                    refine wpV_region ?_
                    refine ops H' ?_
                    refine opsN ?_
                    refine retN ?_
                    obtain rfl := Option.some.inj h0'
                    exact outG H' rfl rfl
                  · replace h0' := (ifF hc').symm.trans h0'
                    refine skipN ?_
                    refine wpV_seq1 ?_
                    refine wpV_region ?_
                    refine ops H' ?_
                    refine opsN ?_
                    refine retN ?_
                    obtain rfl := Option.some.inj h0'
                    exact outG H' rfl rfl
end Go.TV.KFnExactReadBundle
