/- Walks. -/
import Derived.Test.YtpfmkkkmfddabaaKFnExactBasesE
import Derived.Test.YtpfmkkkmfddabaaKFnExactBasesW0
set_option linter.unusedVariables false
set_option linter.unusedSimpArgs false
set_option maxHeartbeats 8000000
set_option maxRecDepth 100000
namespace Go.TV.KFnExactBases
attribute [local irreducible] anyV wpV opsV Does thenV blockV RetL quV seqV
open Go.Proofs.Try Go.TV.F
theorem W_slices_DeleteFunc_int_int__2 (s : List Int) (del : Int → Option Bool) (del_f : Nat) (del_c0 : V) (del_c1 : V) (del_h : ∀ (z0' : Int) r', del z0' = some r' → Fn X del_f [.one (.sc (.int .i64 z0')), .one (del_c0), .one (del_c1)] [.one (.sc (.bool r'))] []) (r' : (List Int)) (h0' : slices_DeleteFunc_int_int s del = some r') : Fn X 68 [.one (.list true 1 (List.map (rK .i64) s)), .one (.fn del_f [del_c0, del_c1])] [.one (.list true 1 (List.map (rK .i64) r'))] [] := by
  have H' := And.intro t3 (And.intro t23 (R_i64))
  unfold slices_DeleteFunc_int_int at h0'
  refine Fn.start (fn := f68) (N := 42) (res := [.tmp 4]) rfl rfl rfl rfl rfl (by simp) ?_
  refine enterG H' ?_
  refine wpV_seq1 ?_
  refine wpV_region ?_
  refine ops H' ?_
  refine opsN ?_
  refine wpV_seq1 ?_
  refine wpV_region ?_
  refine ops H' ?_
  obtain ⟨x10, hy', h0'⟩ := Option.bind_eq_some_iff.1 h0'
  refine callG H' (fun _ => []) (W_slices_IndexFunc_int_int__2 _ del _ _ _ del_h _ hy') ?_
  refine ops H' ?_
  refine opsN ?_
  refine wpV_seq1 ?_
  refine wpV_seq1 ?_
  refine wpV_region ?_
  refine ops H' ?_
  refine opsN ?_
  refine wpV_split (fun hc' => ?_) (fun hc' => ?_)
  · replace h0' := (ifT hc').symm.trans h0'
    refine wpV_seq1 ?_
    refine wpV_region ?_
    refine ops H' ?_
    refine opsN ?_
    refine retN ?_
    obtain rfl := Option.some.inj h0'
    exact outG H' rfl rfl
  · replace h0' := (ifF hc').symm.trans h0'
    refine skipN ?_
    refine wpV_seqJ (fun e' => ∃ i s_1, slices_DeleteFunc_int_int_j1 i s_1 = some r' ∧ e' = { N := 42, np := 2, nx := 2, sl := [(0, .pl (.one (.ref 0 []))), (5, .pl (.one (.v (.sc (.int .i64 i)))))], ob := [(0, .list true 1 (List.map (rK .i64) s_1))] }) ?_ ?_
    · refine wpV_seq1 ?_
      refine wpV_region ?_
      refine ops H' ?_
      refine opsN ?_
      obtain ⟨p, hl', h0'⟩ := Option.bind_eq_some_iff.1 h0'
      refine wpV_block ?_
      refine wpV_loopM (fun s' e' => ∃ i_1 j s_2, s' = (i_1, j, s_2) ∧ e' = { N := 42, np := 2, nx := 2, sl := [(0, .pl (.one (.ref 0 []))), (1, .pl (.one (.v (.fn del_f [del_c0, del_c1])))), (5, .pl (.one (.v (.sc (.int .i64 i_1))))), (6, .pl (.one (.v (.sc (.int .i64 j)))))], ob := [(0, .list true 1 (List.map (rK .i64) s_2))] }) hl' (shd [0, 1, 5, 6] [(0, 0)] 2 ⟨_, _, _, rfl, rfl⟩) ?_
      rintro s' y1' e' h1' ⟨i_1, j, s_2, rfl, rfl⟩
      replace h1' : slices_DeleteFunc_int_int_l1 del i_1 j s_2 = some y1' := h1'
      unfold slices_DeleteFunc_int_int_l1 at h1'
      refine wpV_seq1 ?_
      refine wpV_seq1 ?_
      refine wpV_region ?_
      refine ops H' ?_
      refine opsN ?_
      refine wpV_split (fun hc' => ?_) (fun hc' => ?_)
      · replace h1' := (ifT hc').symm.trans h1'
        refine skipN ?_
        refine wpV_seq1 ?_
        refine wpV_block ?_
        refine wpV_seq1 ?_
        refine wpV_region ?_
        obtain ⟨x, hv', h1'⟩ := Option.bind_eq_some_iff.1 h1'
        have H' := And.intro (geti_f hv') H'
        refine ops H' ?_
        refine opsN ?_
        refine wpV_seq1 ?_
        refine wpV_region ?_
        refine ops H' ?_
        obtain ⟨x28, hy', h1'⟩ := Option.bind_eq_some_iff.1 h1'
        refine callG H' (fun _ => []) (del_h _ _ hy') ?_
        refine ops H' ?_
        refine opsN ?_
        refine wpV_split (fun hc' => ?_) (fun hc' => ?_)
        · replace h1' := (ifT hc').symm.trans h1'
          refine wpV_seq1 ?_
          refine wpV_region ?_
          obtain ⟨x_1, hv', h1'⟩ := Option.bind_eq_some_iff.1 h1'
          have H' := And.intro (geti_f hv') H'
          refine ops H' ?_
          refine opsN ?_
          refine wpV_region ?_
          refine ops H' ?_
          refine opsN ?_
          refine wpV_region ?_
          refine ops H' ?_
          refine opsN ?_
          obtain rfl := Option.some.inj h1'
          exact shd [0, 1, 5, 6] [(0, 0)] 2 ⟨_, rfl, _, _, _, rfl, rfl⟩
        · replace h1' := (ifF hc').symm.trans h1'
          refine skipN ?_
          refine wpV_region ?_
          refine ops H' ?_
          refine opsN ?_
          obtain rfl := Option.some.inj h1'
          exact shd [0, 1, 5, 6] [(0, 0)] 2 ⟨_, rfl, _, _, _, rfl, rfl⟩
      · replace h1' := (ifF hc').symm.trans h1'
        refine exitN ?_
        obtain rfl := Option.some.inj h1'
        refine ⟨_, rfl, fun hr' => ?_⟩
        subst hr'
        exact shd [0, 5] [(0, 0)] 2 ⟨_, _, h0', rfl⟩
    · rintro e' ⟨i, s_1, h0', rfl⟩
      unfold slices_DeleteFunc_int_int_j1 at h0'
      refine wpV_seq1 ?_
      refine wpV_region ?_
      obtain ⟨x38, hv', h0'⟩ := Option.bind_eq_some_iff.1 h0'
      have H' := And.intro (cutL_f hv') H'
      refine ops H' ?_
      refine opsV_clr H' ?_
      refine opsN ?_
      refine wpV_seq1 ?_
      refine wpV_region ?_
      refine ops H' ?_
      obtain ⟨x41, hv', h0'⟩ := Option.bind_eq_some_iff.1 h0'
      have H' := And.intro (cutH_f hv') H'
      refine opsV_cutO H' ?_
      refine ops H' ?_
      refine opsN ?_
      refine retN ?_
      obtain rfl := Option.some.inj h0'
      exact outG H' rfl rfl
theorem W_impl_Bases (parents : List (List Int)) (a : Int) (b : Int) (r' : (List Int)) (h0' : impl_Bases parents a b = some r') : Fn X 44 [.one (.list false 1 (List.map (rL false 1 (rK .i64)) parents)), .one (.sc (.int .i64 a)), .one (.sc (.int .i64 b))] [.one (.list true 1 (List.map (rK .i64) r'))] [] := by
  have H' := And.intro t23 (And.intro t67 (And.intro R_Li64 (And.intro R_i64 (R_u64))))
  unfold impl_Bases at h0'
  refine Fn.start (fn := f44) (N := 23) (res := [.tmp 6]) rfl rfl rfl rfl rfl (by simp) ?_
  refine enterG H' ?_
  refine wpV_seq1 ?_
  refine wpV_region ?_
  refine ops H' ?_
  refine opsN ?_
  refine wpV_seq1 ?_
  refine wpV_region ?_
  refine ops H' ?_
  obtain ⟨x14, hy', h0'⟩ := Option.bind_eq_some_iff.1 h0'
  refine callG H' (fun _ => []) (W_impl_commons _ _ _ _ hy') ?_
  refine ops H' ?_
  refine opsN ?_
  refine wpV_seq1 ?_
  refine wpV_region ?_
  refine ops H' ?_
  obtain ⟨x18, hy', h0'⟩ := Option.bind_eq_some_iff.1 h0'
  refine callG H' (fun _ => []) (W_impl_set_list _ _ hy') ?_
  refine ops H' ?_
  refine opsN ?_
  refine wpV_seq1 ?_
  refine wpV_region ?_
  refine ops H' ?_
  obtain ⟨x20, hy', h0'⟩ := Option.bind_eq_some_iff.1 h0'
  refine callG H' (fun _ => []) (W_slices_Clone_int_int _ _ hy') ?_
  refine opsV_frz H' 8 ?_
  refine opsV_frz H' 6 ?_
  refine opsV_mkF H' ?_
  obtain ⟨x22, hy', h0'⟩ := Option.bind_eq_some_iff.1 h0'
  refine callG H' (fun _ => [0]) (W_slices_DeleteFunc_int_int__2 _ (fun z0' => impl_Bases_c1 z0' x18 x14.2) _ _ _ (fun z0' r' h' => W_impl_Bases_c1 z0' _ _ r' h') _ hy') ?_
  refine ops H' ?_
  refine opsN ?_
  refine retN ?_
  obtain rfl := Option.some.inj h0'
  exact outG H' rfl rfl
theorem W_laws_eqIntS (a : List Int) (b : List Int) (r' : Bool) (h0' : laws_eqIntS a b = some r') : Fn X 15 [.one (.list false 1 (List.map (rK .i64) a)), .one (.list false 1 (List.map (rK .i64) b))] [.one (.sc (.bool r'))] [] := by
  have H' := And.intro t3 (And.intro t23 (R_i64))
  unfold laws_eqIntS at h0'
  refine Fn.start (fn := f15) (N := 26) (res := [.tmp 4]) rfl rfl rfl rfl rfl (by simp) ?_
  refine enterG H' ?_
  refine wpV_seq1 ?_
  refine wpV_region ?_
  refine ops H' ?_
  refine opsN ?_
  refine wpV_seq1 ?_
  refine wpV_seq1 ?_
  refine wpV_region ?_
  refine ops H' ?_
  refine opsN ?_
  refine wpV_split (fun hc' => ?_) (fun hc' => ?_)
  · replace h0' := (ifT hc').symm.trans h0'
    refine wpV_seq1 ?_
    refine wpV_region ?_
    refine ops H' ?_
    refine opsN ?_
    refine retN ?_
    obtain rfl := Option.some.inj h0'
    exact outG H' rfl rfl
  · replace h0' := (ifF hc').symm.trans h0'
    refine skipN ?_
    refine wpV_seqJ (fun e' => laws_eqIntS_j1 = some r' ∧ e' = { N := 26, np := 2, nx := 2, sl := [], ob := [] }) ?_ ?_
    · refine wpV_seq1 ?_
      refine wpV_region ?_
      refine ops H' ?_
      refine opsN ?_
      obtain ⟨p, hl', h0'⟩ := Option.bind_eq_some_iff.1 h0'
      refine wpV_block ?_
      refine wpV_loopM (fun i e' => e' = { N := 26, np := 2, nx := 2, sl := [(0, .pl (.one (.v (.list false 1 (List.map (rK .i64) a))))), (1, .pl (.one (.v (.list false 1 (List.map (rK .i64) b))))), (5, .pl (.one (.v (.sc (.int .i64 i)))))], ob := [] }) hl' (shd [0, 1, 5] [] 2 rfl) ?_
      rintro i y1' e' h1' rfl
      replace h1' : laws_eqIntS_l1 a b i = some y1' := h1'
      unfold laws_eqIntS_l1 at h1'
      refine wpV_seq1 ?_
      refine wpV_seq1 ?_
      refine wpV_region ?_
      refine ops H' ?_
      refine opsN ?_
      refine wpV_split (fun hc' => ?_) (fun hc' => ?_)
      · replace h1' := (ifT hc').symm.trans h1'
        refine skipN ?_
        refine wpV_seq1 ?_
        refine wpV_block ?_
        refine wpV_seq1 ?_
        refine regQ ?_
        obtain ⟨x, hv', h1'⟩ := Option.bind_eq_some_iff.1 h1'
        have H' := And.intro (geti_f hv') H'
        obtain ⟨x_1, hv', h1'⟩ := Option.bind_eq_some_iff.1 h1'
        have H' := And.intro (geti_f hv') H'
        refine ops H' ?_
        refine quN ?_
        refine wpV_split (fun hc' => ?_) (fun hc' => ?_)
        · replace h1' := (ifT hc').symm.trans h1'
          refine wpV_seq1 ?_
          refine wpV_region ?_
          refine ops H' ?_
          refine opsN ?_
          refine retN ?_
          obtain rfl := Option.some.inj h1'
          refine ⟨_, rfl, fun hr' => ?_⟩
          subst hr'
          obtain rfl := Option.some.inj h0'
          exact outG H' rfl rfl
        · replace h1' := (ifF hc').symm.trans h1'
          refine skipN ?_
          refine wpV_region ?_
          refine ops H' ?_
          refine opsN ?_
          obtain rfl := Option.some.inj h1'
          exact shd [0, 1, 5] [] 2 ⟨_, rfl, rfl⟩
      · replace h1' := (ifF hc').symm.trans h1'
        refine exitN ?_
        obtain rfl := Option.some.inj h1'
        refine ⟨_, rfl, fun hr' => ?_⟩
        subst hr'
        exact shd [] [] 2 ⟨h0', rfl⟩
    · rintro e' ⟨h0', rfl⟩
      unfold laws_eqIntS_j1 at h0'
      refine wpV_seq1 ?_
      refine wpV_region ?_
      refine ops H' ?_
      refine opsN ?_
      refine retN ?_
      obtain rfl := Option.some.inj h0'
      exact outG H' rfl rfl
theorem W_laws_eqIntSS (a : List (List Int)) (b : List (List Int)) (r' : Bool) (h0' : laws_eqIntSS a b = some r') : Fn X 34 [.one (.list false 1 (List.map (rL false 1 (rK .i64)) a)), .one (.list false 1 (List.map (rL false 1 (rK .i64)) b))] [.one (.sc (.bool r'))] [] := by
  have H' := And.intro t3 (And.intro t23 (And.intro t40 (And.intro R_Li64 (R_i64))))
  unfold laws_eqIntSS at h0'
  refine Fn.start (fn := f34) (N := 27) (res := [.tmp 4]) rfl rfl rfl rfl rfl (by simp) ?_
  refine enterG H' ?_
  refine wpV_seq1 ?_
  refine wpV_region ?_
  refine ops H' ?_
  refine opsN ?_
  refine wpV_seq1 ?_
  refine wpV_seq1 ?_
  refine wpV_region ?_
  refine ops H' ?_
  refine opsN ?_
  refine wpV_split (fun hc' => ?_) (fun hc' => ?_)
  · replace h0' := (ifT hc').symm.trans h0'
    refine wpV_seq1 ?_
    refine wpV_region ?_
    refine ops H' ?_
    refine opsN ?_
    refine retN ?_
    obtain rfl := Option.some.inj h0'
    exact outG H' rfl rfl
  · replace h0' := (ifF hc').symm.trans h0'
    refine skipN ?_
    refine wpV_seqJ (fun e' => laws_eqIntSS_j1 = some r' ∧ e' = { N := 27, np := 2, nx := 2, sl := [], ob := [] }) ?_ ?_
    · refine wpV_seq1 ?_
      refine wpV_region ?_
      refine ops H' ?_
      refine opsN ?_
      obtain ⟨p, hl', h0'⟩ := Option.bind_eq_some_iff.1 h0'
      refine wpV_block ?_
      refine wpV_loopM (fun i e' => e' = { N := 27, np := 2, nx := 2, sl := [(0, .pl (.one (.v (.list false 1 (List.map (rL false 1 (rK .i64)) a))))), (1, .pl (.one (.v (.list false 1 (List.map (rL false 1 (rK .i64)) b))))), (5, .pl (.one (.v (.sc (.int .i64 i)))))], ob := [] }) hl' (shd [0, 1, 5] [] 2 rfl) ?_
      rintro i y1' e' h1' rfl
      replace h1' : laws_eqIntSS_l1 a b i = some y1' := h1'
      unfold laws_eqIntSS_l1 at h1'
      refine wpV_seq1 ?_
      refine wpV_seq1 ?_
      refine wpV_region ?_
      refine ops H' ?_
      refine opsN ?_
      refine wpV_split (fun hc' => ?_) (fun hc' => ?_)
      · replace h1' := (ifT hc').symm.trans h1'
        refine skipN ?_
        refine wpV_seq1 ?_
        refine wpV_block ?_
        refine wpV_seq1 ?_
        refine regQ ?_
        obtain ⟨x, hv', h1'⟩ := Option.bind_eq_some_iff.1 h1'
        have H' := And.intro (geti_f hv') H'
        obtain ⟨x_1, hv', h1'⟩ := Option.bind_eq_some_iff.1 h1'
        have H' := And.intro (geti_f hv') H'
        refine ops H' ?_
        obtain ⟨x25, hy', h1'⟩ := Option.bind_eq_some_iff.1 h1'
        refine callGQ H' (W_laws_eqIntS _ _ _ hy') ?_
        refine ops H' ?_
        refine quN ?_
        refine wpV_split (fun hc' => ?_) (fun hc' => ?_)
        · replace h1' := (ifT hc').symm.trans h1'
          refine wpV_seq1 ?_
          refine wpV_region ?_
          refine ops H' ?_
          refine opsN ?_
          refine retN ?_
          obtain rfl := Option.some.inj h1'
          refine ⟨_, rfl, fun hr' => ?_⟩
          subst hr'
          obtain rfl := Option.some.inj h0'
          exact outG H' rfl rfl
        · replace h1' := (ifF hc').symm.trans h1'
          refine skipN ?_
          refine wpV_region ?_
          refine ops H' ?_
          refine opsN ?_
          obtain rfl := Option.some.inj h1'
          exact shd [0, 1, 5] [] 2 ⟨_, rfl, rfl⟩
      · replace h1' := (ifF hc').symm.trans h1'
        refine exitN ?_
        obtain rfl := Option.some.inj h1'
        refine ⟨_, rfl, fun hr' => ?_⟩
        subst hr'
        exact shd [] [] 2 ⟨h0', rfl⟩
    · rintro e' ⟨h0', rfl⟩
      unfold laws_eqIntSS_j1 at h0'
      refine wpV_seq1 ?_
      refine wpV_region ?_
      refine ops H' ?_
      refine opsN ?_
      refine retN ?_
      obtain rfl := Option.some.inj h0'
      exact outG H' rfl rfl
theorem W_laws_markIntS (a : List Int) (k : Int) (r' : Int × (List Int)) (h0' : laws_markIntS a k = some r') : Fn X 18 [.one (.list true 1 (List.map (rK .i64) a)), .one (.sc (.int .i64 k))] [.one (.sc (.int .i64 r'.1))] [(0, .list true 1 (List.map (rK .i64) r'.2))] := by
  have H' := And.intro t3 (And.intro t23 (R_i64))
  unfold laws_markIntS at h0'
  refine Fn.start (fn := f18) (N := 19) (res := [.tmp 4]) rfl rfl rfl rfl rfl (by simp) ?_
  refine enterG H' ?_
  refine wpV_seq1 ?_
  refine wpV_region ?_
  refine ops H' ?_
  refine opsN ?_
  refine wpV_seqJ (fun e' => ∃ k_1 a_1, laws_markIntS_j1 k_1 a_1 = some r' ∧ e' = { N := 19, np := 2, nx := 2, sl := [(1, .pl (.one (.v (.sc (.int .i64 k_1)))))], ob := [(0, .list true 1 (List.map (rK .i64) a_1))] }) ?_ ?_
  · refine wpV_seq1 ?_
    refine wpV_region ?_
    refine ops H' ?_
    refine opsN ?_
    obtain ⟨p, hl', h0'⟩ := Option.bind_eq_some_iff.1 h0'
    refine wpV_block ?_
    refine wpV_loopM (fun s' e' => ∃ k_2 i a_2, s' = (k_2, i, a_2) ∧ e' = { N := 19, np := 2, nx := 2, sl := [(0, .pl (.one (.ref 0 []))), (1, .pl (.one (.v (.sc (.int .i64 k_2))))), (5, .pl (.one (.v (.sc (.int .i64 i)))))], ob := [(0, .list true 1 (List.map (rK .i64) a_2))] }) hl' (shd [0, 1, 5] [(0, 0)] 2 ⟨_, _, _, rfl, rfl⟩) ?_
    rintro s' y1' e' h1' ⟨k_2, i, a_2, rfl, rfl⟩
    replace h1' : laws_markIntS_l1 k_2 i a_2 = some y1' := h1'
    unfold laws_markIntS_l1 at h1'
    refine wpV_seq1 ?_
    refine wpV_seq1 ?_
    refine wpV_region ?_
    refine ops H' ?_
    refine opsN ?_
    refine wpV_split (fun hc' => ?_) (fun hc' => ?_)
    · replace h1' := (ifT hc').symm.trans h1'
      refine skipN ?_
      refine wpV_seq1 ?_
      refine wpV_block ?_
      refine wpV_seq1 ?_
      refine wpV_region ?_
      obtain ⟨x, hv', h1'⟩ := Option.bind_eq_some_iff.1 h1'
      have H' := And.intro (geti_f hv') H'
      refine ops H' ?_
      refine opsN ?_
      refine wpV_region ?_
      refine ops H' ?_
      refine opsN ?_
      refine wpV_region ?_
      refine ops H' ?_
      refine opsN ?_
      obtain rfl := Option.some.inj h1'
      exact shd [0, 1, 5] [(0, 0)] 2 ⟨_, rfl, _, _, _, rfl, rfl⟩
    · replace h1' := (ifF hc').symm.trans h1'
      refine exitN ?_
      obtain rfl := Option.some.inj h1'
      refine ⟨_, rfl, fun hr' => ?_⟩
      subst hr'
      exact shd [1] [(0, 0)] 2 ⟨_, _, h0', rfl⟩
  · rintro e' ⟨k_1, a_1, h0', rfl⟩
    unfold laws_markIntS_j1 at h0'
    refine wpV_seq1 ?_
    refine wpV_region ?_
    refine ops H' ?_
    refine opsN ?_
    refine retN ?_
    obtain rfl := Option.some.inj h0'
    exact outG H' rfl rfl
theorem W_laws_markIntSS (a : List (List Int)) (k : Int) (r' : Int × (List (List Int))) (h0' : laws_markIntSS a k = some r') : Fn X 35 [.one (.list true 1 (List.map (rL true 1 (rK .i64)) a)), .one (.sc (.int .i64 k))] [.one (.sc (.int .i64 r'.1))] [(0, .list true 1 (List.map (rL true 1 (rK .i64)) r'.2))] := by
  have H' := And.intro t3 (And.intro t23 (And.intro t40 (And.intro R_Li64 (R_i64))))
  unfold laws_markIntSS at h0'
  refine Fn.start (fn := f35) (N := 19) (res := [.tmp 4]) rfl rfl rfl rfl rfl (by simp) ?_
  refine enterG H' ?_
  refine wpV_seq1 ?_
  refine wpV_region ?_
  refine ops H' ?_
  refine opsN ?_
  refine wpV_seqJ (fun e' => ∃ k_1 a_1, laws_markIntSS_j1 k_1 a_1 = some r' ∧ e' = { N := 19, np := 2, nx := 2, sl := [(1, .pl (.one (.v (.sc (.int .i64 k_1)))))], ob := [(0, .list true 1 (List.map (rL true 1 (rK .i64)) a_1))] }) ?_ ?_
  · refine wpV_seq1 ?_
    refine wpV_region ?_
    refine ops H' ?_
    refine opsN ?_
    obtain ⟨p, hl', h0'⟩ := Option.bind_eq_some_iff.1 h0'
    refine wpV_block ?_
    refine wpV_loopM (fun s' e' => ∃ k_2 i a_2, s' = (k_2, i, a_2) ∧ e' = { N := 19, np := 2, nx := 2, sl := [(0, .pl (.one (.ref 0 []))), (1, .pl (.one (.v (.sc (.int .i64 k_2))))), (5, .pl (.one (.v (.sc (.int .i64 i)))))], ob := [(0, .list true 1 (List.map (rL true 1 (rK .i64)) a_2))] }) hl' (shd [0, 1, 5] [(0, 0)] 2 ⟨_, _, _, rfl, rfl⟩) ?_
    rintro s' y1' e' h1' ⟨k_2, i, a_2, rfl, rfl⟩
    replace h1' : laws_markIntSS_l1 k_2 i a_2 = some y1' := h1'
    unfold laws_markIntSS_l1 at h1'
    refine wpV_seq1 ?_
    refine wpV_seq1 ?_
    refine wpV_region ?_
    refine ops H' ?_
    refine opsN ?_
    refine wpV_split (fun hc' => ?_) (fun hc' => ?_)
    · replace h1' := (ifT hc').symm.trans h1'
      refine skipN ?_
      refine wpV_seq1 ?_
      refine wpV_block ?_
      refine wpV_region ?_
      obtain ⟨x, hv', h1'⟩ := Option.bind_eq_some_iff.1 h1'
      have H' := And.intro (geti_f hv') H'
      refine ops H' ?_
      obtain ⟨x17, hy', h1'⟩ := Option.bind_eq_some_iff.1 h1'
      refine callG H' (fun _ => [0]) (W_laws_markIntS _ _ _ hy') ?_
      refine ops H' ?_
      refine opsN ?_
      refine wpV_region ?_
      refine ops H' ?_
      refine opsN ?_
      obtain rfl := Option.some.inj h1'
      exact shd [0, 1, 5] [(0, 0)] 2 ⟨_, rfl, _, _, _, rfl, rfl⟩
    · replace h1' := (ifF hc').symm.trans h1'
      refine exitN ?_
      obtain rfl := Option.some.inj h1'
      refine ⟨_, rfl, fun hr' => ?_⟩
      subst hr'
      exact shd [1] [(0, 0)] 2 ⟨_, _, h0', rfl⟩
  · rintro e' ⟨k_1, a_1, h0', rfl⟩
    unfold laws_markIntSS_j1 at h0'
    refine wpV_seq1 ?_
    refine wpV_region ?_
    refine ops H' ?_
    refine opsN ?_
    refine retN ?_
    obtain rfl := Option.some.inj h0'
    exact outG H' rfl rfl
theorem W_laws_heldIntS (a : List Int) (k : Int) (r' : Int) (h0' : laws_heldIntS a k = some r') : Fn X 19 [.one (.list false 1 (List.map (rK .i64) a)), .one (.sc (.int .i64 k))] [.one (.sc (.int .i64 r'))] [] := by
  have H' := And.intro t3 (And.intro t23 (R_i64))
  unfold laws_heldIntS at h0'
  refine Fn.start (fn := f19) (N := 21) (res := [.tmp 4]) rfl rfl rfl rfl rfl (by simp) ?_
  refine enterG H' ?_
  refine wpV_seq1 ?_
  refine wpV_region ?_
  refine ops H' ?_
  refine opsN ?_
  refine wpV_seqJ (fun e' => ∃ k_1, laws_heldIntS_j1 k_1 = some r' ∧ e' = { N := 21, np := 2, nx := 2, sl := [(1, .pl (.one (.v (.sc (.int .i64 k_1)))))], ob := [] }) ?_ ?_
  · refine wpV_seq1 ?_
    refine wpV_region ?_
    refine ops H' ?_
    refine opsN ?_
    obtain ⟨p, hl', h0'⟩ := Option.bind_eq_some_iff.1 h0'
    refine wpV_block ?_
    refine wpV_loopM (fun s' e' => ∃ k_2 i, s' = (k_2, i) ∧ e' = { N := 21, np := 2, nx := 2, sl := [(0, .pl (.one (.v (.list false 1 (List.map (rK .i64) a))))), (1, .pl (.one (.v (.sc (.int .i64 k_2))))), (5, .pl (.one (.v (.sc (.int .i64 i)))))], ob := [] }) hl' (shd [0, 1, 5] [] 2 ⟨_, _, rfl, rfl⟩) ?_
    rintro s' y1' e' h1' ⟨k_2, i, rfl, rfl⟩
    replace h1' : laws_heldIntS_l1 a k_2 i = some y1' := h1'
    unfold laws_heldIntS_l1 at h1'
    refine wpV_seq1 ?_
    refine wpV_seq1 ?_
    refine wpV_region ?_
    refine ops H' ?_
    refine opsN ?_
    refine wpV_split (fun hc' => ?_) (fun hc' => ?_)
    · replace h1' := (ifT hc').symm.trans h1'
      refine skipN ?_
      refine wpV_seq1 ?_
      refine wpV_block ?_
      refine wpV_seq1 ?_
      refine wpV_seq1 ?_
      refine wpV_region ?_
      obtain ⟨x, hv', h1'⟩ := Option.bind_eq_some_iff.1 h1'
      have H' := And.intro (geti_f hv') H'
      refine ops H' ?_
      refine opsN ?_
      refine wpV_split (fun hc' => ?_) (fun hc' => ?_)
      · replace h1' := (ifT hc').symm.trans h1'
        refine wpV_seq1 ?_
        refine wpV_region ?_
        refine ops H' ?_
        refine opsN ?_
        refine retN ?_
        obtain rfl := Option.some.inj h1'
        refine ⟨_, rfl, fun hr' => ?_⟩
        subst hr'
        obtain rfl := Option.some.inj h0'
        exact outG H' rfl rfl
      · replace h1' := (ifF hc').symm.trans h1'
        refine skipN ?_
        refine wpV_region ?_
        refine ops H' ?_
        refine opsN ?_
        refine wpV_region ?_
        refine ops H' ?_
        refine opsN ?_
        obtain rfl := Option.some.inj h1'
        exact shd [0, 1, 5] [] 2 ⟨_, rfl, _, _, rfl, rfl⟩
    · replace h1' := (ifF hc').symm.trans h1'
      refine exitN ?_
      obtain rfl := Option.some.inj h1'
      refine ⟨_, rfl, fun hr' => ?_⟩
      subst hr'
      exact shd [1] [] 2 ⟨_, h0', rfl⟩
  · rintro e' ⟨k_1, h0', rfl⟩
    unfold laws_heldIntS_j1 at h0'
    refine wpV_seq1 ?_
    refine wpV_region ?_
    refine ops H' ?_
    refine opsN ?_
    refine retN ?_
    obtain rfl := Option.some.inj h0'
    exact outG H' rfl rfl
theorem W_laws_FnExactBases (aParents : List (List Int)) (aA : Int) (aB : Int) (r' : Bool) (h0' : laws_FnExactBases aParents aA aB = some r') : Fn X 11 [.one (.list false 1 (List.map (rL false 1 (rK .i64)) aParents)), .one (.sc (.int .i64 aA)), .one (.sc (.int .i64 aB))] [.one (.sc (.bool r'))] [] := by
  have H' := And.intro t3 (And.intro R_Li64 (R_i64))
  unfold laws_FnExactBases at h0'
  refine Fn.start (fn := f11) (N := 79) (res := [.tmp 6]) rfl rfl rfl rfl rfl (by simp) ?_
  refine enterG H' ?_
  refine wpV_seq1 ?_
  refine wpV_region ?_
  refine ops H' ?_
  refine opsN ?_
  refine wpV_seq1 ?_
  refine wpV_region ?_
  refine ops H' ?_
  refine opsN ?_
  refine wpV_seq1 ?_
  refine wpV_region ?_
  refine ops H' ?_
  obtain ⟨x17, hy', h0'⟩ := Option.bind_eq_some_iff.1 h0'
  refine callG H' (fun _ => []) (W_laws_szIntSS _ _ _ hy') ?_
  refine ops H' ?_
  refine opsN ?_
  refine wpV_seq1 ?_
  refine wpV_seq1 ?_
  refine wpV_region ?_
  refine ops H' ?_
  refine opsN ?_
  refine wpV_split (fun hc' => ?_) (fun hc' => ?_)
  · replace h0' := (ifT hc').symm.trans h0'
    refine wpV_seq1 ?_
    refine wpV_region ?_
    refine ops H' ?_
    refine opsN ?_
    refine retN ?_
    obtain rfl := Option.some.inj h0'
    exact outG H' rfl rfl
  · replace h0' := (ifF hc').symm.trans h0'
    refine skipN ?_
    refine wpV_seq1 ?_
    refine wpV_region ?_
    refine ops H' ?_
    obtain ⟨x21, hy', h0'⟩ := Option.bind_eq_some_iff.1 h0'
    refine callG H' (fun _ => []) (W_laws_toIntSS _ _ hy') ?_
    refine ops H' ?_
    obtain ⟨x24, hy', h0'⟩ := Option.bind_eq_some_iff.1 h0'
    refine callG H' (fun _ => []) (W_spec_Bases _ _ _ _ hy') ?_
    refine ops H' ?_
    refine opsN ?_
    refine wpV_seq1 ?_
    refine wpV_region ?_
    refine ops H' ?_
    obtain ⟨x26, hy', h0'⟩ := Option.bind_eq_some_iff.1 h0'
    refine callG H' (fun _ => []) (W_laws_toIntSS _ _ hy') ?_
    refine ops H' ?_
    refine opsN ?_
    refine wpV_seq1 ?_
    refine wpV_region ?_
    refine ops H' ?_
    obtain ⟨x30, hy', h0'⟩ := Option.bind_eq_some_iff.1 h0'
    refine callG H' (fun _ => []) (W_impl_Bases _ _ _ _ hy') ?_
    refine ops H' ?_
    refine opsN ?_
    refine wpV_seq1 ?_
    refine wpV_seq1 ?_
    refine wpV_region ?_
    refine ops H' ?_
    obtain ⟨x33, hy', h0'⟩ := Option.bind_eq_some_iff.1 h0'
    refine callG H' (fun _ => []) (W_laws_eqIntS _ _ _ hy') ?_
    refine ops H' ?_
    refine opsN ?_
    refine wpV_split (fun hc' => ?_) (fun hc' => ?_)
    · replace h0' := (ifT hc').symm.trans h0'
      refine wpV_seq1 ?_
      refine wpV_region ?_
      refine ops H' ?_
      refine opsN ?_
      refine retN ?_
      obtain rfl := Option.some.inj h0'
      exact outG H' rfl rfl
    · replace h0' := (ifF hc').symm.trans h0'
      refine skipN ?_
      refine wpV_seq1 ?_
      refine wpV_seq1 ?_
      refine wpV_region ?_
      refine ops H' ?_
      obtain ⟨x37, hy', h0'⟩ := Option.bind_eq_some_iff.1 h0'
      refine callG H' (fun _ => []) (W_laws_toIntSS _ _ hy') ?_
      obtain ⟨x38, hy', h0'⟩ := Option.bind_eq_some_iff.1 h0'
      refine callG H' (fun _ => []) (W_laws_eqIntSS _ _ _ hy') ?_
      refine ops H' ?_
      refine opsN ?_
      refine wpV_split (fun hc' => ?_) (fun hc' => ?_)
      · replace h0' := (ifT hc').symm.trans h0'
        refine wpV_seq1 ?_
        refine wpV_region ?_
        refine ops H' ?_
        refine opsN ?_
        refine retN ?_
        obtain rfl := Option.some.inj h0'
        exact outG H' rfl rfl
      · replace h0' := (ifF hc').symm.trans h0'
        refine skipN ?_
        refine wpV_seq1 ?_
        refine wpV_region ?_
        refine ops H' ?_
        refine opsN ?_
        refine wpV_seq1 ?_
        refine wpV_region ?_
        refine ops H' ?_
        obtain ⟨x42, hy', h0'⟩ := Option.bind_eq_some_iff.1 h0'
        refine callG H' (fun _ => [0]) (W_laws_markIntSS _ _ _ hy') ?_
        refine ops H' ?_
        refine opsN ?_
        refine wpV_seq1 ?_
        refine wpV_seq1 ?_
        refine wpV_region ?_
        refine ops H' ?_
        obtain ⟨b, gh0', h0'⟩ := Option.bind_eq_some_iff.1 h0'
        refine opsV_cut 5 (fun e' => e' = { N := 79, np := 3, nx := 5, sl := [(0, .pl (.one (.v (.list false 1 (List.map (rL false 1 (rK .i64)) aParents))))), (1, .pl (.one (.v (.sc (.int .i64 aA))))), (2, .pl (.one (.v (.sc (.int .i64 aB))))), (8, .pl (.one (.ref 3 []))), (10, .pl (.one (.ref 4 []))), (50, .pl (.one (.v (.sc (.bool b)))))], ob := [(3, .list true 1 (List.map (rK .i64) x24)), (4, .list true 1 (List.map (rK .i64) x30))] }) ?_ ?_
        · simp only [List.take_succ_cons, List.take_zero]
          refine opsV_sp (fun hc' => ?_) (fun hc' => ?_)
          · replace gh0' := (ifF hc').symm.trans gh0'
            refine ops H' ?_
            obtain ⟨x48, hy', gh0'⟩ := Option.bind_eq_some_iff.1 gh0'
            refine callG H' (fun _ => []) (W_laws_eqIntS _ _ _ hy') ?_
            refine ops H' ?_
            obtain rfl := Option.some.inj gh0'
            refine opsV_nil ?_
            exact ⟨rfl, shd [0, 1, 2, 8, 10, 50] [(5, 3), (7, 4)] 5 rfl⟩
          · replace gh0' := (ifT hc').symm.trans gh0'
            refine ops H' ?_
            obtain rfl := Option.some.inj gh0'
            refine opsV_nil ?_
            exact ⟨rfl, shd [0, 1, 2, 8, 10, 50] [(5, 3), (7, 4)] 5 rfl⟩
        · rintro e' rfl
          simp only [List.drop_succ_cons, List.drop_zero]
          refine opsN ?_
          refine wpV_split (fun hc' => ?_) (fun hc' => ?_)
          · replace h0' := (ifT hc').symm.trans h0'
            refine wpV_seq1 ?_
            refine wpV_region ?_
            refine ops H' ?_
            refine opsN ?_
            refine retN ?_
            obtain rfl := Option.some.inj h0'
            exact outG H' rfl rfl
          · replace h0' := (ifF hc').symm.trans h0'
            refine skipN ?_
            refine wpV_seq1 ?_
            refine wpV_region ?_
            refine ops H' ?_
            refine opsN ?_
            refine wpV_seq1 ?_
            refine wpV_region ?_
            refine ops H' ?_
            obtain ⟨x53, hy', h0'⟩ := Option.bind_eq_some_iff.1 h0'
            refine callG H' (fun _ => [0]) (W_laws_markIntS _ _ _ hy') ?_
            refine ops H' ?_
            refine opsN ?_
            refine wpV_seq1 ?_
            refine wpV_region ?_
            refine ops H' ?_
            refine opsN ?_
            refine wpV_seq1 ?_
            refine wpV_region ?_
            refine ops H' ?_
            obtain ⟨x56, hy', h0'⟩ := Option.bind_eq_some_iff.1 h0'
            refine callG H' (fun _ => []) (W_laws_heldIntS _ _ _ hy') ?_
            refine ops H' ?_
            refine opsN ?_
            refine wpV_seq1 ?_
            refine wpV_seq1 ?_
            refine wpV_region ?_
            refine ops H' ?_
            refine opsN ?_
            refine wpV_split (fun hc' => ?_) (fun hc' => ?_)
            · replace h0' := (ifT hc').symm.trans h0'
              refine wpV_seq1 ?_
              refine wpV_region ?_
              refine ops H' ?_
              refine opsN ?_
              refine retN ?_
              obtain rfl := Option.some.inj h0'
              exact outG H' rfl rfl
            · replace h0' := (ifF hc').symm.trans h0'
              refine skipN ?_
              refine wpV_seq1 ?_
              refine wpV_seq1 ?_
              refine wpV_region ?_
              refine ops H' ?_
              refine opsN ?_
              refine wpV_split (fun hc' => ?_) (fun hc' => ?_)
              · replace h0' := (ifT hc').symm.trans h0'
                refine wpV_seq1 ?_
                refine wpV_region ?_
                refine ops H' ?_
                refine opsN ?_
                refine retN ?_
                obtain rfl := Option.some.inj h0'
                exact outG H' rfl rfl
              · replace h0' := (ifF hc').symm.trans h0'
                refine skipN ?_
                refine wpV_seq1 ?_
                refine wpV_region ?_
                refine ops H' ?_
                obtain ⟨x63, hy', h0'⟩ := Option.bind_eq_some_iff.1 h0'
                refine callG H' (fun _ => []) (W_laws_toIntSS _ _ hy') ?_
                refine ops H' ?_
                obtain ⟨x66, hy', h0'⟩ := Option.bind_eq_some_iff.1 h0'
                refine callG H' (fun _ => []) (W_impl_Bases _ _ _ _ hy') ?_
                refine ops H' ?_
                refine opsN ?_
                refine wpV_seq1 ?_
                refine wpV_seq1 ?_
                refine wpV_region ?_
                refine ops H' ?_
                obtain ⟨x69, hy', h0'⟩ := Option.bind_eq_some_iff.1 h0'
                refine callG H' (fun _ => []) (W_laws_eqIntS _ _ _ hy') ?_
                refine ops H' ?_
                refine opsN ?_
                refine wpV_split (fun hc' => ?_) (fun hc' => ?_)
                · replace h0' := (ifT hc').symm.trans h0'
                  refine wpV_seq1 ?_
                  refine wpV_region ?_
                  refine ops H' ?_
                  refine opsN ?_
                  refine retN ?_
                  obtain rfl := Option.some.inj h0'
                  exact outG H' rfl rfl
                · replace h0' := (ifF hc').symm.trans h0'
                  refine skipN ?_
                  refine wpV_seq1 ?_
                  refine wpV_region ?_
                  refine ops H' ?_
                  refine opsN ?_
                  refine wpV_seq1 ?_
                  refine wpV_region ?_
                  refine ops H' ?_
                  obtain ⟨x73, hy', h0'⟩ := Option.bind_eq_some_iff.1 h0'
                  refine callG H' (fun _ => []) (W_laws_heldIntS _ _ _ hy') ?_
                  refine ops H' ?_
                  refine opsN ?_
                  refine wpV_seq1 ?_
                  refine wpV_seq1 ?_
                  refine wpV_region ?_
                  refine ops H' ?_
                  refine opsN ?_
                  refine wpV_split (fun hc' => ?_) (fun hc' => ?_)
                  · replace h0' := (ifT hc').symm.trans h0'
                    refine wpV_seq1 ?_
                    refine wpV_region ?_
                    refine ops H' ?_
                    refine opsN ?_
                    refine retN ?_
                    obtain rfl := Option.some.inj h0'
                    exact outG H' rfl rfl
                  · replace h0' := (ifF hc').symm.trans h0'
                    refine skipN ?_
                    refine wpV_seq1 ?_
                    refine wpV_seq1 ?_
                    refine wpV_region ?_
                    refine ops H' ?_
                    refine opsN ?_
                    refine wpV_split (fun hc' => ?_) (fun hc' => ?_)
                    · replace h0' := (ifT hc').symm.trans h0'
                      refine wpV_seq1 ?_
                      refine wpV_region ?_
                      refine ops H' ?_
                      refine opsN ?_
                      refine retN ?_
                      obtain rfl := Option.some.inj h0'
                      exact outG H' rfl rfl
                    · replace h0' := (ifF hc').symm.trans h0'
                      refine skipN ?_
                      refine wpV_seq1 ?_
                      refine wpV_region ?_
                      refine ops H' ?_
                      refine opsN ?_
                      refine retN ?_
                      obtain rfl := Option.some.inj h0'
                      exact outG H' rfl rfl
end Go.TV.KFnExactBases
