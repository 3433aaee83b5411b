/- Walks. -/
import Derived.Test.YthfhiepgdeghpaaKFnExactUndoOnE
import Derived.Test.YthfhiepgdeghpaaKFnExactUndoOnW0
import Derived.Test.YthfhiepgdeghpaaKFnExactUndoOnW2
import Derived.Test.YthfhiepgdeghpaaKFnExactUndoOnW3
set_option linter.unusedVariables false
set_option linter.unusedSimpArgs false
set_option maxHeartbeats 8000000
set_option maxRecDepth 100000
namespace Go.TV.KFnExactUndoOn
attribute [local irreducible] anyV wpV opsV Does thenV blockV RetL quV seqV
open Go.Proofs.Try Go.TV.F
theorem W_laws_markText (k : Int) (r' : ByteArray) (h0' : laws_markText k = some r') : Fn X 66 [.one (.sc (.int .i64 k))] [.one (.sc (.string r'))] [] := by
  have H' := And.intro t3 (And.intro t5 (And.intro t9 (t36)))
  unfold laws_markText at h0'
  refine Fn.start (fn := f66) (N := 20) (res := [.tmp 2]) rfl rfl rfl rfl rfl (by simp) ?_
  refine enterG H' ?_
  refine wpV_seq1 ?_
  refine wpV_region ?_
  refine ops H' ?_
  refine opsN ?_
  refine wpV_seq1 ?_
  refine wpV_seq1 ?_
  refine wpV_region ?_
  refine ops H' ?_
  refine opsN ?_
  refine wpV_split (fun hc' => ?_) (fun hc' => ?_)
  · replace h0' := (ifT hc').symm.trans h0'
    refine wpV_seq1 ?_
    refine wpV_region ?_
    refine ops H' ?_
    refine opsN ?_
    refine retN ?_
    obtain rfl := Option.some.inj h0'
    exact outG H' rfl rfl
  · replace h0' := (ifF hc').symm.trans h0'
    refine skipN ?_
    refine wpV_seq1 ?_
    refine wpV_region ?_
    refine ops H' ?_
    refine opsN ?_
    refine wpV_seqJ (fun e' => ∃ out_, laws_markText_j1 out_ = some r' ∧ e' = { N := 20, np := 1, nx := 1, sl := [(3, .pl (.one (.v (.sc (.string out_)))))], ob := [] }) ?_ ?_
    · obtain ⟨p, hl', h0'⟩ := Option.bind_eq_some_iff.1 h0'
      refine wpV_block ?_
      refine wpV_loopM (fun s' e' => ∃ k_1 out__1, s' = (k_1, out__1) ∧ e' = { N := 20, np := 1, nx := 1, sl := [(0, .pl (.one (.v (.sc (.int .i64 k_1))))), (3, .pl (.one (.v (.sc (.string out__1)))))], ob := [] }) hl' (shd [0, 3] [] 1 ⟨_, _, rfl, rfl⟩) ?_
      rintro s' y1' e' h1' ⟨k_1, out__1, rfl, rfl⟩
      replace h1' : laws_markText_l1 k_1 out__1 = some y1' := h1'
      unfold laws_markText_l1 at h1'
      refine wpV_seq1 ?_
      refine wpV_seq1 ?_
      refine wpV_region ?_
      refine ops H' ?_
      refine opsN ?_
      refine wpV_split (fun hc' => ?_) (fun hc' => ?_)
      · replace h1' := (ifT hc').symm.trans h1'
        refine skipN ?_
        refine wpV_block ?_
        refine wpV_seq1 ?_
        refine wpV_region ?_
        have H' := And.intro (show bytesOf [[V.sc (.int .u8 (wk .u8 (wk .i64 (48 + (k_1.tmod 10)))))]] = some [(wk .u8 (wk .i64 (48 + (k_1.tmod 10))))] from bytesOf_rK [(wk .u8 (wk .i64 (48 + (k_1.tmod 10))))]) H'
        obtain ⟨t_1, hv', h1'⟩ := Option.bind_eq_some_iff.1 h1'
        have H' := And.intro (sapp_f hv') H'
        refine ops H' ?_
        refine opsN ?_
        refine wpV_region ?_
        refine ops H' ?_
        refine opsN ?_
        obtain rfl := Option.some.inj h1'
        exact shd [0, 3] [] 1 ⟨_, rfl, _, _, rfl, rfl⟩
      · replace h1' := (ifF hc').symm.trans h1'
        refine exitN ?_
        obtain rfl := Option.some.inj h1'
        refine ⟨_, rfl, fun hr' => ?_⟩
        subst hr'
        exact shd [3] [] 1 ⟨_, h0', rfl⟩
    · rintro e' ⟨out_, h0', rfl⟩
      unfold laws_markText_j1 at h0'
      refine wpV_seq1 ?_
      refine wpV_region ?_
      obtain ⟨t, hv', h0'⟩ := Option.bind_eq_some_iff.1 h0'
      have H' := And.intro (sapp_f hv') H'
      refine ops H' ?_
      refine opsN ?_
      refine retN ?_
      obtain rfl := Option.some.inj h0'
      exact outG H' rfl rfl
theorem W_laws_markBodyS (a : List T_impl_Body) (k : Int) (r' : Int × (List T_impl_Body)) (h0' : laws_markBodyS a k = some r') : Fn X 111 [.one (.list true 4 (List.map (r_T_impl_Body true) a)), .one (.sc (.int .i64 k))] [.one (.sc (.int .i64 r'.1))] [(0, .list true 4 (List.map (r_T_impl_Body true) r'.2))] := by
  have H' := And.intro t3 (And.intro t9 (And.intro t39 (And.intro t44 (And.intro t50 (And.intro R_T_impl_Body (R_i64))))))
  unfold laws_markBodyS at h0'
  refine Fn.start (fn := f111) (N := 42) (res := [.tmp 4]) rfl rfl rfl rfl rfl (by simp) ?_
  refine enterG H' ?_
  refine wpV_seq1 ?_
  refine wpV_region ?_
  refine ops H' ?_
  refine opsN ?_
  refine wpV_seqJ (fun e' => ∃ k_1 a_1, laws_markBodyS_j1 k_1 a_1 = some r' ∧ e' = { N := 42, np := 2, nx := 2, sl := [(1, .pl (.one (.v (.sc (.int .i64 k_1)))))], ob := [(0, .list true 4 (List.map (r_T_impl_Body true) a_1))] }) ?_ ?_
  · refine wpV_seq1 ?_
    refine wpV_region ?_
    refine ops H' ?_
    refine opsN ?_
    obtain ⟨p, hl', h0'⟩ := Option.bind_eq_some_iff.1 h0'
    refine wpV_block ?_
    refine wpV_loopM (fun s' e' => ∃ k_2 i a_2, s' = (k_2, i, a_2) ∧ e' = { N := 42, np := 2, nx := 2, sl := [(0, .pl (.one (.ref 0 []))), (1, .pl (.one (.v (.sc (.int .i64 k_2))))), (5, .pl (.one (.v (.sc (.int .i64 i)))))], ob := [(0, .list true 4 (List.map (r_T_impl_Body true) a_2))] }) hl' (shd [0, 1, 5] [(0, 0)] 2 ⟨_, _, _, rfl, rfl⟩) ?_
    rintro s' y1' e' h1' ⟨k_2, i, a_2, rfl, rfl⟩
    replace h1' : laws_markBodyS_l1 k_2 i a_2 = some y1' := h1'
    unfold laws_markBodyS_l1 at h1'
    refine wpV_seq1 ?_
    refine wpV_seq1 ?_
    refine wpV_region ?_
    refine ops H' ?_
    refine opsN ?_
    refine wpV_split (fun hc' => ?_) (fun hc' => ?_)
    · replace h1' := (ifT hc').symm.trans h1'
      refine skipN ?_
      refine wpV_seq1 ?_
      refine wpV_block ?_
      refine wpV_seq1 ?_
      refine wpV_region ?_
      refine ops H' ?_
      obtain ⟨x15, hy', h1'⟩ := Option.bind_eq_some_iff.1 h1'
      refine callG H' (fun _ => []) (W_laws_markText _ _ hy') ?_
      obtain ⟨x, hv', h1'⟩ := Option.bind_eq_some_iff.1 h1'
      have H' := And.intro (geti_f hv') H'
      refine ops H' ?_
      refine opsN ?_
      refine wpV_seq1 ?_
      refine wpV_region ?_
      refine ops H' ?_
      refine opsN ?_
      refine wpV_seq1 ?_
      refine wpV_region ?_
      obtain ⟨x_1, hv', h1'⟩ := Option.bind_eq_some_iff.1 h1'
      have H' := And.intro (geti_f hv') H'
      refine ops H' ?_
      refine opsN ?_
      refine wpV_seq1 ?_
      refine wpV_region ?_
      refine ops H' ?_
      refine opsN ?_
      refine wpV_seq1 ?_
      refine wpV_region ?_
      obtain ⟨x_2, hv', h1'⟩ := Option.bind_eq_some_iff.1 h1'
      have H' := And.intro (geti_f hv') H'
      refine ops H' ?_
      refine opsN ?_
      refine wpV_seq1 ?_
      refine wpV_region ?_
      refine ops H' ?_
      refine opsN ?_
      refine wpV_region ?_
      obtain ⟨x_3, hv', h1'⟩ := Option.bind_eq_some_iff.1 h1'
      have H' := And.intro (geti_f hv') H'
      refine ops H' ?_
      obtain ⟨x40, hy', h1'⟩ := Option.bind_eq_some_iff.1 h1'
      refine callG H' (fun _ => [0]) (W_laws_markIntS _ _ _ hy') ?_
      refine ops H' ?_
      refine opsN ?_
      refine wpV_region ?_
      refine ops H' ?_
      refine opsN ?_
      obtain rfl := Option.some.inj h1'
      exact shd [0, 1, 5] [(0, 0)] 2 ⟨_, rfl, _, _, _, rfl, rfl⟩
    · replace h1' := (ifF hc').symm.trans h1'
      refine exitN ?_
      obtain rfl := Option.some.inj h1'
      refine ⟨_, rfl, fun hr' => ?_⟩
      subst hr'
      exact shd [1] [(0, 0)] 2 ⟨_, _, h0', rfl⟩
  · rintro e' ⟨k_1, a_1, h0', rfl⟩
    unfold laws_markBodyS_j1 at h0'
    refine wpV_seq1 ?_
    refine wpV_region ?_
    refine ops H' ?_
    refine opsN ?_
    refine retN ?_
    obtain rfl := Option.some.inj h0'
    exact outG H' rfl rfl
theorem W_laws_markWeave (a : T_impl_Weave) (k : Int) (r' : Int) (h0' : laws_markWeave a k = some r') : Fn X 38 [.agg [.list true 1 (List.map (rL true 1 (rK .i64)) a.Parents), .list true 4 (List.map (r_T_impl_Body true) a.Bodies)], .one (.sc (.int .i64 k))] [.one (.sc (.int .i64 r'))] [] := by
  have H' := And.intro t38 (And.intro t39 (And.intro t41 (And.intro R_Li64 (And.intro R_T_impl_Body (R_i64)))))
  unfold laws_markWeave at h0'
  refine Fn.start (fn := f38) (N := 14) (res := [.tmp 4]) rfl rfl rfl rfl rfl (by simp) ?_
  refine enterG H' ?_
  refine wpV_seq1 ?_
  refine wpV_region ?_
  refine ops H' ?_
  refine opsN ?_
  refine wpV_seq1 ?_
  refine wpV_region ?_
  refine ops H' ?_
  obtain ⟨x8, hy', h0'⟩ := Option.bind_eq_some_iff.1 h0'
  refine callG H' (fun _ => [0]) (W_laws_markIntSS _ _ _ hy') ?_
  refine ops H' ?_
  refine opsN ?_
  refine wpV_seq1 ?_
  refine wpV_region ?_
  refine ops H' ?_
  obtain ⟨x12, hy', h0'⟩ := Option.bind_eq_some_iff.1 h0'
  refine callG H' (fun _ => [0]) (W_laws_markBodyS _ _ _ hy') ?_
  refine ops H' ?_
  refine opsN ?_
  refine wpV_seq1 ?_
  refine wpV_region ?_
  refine ops H' ?_
  refine opsN ?_
  refine retN ?_
  obtain rfl := Option.some.inj h0'
  exact outG H' rfl rfl
theorem W_laws_markStringS (a : List ByteArray) (k : Int) (r' : Int × (List ByteArray)) (h0' : laws_markStringS a k = some r') : Fn X 40 [.one (.list true 1 (List.map rS a)), .one (.sc (.int .i64 k))] [.one (.sc (.int .i64 r'.1))] [(0, .list true 1 (List.map rS r'.2))] := by
  have H' := And.intro t3 (And.intro t9 (And.intro t55 (R_s)))
  unfold laws_markStringS at h0'
  refine Fn.start (fn := f40) (N := 20) (res := [.tmp 4]) rfl rfl rfl rfl rfl (by simp) ?_
  refine enterG H' ?_
  refine wpV_seq1 ?_
  refine wpV_region ?_
  refine ops H' ?_
  refine opsN ?_
  refine wpV_seqJ (fun e' => ∃ k_1 a_1, laws_markStringS_j1 k_1 a_1 = some r' ∧ e' = { N := 20, np := 2, nx := 2, sl := [(1, .pl (.one (.v (.sc (.int .i64 k_1)))))], ob := [(0, .list true 1 (List.map rS a_1))] }) ?_ ?_
  · refine wpV_seq1 ?_
    refine wpV_region ?_
    refine ops H' ?_
    refine opsN ?_
    obtain ⟨p, hl', h0'⟩ := Option.bind_eq_some_iff.1 h0'
    refine wpV_block ?_
    refine wpV_loopM (fun s' e' => ∃ k_2 i a_2, s' = (k_2, i, a_2) ∧ e' = { N := 20, np := 2, nx := 2, sl := [(0, .pl (.one (.ref 0 []))), (1, .pl (.one (.v (.sc (.int .i64 k_2))))), (5, .pl (.one (.v (.sc (.int .i64 i)))))], ob := [(0, .list true 1 (List.map rS a_2))] }) hl' (shd [0, 1, 5] [(0, 0)] 2 ⟨_, _, _, rfl, rfl⟩) ?_
    rintro s' y1' e' h1' ⟨k_2, i, a_2, rfl, rfl⟩
    replace h1' : laws_markStringS_l1 k_2 i a_2 = some y1' := h1'
    unfold laws_markStringS_l1 at h1'
    refine wpV_seq1 ?_
    refine wpV_seq1 ?_
    refine wpV_region ?_
    refine ops H' ?_
    refine opsN ?_
    refine wpV_split (fun hc' => ?_) (fun hc' => ?_)
    · replace h1' := (ifT hc').symm.trans h1'
      refine skipN ?_
      refine wpV_seq1 ?_
      refine wpV_block ?_
      refine wpV_seq1 ?_
      refine wpV_region ?_
      refine ops H' ?_
      obtain ⟨x15, hy', h1'⟩ := Option.bind_eq_some_iff.1 h1'
      refine callG H' (fun _ => []) (W_laws_markText _ _ hy') ?_
      obtain ⟨x, hv', h1'⟩ := Option.bind_eq_some_iff.1 h1'
      have H' := And.intro (geti_f hv') H'
      refine ops H' ?_
      refine opsN ?_
      refine wpV_region ?_
      refine ops H' ?_
      refine opsN ?_
      refine wpV_region ?_
      refine ops H' ?_
      refine opsN ?_
      obtain rfl := Option.some.inj h1'
      exact shd [0, 1, 5] [(0, 0)] 2 ⟨_, rfl, _, _, _, rfl, rfl⟩
    · replace h1' := (ifF hc').symm.trans h1'
      refine exitN ?_
      obtain rfl := Option.some.inj h1'
      refine ⟨_, rfl, fun hr' => ?_⟩
      subst hr'
      exact shd [1] [(0, 0)] 2 ⟨_, _, h0', rfl⟩
  · rintro e' ⟨k_1, a_1, h0', rfl⟩
    unfold laws_markStringS_j1 at h0'
    refine wpV_seq1 ?_
    refine wpV_region ?_
    refine ops H' ?_
    refine opsN ?_
    refine retN ?_
    obtain rfl := Option.some.inj h0'
    exact outG H' rfl rfl
theorem W_laws_heldStringS (a : List ByteArray) (k : Int) (r' : Int) (h0' : laws_heldStringS a k = some r') : Fn X 41 [.one (.list false 1 (List.map rS a)), .one (.sc (.int .i64 k))] [.one (.sc (.int .i64 r'))] [] := by
  have H' := And.intro t3 (And.intro t9 (And.intro t55 (R_s)))
  unfold laws_heldStringS at h0'
  refine Fn.start (fn := f41) (N := 22) (res := [.tmp 4]) rfl rfl rfl rfl rfl (by simp) ?_
  refine enterG H' ?_
  refine wpV_seq1 ?_
  refine wpV_region ?_
  refine ops H' ?_
  refine opsN ?_
  refine wpV_seqJ (fun e' => ∃ k_1, laws_heldStringS_j1 k_1 = some r' ∧ e' = { N := 22, np := 2, nx := 2, sl := [(1, .pl (.one (.v (.sc (.int .i64 k_1)))))], ob := [] }) ?_ ?_
  · refine wpV_seq1 ?_
    refine wpV_region ?_
    refine ops H' ?_
    refine opsN ?_
    obtain ⟨p, hl', h0'⟩ := Option.bind_eq_some_iff.1 h0'
    refine wpV_block ?_
    refine wpV_loopM (fun s' e' => ∃ k_2 i, s' = (k_2, i) ∧ e' = { N := 22, np := 2, nx := 2, sl := [(0, .pl (.one (.v (.list false 1 (List.map rS a))))), (1, .pl (.one (.v (.sc (.int .i64 k_2))))), (5, .pl (.one (.v (.sc (.int .i64 i)))))], ob := [] }) hl' (shd [0, 1, 5] [] 2 ⟨_, _, rfl, rfl⟩) ?_
    rintro s' y1' e' h1' ⟨k_2, i, rfl, rfl⟩
    replace h1' : laws_heldStringS_l1 a k_2 i = some y1' := h1'
    unfold laws_heldStringS_l1 at h1'
    refine wpV_seq1 ?_
    refine wpV_seq1 ?_
    refine wpV_region ?_
    refine ops H' ?_
    refine opsN ?_
    refine wpV_split (fun hc' => ?_) (fun hc' => ?_)
    · replace h1' := (ifT hc').symm.trans h1'
      refine skipN ?_
      refine wpV_seq1 ?_
      refine wpV_block ?_
      refine wpV_seq1 ?_
      refine wpV_seq1 ?_
      refine regQ ?_
      obtain ⟨x, hv', h1'⟩ := Option.bind_eq_some_iff.1 h1'
      have H' := And.intro (geti_f hv') H'
      refine ops H' ?_
      obtain ⟨x17, hy', h1'⟩ := Option.bind_eq_some_iff.1 h1'
      refine callGQ H' (W_laws_markText _ _ hy') ?_
      refine ops H' ?_
      refine quN ?_
      refine wpV_split (fun hc' => ?_) (fun hc' => ?_)
      · replace h1' := (ifT hc').symm.trans h1'
        refine wpV_seq1 ?_
        refine wpV_region ?_
        refine ops H' ?_
        refine opsN ?_
        refine retN ?_
        obtain rfl := Option.some.inj h1'
        refine ⟨_, rfl, fun hr' => ?_⟩
        subst hr'
        obtain rfl := Option.some.inj h0'
        exact outG H' rfl rfl
      · replace h1' := (ifF hc').symm.trans h1'
        refine skipN ?_
        refine wpV_region ?_
        refine ops H' ?_
        refine opsN ?_
        refine wpV_region ?_
        refine ops H' ?_
        refine opsN ?_
        obtain rfl := Option.some.inj h1'
        exact shd [0, 1, 5] [] 2 ⟨_, rfl, _, _, rfl, rfl⟩
    · replace h1' := (ifF hc').symm.trans h1'
      refine exitN ?_
      obtain rfl := Option.some.inj h1'
      refine ⟨_, rfl, fun hr' => ?_⟩
      subst hr'
      exact shd [1] [] 2 ⟨_, h0', rfl⟩
  · rintro e' ⟨k_1, h0', rfl⟩
    unfold laws_heldStringS_j1 at h0'
    refine wpV_seq1 ?_
    refine wpV_region ?_
    refine ops H' ?_
    refine opsN ?_
    refine retN ?_
    obtain rfl := Option.some.inj h0'
    exact outG H' rfl rfl
theorem W_laws_FnExactUndoOn (aW : T_laws_Weave) (aOnto : Int) (aV : Int) (r' : Bool) (h0' : laws_FnExactUndoOn aW aOnto aV = some r') : Fn X 9 [.agg [.list false 1 (List.map (rL false 1 (rK .i64)) aW.Parents), .list false 4 (List.map (r_T_laws_Body false) aW.Bodies)], .one (.sc (.int .i64 aOnto)), .one (.sc (.int .i64 aV))] [.one (.sc (.bool r'))] [] := by
  have H' := And.intro t3 (And.intro t41 (And.intro t53 (And.intro R_Li64 (And.intro R_T_impl_Body (And.intro R_T_laws_Body (And.intro R_i64 (R_s)))))))
  unfold laws_FnExactUndoOn at h0'
  refine Fn.start (fn := f9) (N := 127) (res := [.tmp 6]) rfl rfl rfl rfl rfl (by simp) ?_
  refine enterG H' ?_
  refine wpV_seq1 ?_
  refine wpV_region ?_
  refine ops H' ?_
  refine opsN ?_
  refine wpV_seq1 ?_
  refine wpV_region ?_
  refine ops H' ?_
  refine opsN ?_
  refine wpV_seq1 ?_
  refine wpV_region ?_
  refine ops H' ?_
  obtain ⟨x23, hy', h0'⟩ := Option.bind_eq_some_iff.1 h0'
  refine callG H' (fun _ => []) (W_laws_szWeave _ _ _ hy') ?_
  refine ops H' ?_
  refine opsN ?_
  refine wpV_seq1 ?_
  refine wpV_seq1 ?_
  refine wpV_region ?_
  refine ops H' ?_
  refine opsN ?_
  refine wpV_split (fun hc' => ?_) (fun hc' => ?_)
  · replace h0' := (ifT hc').symm.trans h0'
    refine wpV_seq1 ?_
    refine wpV_region ?_
    refine ops H' ?_
    refine opsN ?_
    refine retN ?_
    obtain rfl := Option.some.inj h0'
    exact outG H' rfl rfl
  · replace h0' := (ifF hc').symm.trans h0'
    refine skipN ?_
    refine wpV_seq1 ?_
    refine wpV_region ?_
    refine ops H' ?_
    obtain ⟨x28, hy', h0'⟩ := Option.bind_eq_some_iff.1 h0'
    refine callG H' (fun _ => []) (W_laws_toWeave _ _ hy') ?_
    refine ops H' ?_
    obtain ⟨x31, hy', h0'⟩ := Option.bind_eq_some_iff.1 h0'
    refine callG H' (fun _ => []) (W_spec_UndoOn _ _ _ _ hy') ?_
    refine ops H' ?_
    refine opsN ?_
    refine wpV_seq1 ?_
    refine wpV_region ?_
    refine ops H' ?_
    obtain ⟨x36, hy', h0'⟩ := Option.bind_eq_some_iff.1 h0'
    refine callG H' (fun _ => []) (W_laws_toWeave _ _ hy') ?_
    refine ops H' ?_
    refine opsN ?_
    refine wpV_seq1 ?_
    refine wpV_region ?_
    refine ops H' ?_
    obtain ⟨x41, hy', h0'⟩ := Option.bind_eq_some_iff.1 h0'
    refine callG H' (fun _ => []) (W_impl_UndoOn _ _ _ _ hy') ?_
    refine ops H' ?_
    refine opsN ?_
    refine wpV_seq1 ?_
    refine wpV_seq1 ?_
    refine wpV_region ?_
    refine ops H' ?_
    obtain ⟨x47, hy', h0'⟩ := Option.bind_eq_some_iff.1 h0'
    refine callG H' (fun _ => []) (W_laws_eqStringS _ _ _ hy') ?_
    refine ops H' ?_
    obtain ⟨b, gh0', h0'⟩ := Option.bind_eq_some_iff.1 h0'
    refine opsV_cut 4 (fun e' => e' = { N := 127, np := 4, nx := 8, sl := [(1, .pl (.one (.v (.sc (.int .i64 aOnto))))), (2, .pl (.one (.v (.sc (.int .i64 aV))))), (3, .pl (.one (.ref 4 []))), (8, .pl (.one (.ref 5 []))), (9, .pl (.one (.v (.sc (.int .i64 x31.2.1))))), (10, .pl (.one (.v (.sc (.int .i64 x31.2.2))))), (11, .pl (.one (.ref 6 []))), (12, .pl (.one (.ref 7 []))), (13, .pl (.one (.v (.sc (.int .i64 x41.2.1))))), (14, .pl (.one (.v (.sc (.int .i64 x41.2.2))))), (53, .pl (.one (.v (.sc (.bool b)))))], ob := [(4, .box true [.list false 1 (List.map (rL false 1 (rK .i64)) aW.Parents), .list false 4 (List.map (r_T_laws_Body false) aW.Bodies)]), (5, .list true 1 (List.map rS x31.1)), (6, .box true [.list true 1 (List.map (rL true 1 (rK .i64)) x36.Parents), .list true 4 (List.map (r_T_impl_Body true) x36.Bodies)]), (7, .list true 1 (List.map rS x41.1))] }) ?_ ?_
    · simp only [List.take_succ_cons, List.take_zero]
      refine opsV_sp (fun hc' => ?_) (fun hc' => ?_)
      · replace gh0' := (ifF hc').symm.trans gh0'
        refine ops H' ?_
        obtain rfl := Option.some.inj gh0'
        refine opsV_nil ?_
        exact ⟨rfl, shd [1, 2, 3, 8, 9, 10, 11, 12, 13, 14, 53] [(4, 4), (8, 5), (13, 6), (14, 7)] 8 rfl⟩
      · replace gh0' := (ifT hc').symm.trans gh0'
        refine ops H' ?_
        obtain rfl := Option.some.inj gh0'
        refine opsV_nil ?_
        exact ⟨rfl, shd [1, 2, 3, 8, 9, 10, 11, 12, 13, 14, 53] [(4, 4), (8, 5), (13, 6), (14, 7)] 8 rfl⟩
    · rintro e' rfl
      simp only [List.drop_succ_cons, List.drop_zero]
      refine ops H' ?_
      obtain ⟨b_1, gh0', h0'⟩ := Option.bind_eq_some_iff.1 h0'
      refine opsV_cut 4 (fun e' => e' = { N := 127, np := 4, nx := 8, sl := [(1, .pl (.one (.v (.sc (.int .i64 aOnto))))), (2, .pl (.one (.v (.sc (.int .i64 aV))))), (3, .pl (.one (.ref 4 []))), (8, .pl (.one (.ref 5 []))), (9, .pl (.one (.v (.sc (.int .i64 x31.2.1))))), (10, .pl (.one (.v (.sc (.int .i64 x31.2.2))))), (11, .pl (.one (.ref 6 []))), (12, .pl (.one (.ref 7 []))), (13, .pl (.one (.v (.sc (.int .i64 x41.2.1))))), (14, .pl (.one (.v (.sc (.int .i64 x41.2.2))))), (58, .pl (.one (.v (.sc (.bool b_1)))))], ob := [(4, .box true [.list false 1 (List.map (rL false 1 (rK .i64)) aW.Parents), .list false 4 (List.map (r_T_laws_Body false) aW.Bodies)]), (5, .list true 1 (List.map rS x31.1)), (6, .box true [.list true 1 (List.map (rL true 1 (rK .i64)) x36.Parents), .list true 4 (List.map (r_T_impl_Body true) x36.Bodies)]), (7, .list true 1 (List.map rS x41.1))] }) ?_ ?_
      · simp only [List.take_succ_cons, List.take_zero]
        refine opsV_sp (fun hc' => ?_) (fun hc' => ?_)
        · replace gh0' := (ifF hc').symm.trans gh0'
          refine ops H' ?_
          obtain rfl := Option.some.inj gh0'
          refine opsV_nil ?_
          exact ⟨rfl, shd [1, 2, 3, 8, 9, 10, 11, 12, 13, 14, 58] [(4, 4), (5, 5), (6, 6), (7, 7)] 8 rfl⟩
        · replace gh0' := (ifT hc').symm.trans gh0'
          refine ops H' ?_
          obtain rfl := Option.some.inj gh0'
          refine opsV_nil ?_
          exact ⟨rfl, shd [1, 2, 3, 8, 9, 10, 11, 12, 13, 14, 58] [(4, 4), (5, 5), (6, 6), (7, 7)] 8 rfl⟩
      · rintro e' rfl
        simp only [List.drop_succ_cons, List.drop_zero]
        refine opsN ?_
        refine wpV_split (fun hc' => ?_) (fun hc' => ?_)
        · replace h0' := (ifT hc').symm.trans h0'
          refine wpV_seq1 ?_
          refine wpV_region ?_
          refine ops H' ?_
          refine opsN ?_
          refine retN ?_
          obtain rfl := Option.some.inj h0'
          exact outG H' rfl rfl
        · replace h0' := (ifF hc').symm.trans h0'
          refine skipN ?_
          refine wpV_seq1 ?_
          refine wpV_seq1 ?_
          obtain ⟨x61, hy_x61, h0'⟩ := Option.bind_eq_some_iff.1 h0'
          obtain ⟨x62, hy_x62, h0'⟩ := Option.bind_eq_some_iff.1 h0'
          refine wpV_J (fun e' => e' = { N := 127, np := 4, nx := 8, sl := [(1, .pl (.one (.v (.sc (.int .i64 aOnto))))), (2, .pl (.one (.v (.sc (.int .i64 aV))))), (3, .pl (.one (.ref 4 []))), (8, .pl (.one (.ref 5 []))), (9, .pl (.one (.v (.sc (.int .i64 x31.2.1))))), (10, .pl (.one (.v (.sc (.int .i64 x31.2.2))))), (11, .pl (.one (.ref 6 []))), (12, .pl (.one (.ref 7 []))), (13, .pl (.one (.v (.sc (.int .i64 x41.2.1))))), (14, .pl (.one (.v (.sc (.int .i64 x41.2.2))))), (63, .pl (.one (.v (.sc (.bool (!x62))))))], ob := [(4, .box true [.list false 1 (List.map (rL false 1 (rK .i64)) aW.Parents), .list false 4 (List.map (r_T_laws_Body false) aW.Bodies)]), (5, .list true 1 (List.map rS x31.1)), (6, .box true [.list true 1 (List.map (rL true 1 (rK .i64)) x36.Parents), .list true 4 (List.map (r_T_impl_Body true) x36.Bodies)]), (7, .list true 1 (List.map rS x41.1))] }) ?_ ?_
          · refine regAnyF [(1, 60, .pl (.agg [.v (.list false 1 (List.map (rL false 1 (rK .i64)) aW.Parents)), .v (.list false 4 (List.map (r_T_laws_Body false) aW.Bodies))])), (3, 62, .pl (.one (.v (.sc (.bool x62))))), (4, 63, .pl (.one (.v (.sc (.bool (!x62))))))] ?_
            refine (?_ : anyF X ?ops10_0_0 _ _ ?P10_0_0 _)
            have d10_0_0_0' : anyF X ?ops10_0_0 [0, 1, 2] [(3, 62, .pl (.one (.v (.sc (.bool x62))))), (4, 63, .pl (.one (.v (.sc (.bool (!x62))))))] ?P10_0_0 { N := 127, np := 4, nx := 10, sl := [(1, .pl (.one (.v (.sc (.int .i64 aOnto))))), (2, .pl (.one (.v (.sc (.int .i64 aV))))), (3, .pl (.one (.ref 4 []))), (8, .pl (.one (.ref 5 []))), (9, .pl (.one (.v (.sc (.int .i64 x31.2.1))))), (10, .pl (.one (.v (.sc (.int .i64 x31.2.2))))), (11, .pl (.one (.ref 6 []))), (12, .pl (.one (.ref 7 []))), (13, .pl (.one (.v (.sc (.int .i64 x41.2.1))))), (14, .pl (.one (.v (.sc (.int .i64 x41.2.2))))), (59, .pl (.agg [.ref 6 [(0, 0, 0)], .ref 6 [(0, 0, 1)]])), (61, .pl (.agg [.ref 8 [], .ref 9 []]))], ob := [(4, .box true [.list false 1 (List.map (rL false 1 (rK .i64)) aW.Parents), .list false 4 (List.map (r_T_laws_Body false) aW.Bodies)]), (5, .list true 1 (List.map rS x31.1)), (6, .box true [.list true 1 (List.map (rL true 1 (rK .i64)) x36.Parents), .list true 4 (List.map (r_T_impl_Body true) x36.Bodies)]), (7, .list true 1 (List.map rS x41.1)), (8, .list true 1 (List.map (rL true 1 (rK .i64)) x61.Parents)), (9, .list true 4 (List.map (r_T_impl_Body true) x61.Bodies))] } := by
              refine fend (e2 := { N := 127, np := 4, nx := 10, sl := [(62, .pl (.one (.v (.sc (.bool x62))))), (63, .pl (.one (.v (.sc (.bool (!x62)))))), (1, .pl (.one (.v (.sc (.int .i64 aOnto))))), (2, .pl (.one (.v (.sc (.int .i64 aV))))), (3, .pl (.one (.ref 4 []))), (8, .pl (.one (.ref 5 []))), (9, .pl (.one (.v (.sc (.int .i64 x31.2.1))))), (10, .pl (.one (.v (.sc (.int .i64 x31.2.2))))), (11, .pl (.one (.ref 6 []))), (12, .pl (.one (.ref 7 []))), (13, .pl (.one (.v (.sc (.int .i64 x41.2.1))))), (14, .pl (.one (.v (.sc (.int .i64 x41.2.2))))), (59, .pl (.agg [.ref 6 [(0, 0, 0)], .ref 6 [(0, 0, 1)]])), (61, .pl (.agg [.ref 8 [], .ref 9 []]))], ob := [(4, .box true [.list false 1 (List.map (rL false 1 (rK .i64)) aW.Parents), .list false 4 (List.map (r_T_laws_Body false) aW.Bodies)]), (5, .list true 1 (List.map rS x31.1)), (6, .box true [.list true 1 (List.map (rL true 1 (rK .i64)) x36.Parents), .list true 4 (List.map (r_T_impl_Body true) x36.Bodies)]), (7, .list true 1 (List.map rS x41.1)), (8, .list true 1 (List.map (rL true 1 (rK .i64)) x61.Parents)), (9, .list true 4 (List.map (r_T_impl_Body true) x61.Bodies))] }) [3, 4] [.q 3 62 (.pl (.one (.v (.sc (.bool x62))))) [], .q 4 63 (.pl (.one (.v (.sc (.bool (!x62)))))) [3]] [(3, 62), (4, 63)] [(3, true, [], []), (4, true, [3], [])] ⟨?_, ?_, trivial⟩ ⟨rfl, shd [1, 2, 3, 8, 9, 10, 11, 12, 13, 14, 63] [(4, 4), (5, 5), (6, 6), (7, 7)] 8 rfl⟩
              · refine obQ 0 { N := 127, np := 4, nx := 10, sl := [(1, .pl (.one (.v (.sc (.int .i64 aOnto))))), (2, .pl (.one (.v (.sc (.int .i64 aV))))), (3, .pl (.one (.ref 4 []))), (8, .pl (.one (.ref 5 []))), (9, .pl (.one (.v (.sc (.int .i64 x31.2.1))))), (10, .pl (.one (.v (.sc (.int .i64 x31.2.2))))), (11, .pl (.one (.ref 6 []))), (12, .pl (.one (.ref 7 []))), (13, .pl (.one (.v (.sc (.int .i64 x41.2.1))))), (14, .pl (.one (.v (.sc (.int .i64 x41.2.2))))), (59, .pl (.agg [.ref 6 [(0, 0, 0)], .ref 6 [(0, 0, 1)]])), (61, .pl (.agg [.ref 8 [], .ref 9 []]))], ob := [(4, .box true [.list false 1 (List.map (rL false 1 (rK .i64)) aW.Parents), .list false 4 (List.map (r_T_laws_Body false) aW.Bodies)]), (5, .list true 1 (List.map rS x31.1)), (6, .box true [.list true 1 (List.map (rL true 1 (rK .i64)) x36.Parents), .list true 4 (List.map (r_T_impl_Body true) x36.Bodies)]), (7, .list true 1 (List.map rS x41.1)), (8, .list true 1 (List.map (rL true 1 (rK .i64)) x61.Parents)), (9, .list true 4 (List.map (r_T_impl_Body true) x61.Bodies))] } ?_
                refine callG H' (fun _ => []) (W_laws_eqWeave _ _ _ hy_x62) ?_
                refine opsV_nil ⟨rfl, shd [62, 1, 2, 3, 8, 9, 10, 11, 12, 13, 14, 59, 61] [(4, 4), (5, 5), (6, 6), (7, 7), (8, 8), (9, 9)] 10 rfl⟩
              · refine obQ 1 { N := 127, np := 4, nx := 10, sl := [(62, .pl (.one (.v (.sc (.bool x62))))), (1, .pl (.one (.v (.sc (.int .i64 aOnto))))), (2, .pl (.one (.v (.sc (.int .i64 aV))))), (3, .pl (.one (.ref 4 []))), (8, .pl (.one (.ref 5 []))), (9, .pl (.one (.v (.sc (.int .i64 x31.2.1))))), (10, .pl (.one (.v (.sc (.int .i64 x31.2.2))))), (11, .pl (.one (.ref 6 []))), (12, .pl (.one (.ref 7 []))), (13, .pl (.one (.v (.sc (.int .i64 x41.2.1))))), (14, .pl (.one (.v (.sc (.int .i64 x41.2.2))))), (59, .pl (.agg [.ref 6 [(0, 0, 0)], .ref 6 [(0, 0, 1)]])), (61, .pl (.agg [.ref 8 [], .ref 9 []]))], ob := [(4, .box true [.list false 1 (List.map (rL false 1 (rK .i64)) aW.Parents), .list false 4 (List.map (r_T_laws_Body false) aW.Bodies)]), (5, .list true 1 (List.map rS x31.1)), (6, .box true [.list true 1 (List.map (rL true 1 (rK .i64)) x36.Parents), .list true 4 (List.map (r_T_impl_Body true) x36.Bodies)]), (7, .list true 1 (List.map rS x41.1)), (8, .list true 1 (List.map (rL true 1 (rK .i64)) x61.Parents)), (9, .list true 4 (List.map (r_T_impl_Body true) x61.Bodies))] } ?_
                refine ops H' ?_
                refine opsV_nil ⟨rfl, shd [63, 1, 2, 3, 8, 9, 10, 11, 12, 13, 14, 59, 61] [(4, 4), (5, 5), (6, 6), (7, 7), (8, 8), (9, 9)] 10 rfl⟩
            have d10_0_0_1' : anyF X ?ops10_0_0 [0] [(1, 60, .pl (.agg [.v (.list false 1 (List.map (rL false 1 (rK .i64)) aW.Parents)), .v (.list false 4 (List.map (r_T_laws_Body false) aW.Bodies))])), (3, 62, .pl (.one (.v (.sc (.bool x62))))), (4, 63, .pl (.one (.v (.sc (.bool (!x62))))))] ?P10_0_0 { N := 127, np := 4, nx := 8, sl := [(1, .pl (.one (.v (.sc (.int .i64 aOnto))))), (2, .pl (.one (.v (.sc (.int .i64 aV))))), (3, .pl (.one (.ref 4 []))), (8, .pl (.one (.ref 5 []))), (9, .pl (.one (.v (.sc (.int .i64 x31.2.1))))), (10, .pl (.one (.v (.sc (.int .i64 x31.2.2))))), (11, .pl (.one (.ref 6 []))), (12, .pl (.one (.ref 7 []))), (13, .pl (.one (.v (.sc (.int .i64 x41.2.1))))), (14, .pl (.one (.v (.sc (.int .i64 x41.2.2))))), (59, .pl (.agg [.ref 6 [(0, 0, 0)], .ref 6 [(0, 0, 1)]]))], ob := [(4, .box true [.list false 1 (List.map (rL false 1 (rK .i64)) aW.Parents), .list false 4 (List.map (r_T_laws_Body false) aW.Bodies)]), (5, .list true 1 (List.map rS x31.1)), (6, .box true [.list true 1 (List.map (rL true 1 (rK .i64)) x36.Parents), .list true 4 (List.map (r_T_impl_Body true) x36.Bodies)]), (7, .list true 1 (List.map rS x41.1))] } := by
              refine fnode [1] [.q 1 60 (.pl (.agg [.v (.list false 1 (List.map (rL false 1 (rK .i64)) aW.Parents)), .v (.list false 4 (List.map (r_T_laws_Body false) aW.Bodies))])) [], .m 2 [1] [0, 1, 2] [(3, 62, .pl (.one (.v (.sc (.bool x62))))), (4, 63, .pl (.one (.v (.sc (.bool (!x62))))))]] [(1, 60), (3, 62), (4, 63)] [(1, true, [], []), (2, false, [1], [0, 1, 2])] ⟨?_, ?_, trivial⟩
              · refine obQ 0 { N := 127, np := 4, nx := 8, sl := [(1, .pl (.one (.v (.sc (.int .i64 aOnto))))), (2, .pl (.one (.v (.sc (.int .i64 aV))))), (3, .pl (.one (.ref 4 []))), (8, .pl (.one (.ref 5 []))), (9, .pl (.one (.v (.sc (.int .i64 x31.2.1))))), (10, .pl (.one (.v (.sc (.int .i64 x31.2.2))))), (11, .pl (.one (.ref 6 []))), (12, .pl (.one (.ref 7 []))), (13, .pl (.one (.v (.sc (.int .i64 x41.2.1))))), (14, .pl (.one (.v (.sc (.int .i64 x41.2.2))))), (59, .pl (.agg [.ref 6 [(0, 0, 0)], .ref 6 [(0, 0, 1)]]))], ob := [(4, .box true [.list false 1 (List.map (rL false 1 (rK .i64)) aW.Parents), .list false 4 (List.map (r_T_laws_Body false) aW.Bodies)]), (5, .list true 1 (List.map rS x31.1)), (6, .box true [.list true 1 (List.map (rL true 1 (rK .i64)) x36.Parents), .list true 4 (List.map (r_T_impl_Body true) x36.Bodies)]), (7, .list true 1 (List.map rS x41.1))] } ?_
                refine ops H' ?_
                refine opsV_nil ⟨rfl, shd [60, 1, 2, 3, 8, 9, 10, 11, 12, 13, 14, 59] [(4, 4), (5, 5), (6, 6), (7, 7)] 8 rfl⟩
              · refine obM { N := 127, np := 4, nx := 8, sl := [(60, .pl (.agg [.v (.list false 1 (List.map (rL false 1 (rK .i64)) aW.Parents)), .v (.list false 4 (List.map (r_T_laws_Body false) aW.Bodies))])), (1, .pl (.one (.v (.sc (.int .i64 aOnto))))), (2, .pl (.one (.v (.sc (.int .i64 aV))))), (3, .pl (.one (.ref 4 []))), (8, .pl (.one (.ref 5 []))), (9, .pl (.one (.v (.sc (.int .i64 x31.2.1))))), (10, .pl (.one (.v (.sc (.int .i64 x31.2.2))))), (11, .pl (.one (.ref 6 []))), (12, .pl (.one (.ref 7 []))), (13, .pl (.one (.v (.sc (.int .i64 x41.2.1))))), (14, .pl (.one (.v (.sc (.int .i64 x41.2.2))))), (59, .pl (.agg [.ref 6 [(0, 0, 0)], .ref 6 [(0, 0, 1)]]))], ob := [(4, .box true [.list false 1 (List.map (rL false 1 (rK .i64)) aW.Parents), .list false 4 (List.map (r_T_laws_Body false) aW.Bodies)]), (5, .list true 1 (List.map rS x31.1)), (6, .box true [.list true 1 (List.map (rL true 1 (rK .i64)) x36.Parents), .list true 4 (List.map (r_T_impl_Body true) x36.Bodies)]), (7, .list true 1 (List.map rS x41.1))] } ?_
                refine callG H' (fun _ => []) (W_laws_toWeave _ _ hy_x61) ?_
                refine opsV_nil ⟨rfl, .inl ⟨rfl, ?_⟩⟩
                exact anyFShd [1, 2, 3, 8, 9, 10, 11, 12, 13, 14, 59, 61] [(4, 4), (5, 5), (6, 6), (7, 7), (8, 8), (9, 9)] 10 d10_0_0_0'
            have d10_0_0_2' : anyF X ?ops10_0_0 [1, 2] [(3, 62, .pl (.one (.v (.sc (.bool x62))))), (4, 63, .pl (.one (.v (.sc (.bool (!x62))))))] ?P10_0_0 { N := 127, np := 4, nx := 10, sl := [(1, .pl (.one (.v (.sc (.int .i64 aOnto))))), (2, .pl (.one (.v (.sc (.int .i64 aV))))), (3, .pl (.one (.ref 4 []))), (8, .pl (.one (.ref 5 []))), (9, .pl (.one (.v (.sc (.int .i64 x31.2.1))))), (10, .pl (.one (.v (.sc (.int .i64 x31.2.2))))), (11, .pl (.one (.ref 6 []))), (12, .pl (.one (.ref 7 []))), (13, .pl (.one (.v (.sc (.int .i64 x41.2.1))))), (14, .pl (.one (.v (.sc (.int .i64 x41.2.2))))), (61, .pl (.agg [.ref 8 [], .ref 9 []]))], ob := [(4, .box true [.list false 1 (List.map (rL false 1 (rK .i64)) aW.Parents), .list false 4 (List.map (r_T_laws_Body false) aW.Bodies)]), (5, .list true 1 (List.map rS x31.1)), (6, .box true [.list true 1 (List.map (rL true 1 (rK .i64)) x36.Parents), .list true 4 (List.map (r_T_impl_Body true) x36.Bodies)]), (7, .list true 1 (List.map rS x41.1)), (8, .list true 1 (List.map (rL true 1 (rK .i64)) x61.Parents)), (9, .list true 4 (List.map (r_T_impl_Body true) x61.Bodies))] } := by
              refine fnode [] [.m 0 [] [0, 1, 2] [(3, 62, .pl (.one (.v (.sc (.bool x62))))), (4, 63, .pl (.one (.v (.sc (.bool (!x62))))))]] [(3, 62), (4, 63)] [(0, false, [], [0, 1, 2])] ⟨?_, trivial⟩
              · refine obM { N := 127, np := 4, nx := 10, sl := [(1, .pl (.one (.v (.sc (.int .i64 aOnto))))), (2, .pl (.one (.v (.sc (.int .i64 aV))))), (3, .pl (.one (.ref 4 []))), (8, .pl (.one (.ref 5 []))), (9, .pl (.one (.v (.sc (.int .i64 x31.2.1))))), (10, .pl (.one (.v (.sc (.int .i64 x31.2.2))))), (11, .pl (.one (.ref 6 []))), (12, .pl (.one (.ref 7 []))), (13, .pl (.one (.v (.sc (.int .i64 x41.2.1))))), (14, .pl (.one (.v (.sc (.int .i64 x41.2.2))))), (61, .pl (.agg [.ref 8 [], .ref 9 []]))], ob := [(4, .box true [.list false 1 (List.map (rL false 1 (rK .i64)) aW.Parents), .list false 4 (List.map (r_T_laws_Body false) aW.Bodies)]), (5, .list true 1 (List.map rS x31.1)), (6, .box true [.list true 1 (List.map (rL true 1 (rK .i64)) x36.Parents), .list true 4 (List.map (r_T_impl_Body true) x36.Bodies)]), (7, .list true 1 (List.map rS x41.1)), (8, .list true 1 (List.map (rL true 1 (rK .i64)) x61.Parents)), (9, .list true 4 (List.map (r_T_impl_Body true) x61.Bodies))] } ?_
                refine ops H' ?_
                refine opsV_nil ⟨rfl, .inl ⟨rfl, ?_⟩⟩
                exact anyFShd [1, 2, 3, 8, 9, 10, 11, 12, 13, 14, 59, 61] [(4, 4), (5, 5), (6, 6), (7, 7), (8, 8), (9, 9)] 10 d10_0_0_0'
            have d10_0_0_3' : anyF X ?ops10_0_0 [] [(1, 60, .pl (.agg [.v (.list false 1 (List.map (rL false 1 (rK .i64)) aW.Parents)), .v (.list false 4 (List.map (r_T_laws_Body false) aW.Bodies))])), (3, 62, .pl (.one (.v (.sc (.bool x62))))), (4, 63, .pl (.one (.v (.sc (.bool (!x62))))))] ?P10_0_0 { N := 127, np := 4, nx := 8, sl := [(1, .pl (.one (.v (.sc (.int .i64 aOnto))))), (2, .pl (.one (.v (.sc (.int .i64 aV))))), (3, .pl (.one (.ref 4 []))), (8, .pl (.one (.ref 5 []))), (9, .pl (.one (.v (.sc (.int .i64 x31.2.1))))), (10, .pl (.one (.v (.sc (.int .i64 x31.2.2))))), (11, .pl (.one (.ref 6 []))), (12, .pl (.one (.ref 7 []))), (13, .pl (.one (.v (.sc (.int .i64 x41.2.1))))), (14, .pl (.one (.v (.sc (.int .i64 x41.2.2)))))], ob := [(4, .box true [.list false 1 (List.map (rL false 1 (rK .i64)) aW.Parents), .list false 4 (List.map (r_T_laws_Body false) aW.Bodies)]), (5, .list true 1 (List.map rS x31.1)), (6, .box true [.list true 1 (List.map (rL true 1 (rK .i64)) x36.Parents), .list true 4 (List.map (r_T_impl_Body true) x36.Bodies)]), (7, .list true 1 (List.map rS x41.1))] } := by
              refine fnode [1] [.q 1 60 (.pl (.agg [.v (.list false 1 (List.map (rL false 1 (rK .i64)) aW.Parents)), .v (.list false 4 (List.map (r_T_laws_Body false) aW.Bodies))])) [], .m 0 [] [0] [(1, 60, .pl (.agg [.v (.list false 1 (List.map (rL false 1 (rK .i64)) aW.Parents)), .v (.list false 4 (List.map (r_T_laws_Body false) aW.Bodies))])), (3, 62, .pl (.one (.v (.sc (.bool x62))))), (4, 63, .pl (.one (.v (.sc (.bool (!x62))))))], .m 2 [1] [1, 2] [(3, 62, .pl (.one (.v (.sc (.bool x62))))), (4, 63, .pl (.one (.v (.sc (.bool (!x62))))))]] [(1, 60), (3, 62), (4, 63)] [(1, true, [], []), (0, false, [], [0]), (2, false, [1], [1, 2])] ⟨?_, ?_, ?_, trivial⟩
              · refine obQ 0 { N := 127, np := 4, nx := 8, sl := [(1, .pl (.one (.v (.sc (.int .i64 aOnto))))), (2, .pl (.one (.v (.sc (.int .i64 aV))))), (3, .pl (.one (.ref 4 []))), (8, .pl (.one (.ref 5 []))), (9, .pl (.one (.v (.sc (.int .i64 x31.2.1))))), (10, .pl (.one (.v (.sc (.int .i64 x31.2.2))))), (11, .pl (.one (.ref 6 []))), (12, .pl (.one (.ref 7 []))), (13, .pl (.one (.v (.sc (.int .i64 x41.2.1))))), (14, .pl (.one (.v (.sc (.int .i64 x41.2.2)))))], ob := [(4, .box true [.list false 1 (List.map (rL false 1 (rK .i64)) aW.Parents), .list false 4 (List.map (r_T_laws_Body false) aW.Bodies)]), (5, .list true 1 (List.map rS x31.1)), (6, .box true [.list true 1 (List.map (rL true 1 (rK .i64)) x36.Parents), .list true 4 (List.map (r_T_impl_Body true) x36.Bodies)]), (7, .list true 1 (List.map rS x41.1))] } ?_
                refine ops H' ?_
                refine opsV_nil ⟨rfl, shd [60, 1, 2, 3, 8, 9, 10, 11, 12, 13, 14] [(4, 4), (5, 5), (6, 6), (7, 7)] 8 rfl⟩
              · refine obM { N := 127, np := 4, nx := 8, sl := [(1, .pl (.one (.v (.sc (.int .i64 aOnto))))), (2, .pl (.one (.v (.sc (.int .i64 aV))))), (3, .pl (.one (.ref 4 []))), (8, .pl (.one (.ref 5 []))), (9, .pl (.one (.v (.sc (.int .i64 x31.2.1))))), (10, .pl (.one (.v (.sc (.int .i64 x31.2.2))))), (11, .pl (.one (.ref 6 []))), (12, .pl (.one (.ref 7 []))), (13, .pl (.one (.v (.sc (.int .i64 x41.2.1))))), (14, .pl (.one (.v (.sc (.int .i64 x41.2.2)))))], ob := [(4, .box true [.list false 1 (List.map (rL false 1 (rK .i64)) aW.Parents), .list false 4 (List.map (r_T_laws_Body false) aW.Bodies)]), (5, .list true 1 (List.map rS x31.1)), (6, .box true [.list true 1 (List.map (rL true 1 (rK .i64)) x36.Parents), .list true 4 (List.map (r_T_impl_Body true) x36.Bodies)]), (7, .list true 1 (List.map rS x41.1))] } ?_
                refine ops H' ?_
                refine opsV_nil ⟨rfl, .inl ⟨rfl, ?_⟩⟩
                exact anyFShd [1, 2, 3, 8, 9, 10, 11, 12, 13, 14, 59] [(4, 4), (5, 5), (6, 6), (7, 7)] 8 d10_0_0_1'
              · refine obM { N := 127, np := 4, nx := 8, sl := [(60, .pl (.agg [.v (.list false 1 (List.map (rL false 1 (rK .i64)) aW.Parents)), .v (.list false 4 (List.map (r_T_laws_Body false) aW.Bodies))])), (1, .pl (.one (.v (.sc (.int .i64 aOnto))))), (2, .pl (.one (.v (.sc (.int .i64 aV))))), (3, .pl (.one (.ref 4 []))), (8, .pl (.one (.ref 5 []))), (9, .pl (.one (.v (.sc (.int .i64 x31.2.1))))), (10, .pl (.one (.v (.sc (.int .i64 x31.2.2))))), (11, .pl (.one (.ref 6 []))), (12, .pl (.one (.ref 7 []))), (13, .pl (.one (.v (.sc (.int .i64 x41.2.1))))), (14, .pl (.one (.v (.sc (.int .i64 x41.2.2)))))], ob := [(4, .box true [.list false 1 (List.map (rL false 1 (rK .i64)) aW.Parents), .list false 4 (List.map (r_T_laws_Body false) aW.Bodies)]), (5, .list true 1 (List.map rS x31.1)), (6, .box true [.list true 1 (List.map (rL true 1 (rK .i64)) x36.Parents), .list true 4 (List.map (r_T_impl_Body true) x36.Bodies)]), (7, .list true 1 (List.map rS x41.1))] } ?_
                refine callG H' (fun _ => []) (W_laws_toWeave _ _ hy_x61) ?_
                refine opsV_nil ⟨rfl, .inl ⟨rfl, ?_⟩⟩
                exact anyFShd [1, 2, 3, 8, 9, 10, 11, 12, 13, 14, 61] [(4, 4), (5, 5), (6, 6), (7, 7), (8, 8), (9, 9)] 10 d10_0_0_2'
            exact anyFShd [1, 2, 3, 8, 9, 10, 11, 12, 13, 14] [(4, 4), (5, 5), (6, 6), (7, 7)] 8 d10_0_0_3'
          · rintro e' rfl
            refine contN ?_
            refine wpV_split (fun hc' => ?_) (fun hc' => ?_)
            · replace h0' := (ifT hc').symm.trans h0'
              refine wpV_seq1 ?_
              refine wpV_region ?_
              refine ops H' ?_
              refine opsN ?_
              refine retN ?_
              obtain rfl := Option.some.inj h0'
              exact outG H' rfl rfl
            · replace h0' := (ifF hc').symm.trans h0'
              refine skipN ?_
              refine wpV_seq1 ?_
              refine wpV_region ?_
              refine ops H' ?_
              refine opsN ?_
              refine wpV_seq1 ?_
              refine wpV_region ?_
              refine ops H' ?_
              obtain ⟨x66, hy', h0'⟩ := Option.bind_eq_some_iff.1 h0'
              refine callG H' (fun _ => [0, 1]) (W_laws_markWeave _ _ _ hy') ?_
              refine ops H' ?_
              refine opsN ?_
              refine wpV_seq1 ?_
              refine wpV_seq1 ?_
              refine wpV_region ?_
              refine ops H' ?_
              obtain ⟨b_2, gh0', h0'⟩ := Option.bind_eq_some_iff.1 h0'
              refine opsV_cut 5 (fun e' => e' = { N := 127, np := 4, nx := 7, sl := [(1, .pl (.one (.v (.sc (.int .i64 aOnto))))), (2, .pl (.one (.v (.sc (.int .i64 aV))))), (3, .pl (.one (.ref 4 []))), (8, .pl (.one (.ref 5 []))), (9, .pl (.one (.v (.sc (.int .i64 x31.2.1))))), (10, .pl (.one (.v (.sc (.int .i64 x31.2.2))))), (12, .pl (.one (.ref 6 []))), (13, .pl (.one (.v (.sc (.int .i64 x41.2.1))))), (14, .pl (.one (.v (.sc (.int .i64 x41.2.2))))), (74, .pl (.one (.v (.sc (.bool b_2)))))], ob := [(4, .box true [.list false 1 (List.map (rL false 1 (rK .i64)) aW.Parents), .list false 4 (List.map (r_T_laws_Body false) aW.Bodies)]), (5, .list true 1 (List.map rS x31.1)), (6, .list true 1 (List.map rS x41.1))] }) ?_ ?_
              · simp only [List.take_succ_cons, List.take_zero]
                refine opsV_sp (fun hc' => ?_) (fun hc' => ?_)
                · replace gh0' := (ifF hc').symm.trans gh0'
                  refine ops H' ?_
                  obtain ⟨x72, hy', gh0'⟩ := Option.bind_eq_some_iff.1 gh0'
                  refine callG H' (fun _ => []) (W_laws_eqStringS _ _ _ hy') ?_
                  refine ops H' ?_
                  obtain rfl := Option.some.inj gh0'
                  refine opsV_nil ?_
                  exact ⟨rfl, shd [1, 2, 3, 8, 9, 10, 12, 13, 14, 74] [(4, 4), (5, 5), (7, 6)] 7 rfl⟩
                · replace gh0' := (ifT hc').symm.trans gh0'
                  refine ops H' ?_
                  obtain rfl := Option.some.inj gh0'
                  refine opsV_nil ?_
                  exact ⟨rfl, shd [1, 2, 3, 8, 9, 10, 12, 13, 14, 74] [(4, 4), (5, 5), (7, 6)] 7 rfl⟩
              · rintro e' rfl
                simp only [List.drop_succ_cons, List.drop_zero]
                refine ops H' ?_
                obtain ⟨b_3, gh0', h0'⟩ := Option.bind_eq_some_iff.1 h0'
                refine opsV_cut 4 (fun e' => e' = { N := 127, np := 4, nx := 7, sl := [(1, .pl (.one (.v (.sc (.int .i64 aOnto))))), (2, .pl (.one (.v (.sc (.int .i64 aV))))), (3, .pl (.one (.ref 4 []))), (8, .pl (.one (.ref 5 []))), (9, .pl (.one (.v (.sc (.int .i64 x31.2.1))))), (10, .pl (.one (.v (.sc (.int .i64 x31.2.2))))), (12, .pl (.one (.ref 6 []))), (14, .pl (.one (.v (.sc (.int .i64 x41.2.2))))), (79, .pl (.one (.v (.sc (.bool b_3)))))], ob := [(4, .box true [.list false 1 (List.map (rL false 1 (rK .i64)) aW.Parents), .list false 4 (List.map (r_T_laws_Body false) aW.Bodies)]), (5, .list true 1 (List.map rS x31.1)), (6, .list true 1 (List.map rS x41.1))] }) ?_ ?_
                · simp only [List.take_succ_cons, List.take_zero]
                  refine opsV_sp (fun hc' => ?_) (fun hc' => ?_)
                  · replace gh0' := (ifF hc').symm.trans gh0'
                    refine ops H' ?_
                    obtain rfl := Option.some.inj gh0'
                    refine opsV_nil ?_
                    exact ⟨rfl, shd [1, 2, 3, 8, 9, 10, 12, 14, 79] [(4, 4), (5, 5), (6, 6)] 7 rfl⟩
                  · replace gh0' := (ifT hc').symm.trans gh0'
                    refine ops H' ?_
                    obtain rfl := Option.some.inj gh0'
                    refine opsV_nil ?_
                    exact ⟨rfl, shd [1, 2, 3, 8, 9, 10, 12, 14, 79] [(4, 4), (5, 5), (6, 6)] 7 rfl⟩
                · rintro e' rfl
                  simp only [List.drop_succ_cons, List.drop_zero]
                  refine ops H' ?_
                  obtain ⟨b_4, gh0', h0'⟩ := Option.bind_eq_some_iff.1 h0'
                  refine opsV_cut 4 (fun e' => e' = { N := 127, np := 4, nx := 7, sl := [(1, .pl (.one (.v (.sc (.int .i64 aOnto))))), (2, .pl (.one (.v (.sc (.int .i64 aV))))), (3, .pl (.one (.ref 4 []))), (8, .pl (.one (.ref 5 []))), (9, .pl (.one (.v (.sc (.int .i64 x31.2.1))))), (10, .pl (.one (.v (.sc (.int .i64 x31.2.2))))), (12, .pl (.one (.ref 6 []))), (84, .pl (.one (.v (.sc (.bool b_4)))))], ob := [(4, .box true [.list false 1 (List.map (rL false 1 (rK .i64)) aW.Parents), .list false 4 (List.map (r_T_laws_Body false) aW.Bodies)]), (5, .list true 1 (List.map rS x31.1)), (6, .list true 1 (List.map rS x41.1))] }) ?_ ?_
                  · simp only [List.take_succ_cons, List.take_zero]
                    refine opsV_sp (fun hc' => ?_) (fun hc' => ?_)
                    · replace gh0' := (ifF hc').symm.trans gh0'
                      refine ops H' ?_
                      obtain rfl := Option.some.inj gh0'
                      refine opsV_nil ?_
                      exact ⟨rfl, shd [1, 2, 3, 8, 9, 10, 12, 84] [(4, 4), (5, 5), (6, 6)] 7 rfl⟩
                    · replace gh0' := (ifT hc').symm.trans gh0'
                      refine ops H' ?_
                      obtain rfl := Option.some.inj gh0'
                      refine opsV_nil ?_
                      exact ⟨rfl, shd [1, 2, 3, 8, 9, 10, 12, 84] [(4, 4), (5, 5), (6, 6)] 7 rfl⟩
                  · rintro e' rfl
                    simp only [List.drop_succ_cons, List.drop_zero]
                    refine opsN ?_
                    refine wpV_split (fun hc' => ?_) (fun hc' => ?_)
                    · replace h0' := (ifT hc').symm.trans h0'
                      refine wpV_seq1 ?_
                      refine wpV_region ?_
                      refine ops H' ?_
                      refine opsN ?_
                      refine retN ?_
                      obtain rfl := Option.some.inj h0'
                      exact outG H' rfl rfl
                    · replace h0' := (ifF hc').symm.trans h0'
                      refine skipN ?_
                      refine wpV_seq1 ?_
                      refine wpV_region ?_
                      refine ops H' ?_
                      refine opsN ?_
                      refine wpV_seq1 ?_
                      refine wpV_region ?_
                      refine ops H' ?_
                      obtain ⟨x87, hy', h0'⟩ := Option.bind_eq_some_iff.1 h0'
                      refine callG H' (fun _ => [0]) (W_laws_markStringS _ _ _ hy') ?_
                      refine ops H' ?_
                      refine opsN ?_
                      refine wpV_seq1 ?_
                      refine wpV_region ?_
                      refine ops H' ?_
                      refine opsN ?_
                      refine wpV_seq1 ?_
                      refine wpV_region ?_
                      refine ops H' ?_
                      obtain ⟨x90, hy', h0'⟩ := Option.bind_eq_some_iff.1 h0'
                      refine callG H' (fun _ => []) (W_laws_heldStringS _ _ _ hy') ?_
                      refine ops H' ?_
                      refine opsN ?_
                      refine wpV_seq1 ?_
                      refine wpV_seq1 ?_
                      refine wpV_region ?_
                      refine ops H' ?_
                      refine opsN ?_
                      refine wpV_split (fun hc' => ?_) (fun hc' => ?_)
                      · replace h0' := (ifT hc').symm.trans h0'
                        refine wpV_seq1 ?_
                        refine wpV_region ?_
                        refine ops H' ?_
                        refine opsN ?_
                        refine retN ?_
                        obtain rfl := Option.some.inj h0'
                        exact outG H' rfl rfl
                      · replace h0' := (ifF hc').symm.trans h0'
                        refine skipN ?_
                        refine wpV_seq1 ?_
                        refine wpV_seq1 ?_
                        refine wpV_region ?_
                        refine ops H' ?_
                        refine opsN ?_
                        refine wpV_split (fun hc' => ?_) (fun hc' => ?_)
                        · replace h0' := (ifT hc').symm.trans h0'
                          refine wpV_seq1 ?_
                          refine wpV_region ?_
                          refine ops H' ?_
                          refine opsN ?_
                          refine retN ?_
                          obtain rfl := Option.some.inj h0'
                          exact outG H' rfl rfl
                        · replace h0' := (ifF hc').symm.trans h0'
                          refine skipN ?_
                          refine wpV_seq1 ?_
                          refine wpV_region ?_
                          refine ops H' ?_
                          obtain ⟨x98, hy', h0'⟩ := Option.bind_eq_some_iff.1 h0'
                          refine callG H' (fun _ => []) (W_laws_toWeave _ _ hy') ?_
                          refine ops H' ?_
                          obtain ⟨x101, hy', h0'⟩ := Option.bind_eq_some_iff.1 h0'
                          refine callG H' (fun _ => []) (W_impl_UndoOn _ _ _ _ hy') ?_
                          refine ops H' ?_
                          refine opsN ?_
                          refine wpV_seq1 ?_
                          refine wpV_seq1 ?_
                          refine wpV_region ?_
                          refine ops H' ?_
                          obtain ⟨x107, hy', h0'⟩ := Option.bind_eq_some_iff.1 h0'
                          refine callG H' (fun _ => []) (W_laws_eqStringS _ _ _ hy') ?_
                          refine ops H' ?_
                          obtain ⟨b_5, gh0', h0'⟩ := Option.bind_eq_some_iff.1 h0'
                          refine opsV_cut 4 (fun e' => e' = { N := 127, np := 4, nx := 5, sl := [(10, .pl (.one (.v (.sc (.int .i64 x31.2.2))))), (12, .pl (.one (.ref 4 []))), (16, .pl (.one (.v (.sc (.int .i64 x87.1))))), (20, .pl (.one (.v (.sc (.int .i64 x101.2.2))))), (113, .pl (.one (.v (.sc (.bool b_5)))))], ob := [(4, .list true 1 (List.map rS x87.2))] }) ?_ ?_
                          · simp only [List.take_succ_cons, List.take_zero]
                            refine opsV_sp (fun hc' => ?_) (fun hc' => ?_)
                            · replace gh0' := (ifF hc').symm.trans gh0'
                              refine ops H' ?_
                              obtain rfl := Option.some.inj gh0'
                              refine opsV_nil ?_
                              exact ⟨rfl, shd [10, 12, 16, 20, 113] [(6, 4)] 5 rfl⟩
                            · replace gh0' := (ifT hc').symm.trans gh0'
                              refine ops H' ?_
                              obtain rfl := Option.some.inj gh0'
                              refine opsV_nil ?_
                              exact ⟨rfl, shd [10, 12, 16, 20, 113] [(6, 4)] 5 rfl⟩
                          · rintro e' rfl
                            simp only [List.drop_succ_cons, List.drop_zero]
                            refine ops H' ?_
                            obtain ⟨b_6, gh0', h0'⟩ := Option.bind_eq_some_iff.1 h0'
                            refine opsV_cut 4 (fun e' => e' = { N := 127, np := 4, nx := 5, sl := [(12, .pl (.one (.ref 4 []))), (16, .pl (.one (.v (.sc (.int .i64 x87.1))))), (118, .pl (.one (.v (.sc (.bool b_6)))))], ob := [(4, .list true 1 (List.map rS x87.2))] }) ?_ ?_
                            · simp only [List.take_succ_cons, List.take_zero]
                              refine opsV_sp (fun hc' => ?_) (fun hc' => ?_)
                              · replace gh0' := (ifF hc').symm.trans gh0'
                                refine ops H' ?_
                                obtain rfl := Option.some.inj gh0'
                                refine opsV_nil ?_
                                exact ⟨rfl, shd [12, 16, 118] [(4, 4)] 5 rfl⟩
                              · replace gh0' := (ifT hc').symm.trans gh0'
                                refine ops H' ?_
                                obtain rfl := Option.some.inj gh0'
                                refine opsV_nil ?_
                                exact ⟨rfl, shd [12, 16, 118] [(4, 4)] 5 rfl⟩
                            · rintro e' rfl
                              simp only [List.drop_succ_cons, List.drop_zero]
                              refine opsN ?_
                              refine wpV_split (fun hc' => ?_) (fun hc' => ?_)
                              · replace h0' := (ifT hc').symm.trans h0'
                                refine wpV_seq1 ?_
                                refine wpV_region ?_
                                refine ops H' ?_
                                refine opsN ?_
                                refine retN ?_
                                obtain rfl := Option.some.inj h0'
                                exact outG H' rfl rfl
                              · replace h0' := (ifF hc').symm.trans h0'
                                refine skipN ?_
                                refine wpV_seq1 ?_
                                refine wpV_region ?_
                                refine ops H' ?_
                                refine opsN ?_
                                refine wpV_seq1 ?_
                                refine wpV_region ?_
                                refine ops H' ?_
                                obtain ⟨x121, hy', h0'⟩ := Option.bind_eq_some_iff.1 h0'
                                refine callG H' (fun _ => []) (W_laws_heldStringS _ _ _ hy') ?_
                                refine ops H' ?_
                                refine opsN ?_
                                refine wpV_seq1 ?_
                                refine wpV_seq1 ?_
                                refine wpV_region ?_
                                refine ops H' ?_
                                refine opsN ?_
                                refine wpV_split (fun hc' => ?_) (fun hc' => ?_)
                                · replace h0' := (ifT hc').symm.trans h0'
                                  refine wpV_seq1 ?_
                                  refine wpV_region ?_
                                  refine ops H' ?_
                                  refine opsN ?_
                                  refine retN ?_
                                  obtain rfl := Option.some.inj h0'
                                  exact outG H' rfl rfl
                                · replace h0' := (ifF hc').symm.trans h0'
                                  refine skipN ?_
                                  refine wpV_seq1 ?_
                                  refine wpV_seq1 ?_
                                  refine wpV_region ?_
                                  refine ops H' ?_
                                  refine opsN ?_
                                  refine wpV_split (fun hc' => ?_) (fun hc' => ?_)
                                  · replace h0' := (ifT hc').symm.trans h0'
                                    refine wpV_seq1 ?_
                                    refine wpV_region ?_
                                    refine ops H' ?_
                                    refine opsN ?_
                                    refine retN ?_
                                    obtain rfl := Option.some.inj h0'
                                    exact outG H' rfl rfl
                                  · replace h0' := (ifF hc').symm.trans h0'
                                    refine skipN ?_
                                    refine wpV_seq1 ?_
                                    refine wpV_region ?_
                                    refine ops H' ?_
                                    refine opsN ?_
                                    refine retN ?_
                                    obtain rfl := Option.some.inj h0'
                                    exact outG H' rfl rfl
end Go.TV.KFnExactUndoOn
