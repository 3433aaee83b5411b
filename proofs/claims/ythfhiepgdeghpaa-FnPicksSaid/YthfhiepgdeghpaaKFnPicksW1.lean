/- Walks. -/
import Derived.Test.YthfhiepgdeghpaaKFnPicksE
import Derived.Test.YthfhiepgdeghpaaKFnPicksW0
set_option linter.unusedVariables false
set_option linter.unusedSimpArgs false
set_option maxHeartbeats 8000000
set_option maxRecDepth 100000
namespace Go.TV.KFnPicks
attribute [local irreducible] anyV wpV opsV Does thenV blockV RetL quV seqV
open Go.Proofs.Try Go.TV.F
theorem W_spec_l04Table (a : List ByteArray) (b : List ByteArray) (r' : (List (List Int))) (h0' : spec_l04Table a b = some r') : Fn X 206 [.one (.list false 1 (List.map rS a)), .one (.list false 1 (List.map rS b))] [.one (.list true 1 (List.map (rL true 1 (rK .i64)) r'))] [] := by
  have H' := And.intro t3 (And.intro t9 (And.intro t38 (And.intro t44 (And.intro t55 (And.intro R_Li64 (And.intro R_i64 (R_s)))))))
  unfold spec_l04Table at h0'
  refine Fn.start (fn := f206) (N := 92) (res := [.tmp 4]) rfl rfl rfl rfl rfl (by simp) ?_
  refine enterG H' ?_
  refine wpV_seq1 ?_
  refine wpV_region ?_
  refine ops H' ?_
  refine opsN ?_
  refine wpV_seq1 ?_
  refine wpV_region ?_
  obtain ⟨x12, hv', h0'⟩ := Option.bind_eq_some_iff.1 h0'
  have H' := And.intro (mklR_f (rL true 1 (rK .i64)) [.list true 1 []] (by rfl) hv') H'
  refine ops H' ?_
  refine opsN ?_
  refine wpV_seqJ (fun e' => ∃ t, spec_l04Table_j1 t = some r' ∧ e' = { N := 92, np := 2, nx := 3, sl := [(5, .pl (.one (.ref 2 [])))], ob := [(2, .list true 1 (List.map (rL true 1 (rK .i64)) t))] }) ?_ ?_
  · refine wpV_seq1 ?_
    refine wpV_region ?_
    refine ops H' ?_
    refine opsN ?_
    obtain ⟨p, hl', h0'⟩ := Option.bind_eq_some_iff.1 h0'
    refine wpV_block ?_
    refine wpV_loopM (fun s' e' => ∃ i t_1, s' = (i, t_1) ∧ e' = { N := 92, np := 2, nx := 3, sl := [(0, .pl (.one (.v (.list false 1 (List.map rS a))))), (1, .pl (.one (.v (.list false 1 (List.map rS b))))), (5, .pl (.one (.ref 2 []))), (6, .pl (.one (.v (.sc (.int .i64 i)))))], ob := [(2, .list true 1 (List.map (rL true 1 (rK .i64)) t_1))] }) hl' (shd [0, 1, 5, 6] [(3, 2)] 3 ⟨_, _, rfl, rfl⟩) ?_
    rintro s' y1' e' h1' ⟨i, t_1, rfl, rfl⟩
    replace h1' : spec_l04Table_l1 a b i t_1 = some y1' := h1'
    unfold spec_l04Table_l1 at h1'
    refine wpV_seq1 ?_
    refine wpV_seq1 ?_
    refine wpV_region ?_
    refine ops H' ?_
    refine opsN ?_
    refine wpV_split (fun hc' => ?_) (fun hc' => ?_)
    · replace h1' := (ifT hc').symm.trans h1'
      refine skipN ?_
      refine wpV_seqJ (fun e' => ∃ t_2, spec_l04Table_j2 i t_2 = some y1' ∧ e' = { N := 92, np := 2, nx := 3, sl := [(0, .pl (.one (.v (.list false 1 (List.map rS a))))), (1, .pl (.one (.v (.list false 1 (List.map rS b))))), (5, .pl (.one (.ref 2 []))), (6, .pl (.one (.v (.sc (.int .i64 i)))))], ob := [(2, .list true 1 (List.map (rL true 1 (rK .i64)) t_2))] }) ?_ ?_
      · refine wpV_block ?_
        refine wpV_seq1 ?_
        refine wpV_region ?_
        obtain ⟨x24, hv', h1'⟩ := Option.bind_eq_some_iff.1 h1'
        have H' := And.intro (mkl_f hv') H'
        obtain ⟨x, hv', h1'⟩ := Option.bind_eq_some_iff.1 h1'
        have H' := And.intro (geti_f hv') H'
        refine ops H' ?_
        refine opsN ?_
        refine wpV_seq1 ?_
        refine wpV_region ?_
        refine ops H' ?_
        refine opsN ?_
        obtain ⟨p_1, hl', h1'⟩ := Option.bind_eq_some_iff.1 h1'
        refine wpV_block ?_
        refine wpV_loopM (fun s' e' => ∃ j t_3, s' = (j, t_3) ∧ e' = { N := 92, np := 2, nx := 3, sl := [(0, .pl (.one (.v (.list false 1 (List.map rS a))))), (1, .pl (.one (.v (.list false 1 (List.map rS b))))), (5, .pl (.one (.ref 2 []))), (6, .pl (.one (.v (.sc (.int .i64 i))))), (7, .pl (.one (.v (.sc (.int .i64 j)))))], ob := [(2, .list true 1 (List.map (rL true 1 (rK .i64)) t_3))] }) hl' (shd [0, 1, 5, 6, 7] [(2, 2)] 3 ⟨_, _, rfl, rfl⟩) ?_
        rintro s' y2' e' h2' ⟨j, t_3, rfl, rfl⟩
        replace h2' : spec_l04Table_l2 a b i j t_3 = some y2' := h2'
        unfold spec_l04Table_l2 at h2'
        refine wpV_seq1 ?_
        refine wpV_seq1 ?_
        refine wpV_region ?_
        refine ops H' ?_
        obtain ⟨b_1, gh2', h2'⟩ := Option.bind_eq_some_iff.1 h2'
        refine opsV_cut 5 (fun e' => e' = { N := 92, np := 2, nx := 3, sl := [(0, .pl (.one (.v (.list false 1 (List.map rS a))))), (1, .pl (.one (.v (.list false 1 (List.map rS b))))), (5, .pl (.one (.ref 2 []))), (6, .pl (.one (.v (.sc (.int .i64 i))))), (7, .pl (.one (.v (.sc (.int .i64 j))))), (36, .pl (.one (.v (.sc (.bool b_1)))))], ob := [(2, .list true 1 (List.map (rL true 1 (rK .i64)) t_3))] }) ?_ ?_
        · simp only [List.take_succ_cons, List.take_zero]
          refine opsV_sp (fun hc' => ?_) (fun hc' => ?_)
          · replace gh2' := (ifT hc').symm.trans gh2'
            refine ops H' ?_
            obtain rfl := Option.some.inj gh2'
            refine opsV_nil ?_
            exact ⟨rfl, shd [0, 1, 5, 6, 7, 36] [(2, 2)] 3 rfl⟩
          · replace gh2' := (ifF hc').symm.trans gh2'
            refine ops H' ?_
            obtain rfl := Option.some.inj gh2'
            refine opsV_nil ?_
            exact ⟨rfl, shd [0, 1, 5, 6, 7, 36] [(2, 2)] 3 rfl⟩
        · rintro e' rfl
          simp only [List.drop_succ_cons, List.drop_zero]
          refine opsN ?_
          refine wpV_split (fun hc' => ?_) (fun hc' => ?_)
          · replace h2' := (ifT hc').symm.trans h2'
            refine skipN ?_
            refine wpV_seq1 ?_
            refine wpV_block ?_
            refine wpV_seq1 ?_
            refine wpV_region ?_
            obtain ⟨x_1, hv', h2'⟩ := Option.bind_eq_some_iff.1 h2'
            have H' := And.intro (geti_f hv') H'
            obtain ⟨x_2, hv', h2'⟩ := Option.bind_eq_some_iff.1 h2'
            have H' := And.intro (geti_f hv') H'
            refine ops H' ?_
            refine opsN ?_
            refine wpV_seqJ (fun e' => ∃ x_3, spec_l04Table_j3 a b i j t_3 x_3 = some y2' ∧ e' = { N := 92, np := 2, nx := 3, sl := [(0, .pl (.one (.v (.list false 1 (List.map rS a))))), (1, .pl (.one (.v (.list false 1 (List.map rS b))))), (5, .pl (.one (.ref 2 []))), (6, .pl (.one (.v (.sc (.int .i64 i))))), (7, .pl (.one (.v (.sc (.int .i64 j))))), (8, .pl (.one (.v (.sc (.int .i64 x_3)))))], ob := [(2, .list true 1 (List.map (rL true 1 (rK .i64)) t_3))] }) ?_ ?_
            · refine wpV_seq1 ?_
              refine wpV_region ?_
              obtain ⟨x_11, hv', h2'⟩ := Option.bind_eq_some_iff.1 h2'
              have H' := And.intro (geti_f hv') H'
              obtain ⟨x_12, hv', h2'⟩ := Option.bind_eq_some_iff.1 h2'
              have H' := And.intro (geti_f hv') H'
              refine ops H' ?_
              refine opsN ?_
              refine wpV_split (fun hc' => ?_) (fun hc' => ?_)
              · replace h2' := (ifT hc').symm.trans h2'
                refine wpV_region ?_
                refine ops H' ?_
                refine opsN ?_
                exact shd [0, 1, 5, 6, 7, 8] [(2, 2)] 3 ⟨_, h2', rfl⟩
              · replace h2' := (ifF hc').symm.trans h2'
                refine skipN ?_
                exact shd [0, 1, 5, 6, 7, 8] [(2, 2)] 3 ⟨_, h2', rfl⟩
            · rintro e' ⟨x_3, h2', rfl⟩
              unfold spec_l04Table_j3 at h2'
              refine wpV_seqJ (fun e' => ∃ x_4, spec_l04Table_j4 i j t_3 x_4 = some y2' ∧ e' = { N := 92, np := 2, nx := 3, sl := [(0, .pl (.one (.v (.list false 1 (List.map rS a))))), (1, .pl (.one (.v (.list false 1 (List.map rS b))))), (5, .pl (.one (.ref 2 []))), (6, .pl (.one (.v (.sc (.int .i64 i))))), (7, .pl (.one (.v (.sc (.int .i64 j))))), (8, .pl (.one (.v (.sc (.int .i64 x_4)))))], ob := [(2, .list true 1 (List.map (rL true 1 (rK .i64)) t_3))] }) ?_ ?_
              · refine wpV_seq1 ?_
                refine regQ ?_
                obtain ⟨x_7, hv', h2'⟩ := Option.bind_eq_some_iff.1 h2'
                have H' := And.intro (geti_f hv') H'
                obtain ⟨x_8, hv', h2'⟩ := Option.bind_eq_some_iff.1 h2'
                have H' := And.intro (geti_f hv') H'
                refine ops H' ?_
                refine quN ?_
                refine wpV_split (fun hc' => ?_) (fun hc' => ?_)
                · replace h2' := (ifT hc').symm.trans h2'
                  refine wpV_region ?_
                  obtain ⟨x_9, hv', h2'⟩ := Option.bind_eq_some_iff.1 h2'
                  have H' := And.intro (geti_f hv') H'
                  obtain ⟨x_10, hv', h2'⟩ := Option.bind_eq_some_iff.1 h2'
                  have H' := And.intro (geti_f hv') H'
                  refine ops H' ?_
                  refine opsN ?_
                  exact shd [0, 1, 5, 6, 7, 8] [(2, 2)] 3 ⟨_, h2', rfl⟩
                · replace h2' := (ifF hc').symm.trans h2'
                  refine skipN ?_
                  exact shd [0, 1, 5, 6, 7, 8] [(2, 2)] 3 ⟨_, h2', rfl⟩
              · rintro e' ⟨x_4, h2', rfl⟩
                unfold spec_l04Table_j4 at h2'
                refine wpV_region ?_
                obtain ⟨x_5, hv', h2'⟩ := Option.bind_eq_some_iff.1 h2'
                have H' := And.intro (geti_f hv') H'
                obtain ⟨x_6, hv', h2'⟩ := Option.bind_eq_some_iff.1 h2'
                have H' := And.intro (geti_f hv') H'
                refine ops H' ?_
                refine opsN ?_
                refine wpV_region ?_
                refine ops H' ?_
                refine opsN ?_
                obtain rfl := Option.some.inj h2'
                exact shd [0, 1, 5, 6, 7] [(2, 2)] 3 ⟨_, rfl, _, _, rfl, rfl⟩
          · replace h2' := (ifF hc').symm.trans h2'
            refine exitN ?_
            obtain rfl := Option.some.inj h2'
            refine ⟨_, rfl, fun hr' => ?_⟩
            subst hr'
            exact shd [0, 1, 5, 6] [(2, 2)] 3 ⟨_, h1', rfl⟩
      · rintro e' ⟨t_2, h1', rfl⟩
        unfold spec_l04Table_j2 at h1'
        refine wpV_region ?_
        refine ops H' ?_
        refine opsN ?_
        obtain rfl := Option.some.inj h1'
        exact shd [0, 1, 5, 6] [(2, 2)] 3 ⟨_, rfl, _, _, rfl, rfl⟩
    · replace h1' := (ifF hc').symm.trans h1'
      refine exitN ?_
      obtain rfl := Option.some.inj h1'
      refine ⟨_, rfl, fun hr' => ?_⟩
      subst hr'
      exact shd [5] [(2, 2)] 3 ⟨_, h0', rfl⟩
  · rintro e' ⟨t, h0', rfl⟩
    unfold spec_l04Table_j1 at h0'
    refine wpV_seq1 ?_
    refine wpV_region ?_
    refine ops H' ?_
    refine opsN ?_
    refine retN ?_
    obtain rfl := Option.some.inj h0'
    exact outG H' rfl rfl
theorem W_spec_Align (a : List ByteArray) (b : List ByteArray) (r' : (List Int)) (h0' : spec_Align a b = some r') : Fn X 193 [.one (.list false 1 (List.map rS a)), .one (.list false 1 (List.map rS b))] [.one (.list true 1 (List.map (rK .i64) r'))] [] := by
  have H' := And.intro t3 (And.intro t9 (And.intro t38 (And.intro t44 (And.intro t55 (And.intro R_Li64 (And.intro R_i64 (R_s)))))))
  unfold spec_Align at h0'
  refine Fn.start (fn := f193) (N := 83) (res := [.tmp 4]) rfl rfl rfl rfl rfl (by simp) ?_
  refine enterG H' ?_
  refine wpV_seq1 ?_
  refine wpV_region ?_
  refine ops H' ?_
  refine opsN ?_
  refine wpV_seq1 ?_
  refine wpV_region ?_
  refine ops H' ?_
  refine opsN ?_
  refine wpV_seq1 ?_
  refine wpV_seq1 ?_
  refine wpV_region ?_
  refine ops H' ?_
  obtain ⟨x11, hy', h0'⟩ := Option.bind_eq_some_iff.1 h0'
  refine callG H' (fun _ => []) (W_spec_l04Ok _ _ hy') ?_
  refine ops H' ?_
  obtain ⟨b_1, gh0', h0'⟩ := Option.bind_eq_some_iff.1 h0'
  refine opsV_cut 4 (fun e' => e' = { N := 83, np := 2, nx := 3, sl := [(0, .pl (.one (.v (.list false 1 (List.map rS a))))), (1, .pl (.one (.v (.list false 1 (List.map rS b))))), (5, .pl (.one (.ref 2 []))), (17, .pl (.one (.v (.sc (.bool b_1)))))], ob := [(2, .list true 1 (List.map (rK .i64) []))] }) ?_ ?_
  · simp only [List.take_succ_cons, List.take_zero]
    refine opsV_sp (fun hc' => ?_) (fun hc' => ?_)
    · replace gh0' := (ifF hc').symm.trans gh0'
      refine ops H' ?_
      obtain ⟨x15, hy', gh0'⟩ := Option.bind_eq_some_iff.1 gh0'
      refine callG H' (fun _ => []) (W_spec_l04Ok _ _ hy') ?_
      refine ops H' ?_
      obtain rfl := Option.some.inj gh0'
      refine opsV_nil ?_
      exact ⟨rfl, shd [0, 1, 5, 17] [(3, 2)] 3 rfl⟩
    · replace gh0' := (ifT hc').symm.trans gh0'
      refine ops H' ?_
      obtain rfl := Option.some.inj gh0'
      refine opsV_nil ?_
      exact ⟨rfl, shd [0, 1, 5, 17] [(3, 2)] 3 rfl⟩
  · rintro e' rfl
    simp only [List.drop_succ_cons, List.drop_zero]
    refine opsN ?_
    refine wpV_split (fun hc' => ?_) (fun hc' => ?_)
    · replace h0' := (ifT hc').symm.trans h0'
      refine wpV_seq1 ?_
      refine wpV_region ?_
      refine ops H' ?_
      refine opsN ?_
      refine retN ?_
      obtain rfl := Option.some.inj h0'
      exact outG H' rfl rfl
    · replace h0' := (ifF hc').symm.trans h0'
      refine skipN ?_
      refine wpV_seq1 ?_
      refine wpV_region ?_
      refine ops H' ?_
      obtain ⟨x21, hy', h0'⟩ := Option.bind_eq_some_iff.1 h0'
      refine callG H' (fun _ => []) (W_spec_l04Table _ _ _ hy') ?_
      refine ops H' ?_
      refine opsN ?_
      refine wpV_seq1 ?_
      refine wpV_region ?_
      refine ops H' ?_
      refine opsN ?_
      refine wpV_seq1 ?_
      refine wpV_region ?_
      refine ops H' ?_
      refine opsN ?_
      refine wpV_seqJ (fun e' => ∃ j out_, spec_Align_j1 b j out_ = some r' ∧ e' = { N := 83, np := 2, nx := 3, sl := [(1, .pl (.one (.v (.list false 1 (List.map rS b))))), (5, .pl (.one (.ref 2 []))), (8, .pl (.one (.v (.sc (.int .i64 j)))))], ob := [(2, .list true 1 (List.map (rK .i64) out_))] }) ?_ ?_
      · obtain ⟨p_1, hl', h0'⟩ := Option.bind_eq_some_iff.1 h0'
        refine wpV_block ?_
        refine wpV_loopM (fun s' e' => ∃ i j_2 out__3, s' = (i, j_2, out__3) ∧ e' = { N := 83, np := 2, nx := 4, sl := [(0, .pl (.one (.v (.list false 1 (List.map rS a))))), (1, .pl (.one (.v (.list false 1 (List.map rS b))))), (5, .pl (.one (.ref 2 []))), (6, .pl (.one (.ref 3 []))), (7, .pl (.one (.v (.sc (.int .i64 i))))), (8, .pl (.one (.v (.sc (.int .i64 j_2)))))], ob := [(2, .list true 1 (List.map (rK .i64) out__3)), (3, .list true 1 (List.map (rL true 1 (rK .i64)) x21))] }) hl' (shd [0, 1, 5, 6, 7, 8] [(2, 2), (3, 3)] 4 ⟨_, _, _, rfl, rfl⟩) ?_
        rintro s' y1' e' h1' ⟨i, j_2, out__3, rfl, rfl⟩
        replace h1' : spec_Align_l2 a b x21 i j_2 out__3 = some y1' := h1'
        unfold spec_Align_l2 at h1'
        refine wpV_seq1 ?_
        refine wpV_seq1 ?_
        refine wpV_region ?_
        refine ops H' ?_
        obtain ⟨b_2, gh1', h1'⟩ := Option.bind_eq_some_iff.1 h1'
        refine opsV_cut 5 (fun e' => e' = { N := 83, np := 2, nx := 4, sl := [(0, .pl (.one (.v (.list false 1 (List.map rS a))))), (1, .pl (.one (.v (.list false 1 (List.map rS b))))), (5, .pl (.one (.ref 2 []))), (6, .pl (.one (.ref 3 []))), (7, .pl (.one (.v (.sc (.int .i64 i))))), (8, .pl (.one (.v (.sc (.int .i64 j_2))))), (31, .pl (.one (.v (.sc (.bool b_2)))))], ob := [(2, .list true 1 (List.map (rK .i64) out__3)), (3, .list true 1 (List.map (rL true 1 (rK .i64)) x21))] }) ?_ ?_
        · simp only [List.take_succ_cons, List.take_zero]
          refine opsV_sp (fun hc' => ?_) (fun hc' => ?_)
          · replace gh1' := (ifT hc').symm.trans gh1'
            refine ops H' ?_
            obtain rfl := Option.some.inj gh1'
            refine opsV_nil ?_
            exact ⟨rfl, shd [0, 1, 5, 6, 7, 8, 31] [(2, 2), (3, 3)] 4 rfl⟩
          · replace gh1' := (ifF hc').symm.trans gh1'
            refine ops H' ?_
            obtain rfl := Option.some.inj gh1'
            refine opsV_nil ?_
            exact ⟨rfl, shd [0, 1, 5, 6, 7, 8, 31] [(2, 2), (3, 3)] 4 rfl⟩
        · rintro e' rfl
          simp only [List.drop_succ_cons, List.drop_zero]
          refine opsN ?_
          refine wpV_split (fun hc' => ?_) (fun hc' => ?_)
          · replace h1' := (ifT hc').symm.trans h1'
            refine skipN ?_
            refine wpV_block ?_
            refine wpV_seq1 ?_
            refine regQ ?_
            obtain ⟨x, hv', h1'⟩ := Option.bind_eq_some_iff.1 h1'
            have H' := And.intro (geti_f hv') H'
            obtain ⟨x_1, hv', h1'⟩ := Option.bind_eq_some_iff.1 h1'
            have H' := And.intro (geti_f hv') H'
            refine ops H' ?_
            refine quN ?_
            refine wpV_split (fun hc' => ?_) (fun hc' => ?_)
            · replace h1' := (ifT hc').symm.trans h1'
              refine wpV_seq1 ?_
              refine wpV_region ?_
              obtain ⟨l_1, hv', h1'⟩ := Option.bind_eq_some_iff.1 h1'
              have H' := And.intro (app1_f hv') H'
              refine ops H' ?_
              refine opsN ?_
              refine wpV_seq1 ?_
              refine wpV_region ?_
              refine ops H' ?_
              refine opsN ?_
              refine wpV_region ?_
              refine ops H' ?_
              refine opsN ?_
              obtain rfl := Option.some.inj h1'
              exact shd [0, 1, 5, 6, 7, 8] [(2, 2), (3, 3)] 4 ⟨_, rfl, _, _, _, rfl, rfl⟩
            · replace h1' := (ifF hc').symm.trans h1'
              refine wpV_seq1 ?_
              refine regQ ?_
              obtain ⟨x_2, hv', h1'⟩ := Option.bind_eq_some_iff.1 h1'
              have H' := And.intro (geti_f hv') H'
              obtain ⟨x_3, hv', h1'⟩ := Option.bind_eq_some_iff.1 h1'
              have H' := And.intro (geti_f hv') H'
              obtain ⟨x_4, hv', h1'⟩ := Option.bind_eq_some_iff.1 h1'
              have H' := And.intro (geti_f hv') H'
              obtain ⟨x_5, hv', h1'⟩ := Option.bind_eq_some_iff.1 h1'
              have H' := And.intro (geti_f hv') H'
              refine ops H' ?_
              refine quN ?_
              refine wpV_split (fun hc' => ?_) (fun hc' => ?_)
              · replace h1' := (ifT hc').symm.trans h1'
                refine wpV_region ?_
                refine ops H' ?_
                refine opsN ?_
                obtain rfl := Option.some.inj h1'
                exact shd [0, 1, 5, 6, 7, 8] [(2, 2), (3, 3)] 4 ⟨_, rfl, _, _, _, rfl, rfl⟩
              · replace h1' := (ifF hc').symm.trans h1'
                refine wpV_seq1 ?_
                refine wpV_region ?_
                obtain ⟨l_2, hv', h1'⟩ := Option.bind_eq_some_iff.1 h1'
                have H' := And.intro (app1_f hv') H'
                refine ops H' ?_
                refine opsN ?_
                refine wpV_region ?_
                refine ops H' ?_
                refine opsN ?_
                obtain rfl := Option.some.inj h1'
                exact shd [0, 1, 5, 6, 7, 8] [(2, 2), (3, 3)] 4 ⟨_, rfl, _, _, _, rfl, rfl⟩
          · replace h1' := (ifF hc').symm.trans h1'
            refine exitN ?_
            obtain rfl := Option.some.inj h1'
            refine ⟨_, rfl, fun hr' => ?_⟩
            subst hr'
            exact shd [1, 5, 8] [(2, 2)] 3 ⟨_, _, h0', rfl⟩
      · rintro e' ⟨j, out_, h0', rfl⟩
        unfold spec_Align_j1 at h0'
        refine wpV_seqJ (fun e' => ∃ out__1, spec_Align_j2 out__1 = some r' ∧ e' = { N := 83, np := 2, nx := 3, sl := [(5, .pl (.one (.ref 2 [])))], ob := [(2, .list true 1 (List.map (rK .i64) out__1))] }) ?_ ?_
        · obtain ⟨p, hl', h0'⟩ := Option.bind_eq_some_iff.1 h0'
          refine wpV_block ?_
          refine wpV_loopM (fun s' e' => ∃ j_1 out__2, s' = (j_1, out__2) ∧ e' = { N := 83, np := 2, nx := 3, sl := [(1, .pl (.one (.v (.list false 1 (List.map rS b))))), (5, .pl (.one (.ref 2 []))), (8, .pl (.one (.v (.sc (.int .i64 j_1)))))], ob := [(2, .list true 1 (List.map (rK .i64) out__2))] }) hl' (shd [1, 5, 8] [(2, 2)] 3 ⟨_, _, rfl, rfl⟩) ?_
          rintro s' y1' e' h1' ⟨j_1, out__2, rfl, rfl⟩
          replace h1' : spec_Align_l1 b j_1 out__2 = some y1' := h1'
          unfold spec_Align_l1 at h1'
          refine wpV_seq1 ?_
          refine wpV_seq1 ?_
          refine wpV_region ?_
          refine ops H' ?_
          refine opsN ?_
          refine wpV_split (fun hc' => ?_) (fun hc' => ?_)
          · replace h1' := (ifT hc').symm.trans h1'
            refine skipN ?_
            refine wpV_seq1 ?_
            refine wpV_block ?_
            refine wpV_region ?_
            obtain ⟨l, hv', h1'⟩ := Option.bind_eq_some_iff.1 h1'
            have H' := And.intro (app1_f hv') H'
            refine ops H' ?_
            refine opsN ?_
            refine wpV_region ?_
            refine ops H' ?_
            refine opsN ?_
            obtain rfl := Option.some.inj h1'
            exact shd [1, 5, 8] [(2, 2)] 3 ⟨_, rfl, _, _, rfl, rfl⟩
          · replace h1' := (ifF hc').symm.trans h1'
            refine exitN ?_
            obtain rfl := Option.some.inj h1'
            refine ⟨_, rfl, fun hr' => ?_⟩
            subst hr'
            exact shd [5] [(2, 2)] 3 ⟨_, h0', rfl⟩
        · rintro e' ⟨out__1, h0', rfl⟩
          unfold spec_Align_j2 at h0'
          refine wpV_seq1 ?_
          refine wpV_region ?_
          refine ops H' ?_
          refine opsN ?_
          refine retN ?_
          obtain rfl := Option.some.inj h0'
          exact outG H' rfl rfl
end Go.TV.KFnPicks
