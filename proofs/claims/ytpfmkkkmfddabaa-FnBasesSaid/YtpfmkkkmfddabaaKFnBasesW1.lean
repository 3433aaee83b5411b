/- Walks. -/
import Derived.Test.YtpfmkkkmfddabaaKFnBasesE
import Derived.Test.YtpfmkkkmfddabaaKFnBasesW0
set_option linter.unusedVariables false
set_option linter.unusedSimpArgs false
set_option maxHeartbeats 8000000
set_option maxRecDepth 100000
namespace Go.TV.KFnBases
attribute [local irreducible] anyV wpV opsV Does thenV blockV RetL quV seqV
open Go.Proofs.Try Go.TV.F
theorem W_spec_l05Set (parents : List (List Int)) (list_ : List Int) (r' : (List Bool)) (h0' : spec_l05Set parents list_ = some r') : Fn X 64 [.one (.list false 1 (List.map (rL false 1 (rK .i64)) parents)), .one (.list false 1 (List.map (rK .i64) list_))] [.one (.list true 1 (List.map rB r'))] [] := by
  have H' := And.intro t3 (And.intro t4 (And.intro t23 (And.intro t40 (And.intro t72 (And.intro R_Li64 (And.intro R_b (R_i64)))))))
  unfold spec_l05Set at h0'
  refine Fn.start (fn := f64) (N := 64) (res := [.tmp 4]) rfl rfl rfl rfl rfl (by simp) ?_
  refine enterG H' ?_
  refine wpV_seq1 ?_
  refine wpV_region ?_
  refine ops H' ?_
  refine opsN ?_
  refine wpV_seq1 ?_
  refine wpV_region ?_
  obtain ⟨x11, hv', h0'⟩ := Option.bind_eq_some_iff.1 h0'
  have H' := And.intro (mkl_f hv') H'
  refine ops H' ?_
  refine opsN ?_
  refine wpV_seqJ (fun e' => ∃ in_, spec_l05Set_j1 parents in_ = some r' ∧ e' = { N := 64, np := 2, nx := 3, sl := [(0, .pl (.one (.v (.list false 1 (List.map (rL false 1 (rK .i64)) parents))))), (5, .pl (.one (.ref 2 [])))], ob := [(2, .list true 1 (List.map rB in_))] }) ?_ ?_
  · refine wpV_seq1 ?_
    refine wpV_region ?_
    refine ops H' ?_
    refine opsN ?_
    obtain ⟨p_2, hl', h0'⟩ := Option.bind_eq_some_iff.1 h0'
    refine wpV_block ?_
    refine wpV_loopM (fun s' e' => ∃ i in__5, s' = (i, in__5) ∧ e' = { N := 64, np := 2, nx := 3, sl := [(0, .pl (.one (.v (.list false 1 (List.map (rL false 1 (rK .i64)) parents))))), (1, .pl (.one (.v (.list false 1 (List.map (rK .i64) list_))))), (5, .pl (.one (.ref 2 []))), (6, .pl (.one (.v (.sc (.int .i64 i)))))], ob := [(2, .list true 1 (List.map rB in__5))] }) hl' (shd [0, 1, 5, 6] [(3, 2)] 3 ⟨_, _, rfl, rfl⟩) ?_
    rintro s' y1' e' h1' ⟨i, in__5, rfl, rfl⟩
    replace h1' : spec_l05Set_l3 parents list_ i in__5 = some y1' := h1'
    unfold spec_l05Set_l3 at h1'
    refine wpV_seq1 ?_
    refine wpV_seq1 ?_
    refine wpV_region ?_
    refine ops H' ?_
    refine opsN ?_
    refine wpV_split (fun hc' => ?_) (fun hc' => ?_)
    · replace h1' := (ifT hc').symm.trans h1'
      refine skipN ?_
      refine wpV_seq1 ?_
      refine wpV_block ?_
      refine wpV_seq1 ?_
      refine wpV_region ?_
      obtain ⟨x_5, hv', h1'⟩ := Option.bind_eq_some_iff.1 h1'
      have H' := And.intro (geti_f hv') H'
      refine ops H' ?_
      obtain ⟨x25, hy', h1'⟩ := Option.bind_eq_some_iff.1 h1'
      refine callG H' (fun _ => []) (W_spec_l01In _ _ _ _ hy') ?_
      refine opsN ?_
      refine wpV_split (fun hc' => ?_) (fun hc' => ?_)
      · replace h1' := (ifT hc').symm.trans h1'
        refine wpV_region ?_
        obtain ⟨x_6, hv', h1'⟩ := Option.bind_eq_some_iff.1 h1'
        have H' := And.intro (geti_f hv') H'
        refine ops H' ?_
        refine opsN ?_
        refine wpV_region ?_
        refine ops H' ?_
        refine opsN ?_
        obtain rfl := Option.some.inj h1'
        exact shd [0, 1, 5, 6] [(2, 2)] 3 ⟨_, rfl, _, _, rfl, rfl⟩
      · replace h1' := (ifF hc').symm.trans h1'
        refine skipN ?_
        refine wpV_region ?_
        refine ops H' ?_
        refine opsN ?_
        obtain rfl := Option.some.inj h1'
        exact shd [0, 1, 5, 6] [(2, 2)] 3 ⟨_, rfl, _, _, rfl, rfl⟩
    · replace h1' := (ifF hc').symm.trans h1'
      refine exitN ?_
      obtain rfl := Option.some.inj h1'
      refine ⟨_, rfl, fun hr' => ?_⟩
      subst hr'
      exact shd [0, 5] [(2, 2)] 3 ⟨_, h0', rfl⟩
  · rintro e' ⟨in_, h0', rfl⟩
    unfold spec_l05Set_j1 at h0'
    refine wpV_seqJ (fun e' => ∃ in__1, spec_l05Set_j2 in__1 = some r' ∧ e' = { N := 64, np := 2, nx := 3, sl := [(5, .pl (.one (.ref 2 [])))], ob := [(2, .list true 1 (List.map rB in__1))] }) ?_ ?_
    · refine wpV_seq1 ?_
      refine wpV_region ?_
      refine ops H' ?_
      refine opsN ?_
      obtain ⟨p, hl', h0'⟩ := Option.bind_eq_some_iff.1 h0'
      refine wpV_block ?_
      refine wpV_loopM (fun s' e' => ∃ v in__2, s' = (v, in__2) ∧ e' = { N := 64, np := 2, nx := 3, sl := [(0, .pl (.one (.v (.list false 1 (List.map (rL false 1 (rK .i64)) parents))))), (5, .pl (.one (.ref 2 []))), (7, .pl (.one (.v (.sc (.int .i64 v)))))], ob := [(2, .list true 1 (List.map rB in__2))] }) hl' (shd [0, 5, 7] [(2, 2)] 3 ⟨_, _, rfl, rfl⟩) ?_
      rintro s' y1' e' h1' ⟨v, in__2, rfl, rfl⟩
      replace h1' : spec_l05Set_l1 parents v in__2 = some y1' := h1'
      unfold spec_l05Set_l1 at h1'
      refine wpV_seq1 ?_
      refine wpV_seq1 ?_
      refine wpV_region ?_
      refine ops H' ?_
      refine opsN ?_
      refine wpV_split (fun hc' => ?_) (fun hc' => ?_)
      · replace h1' := (ifT hc').symm.trans h1'
        refine skipN ?_
        refine wpV_seqJ (fun e' => ∃ in__3, spec_l05Set_j3 v in__3 = some y1' ∧ e' = { N := 64, np := 2, nx := 3, sl := [(0, .pl (.one (.v (.list false 1 (List.map (rL false 1 (rK .i64)) parents))))), (5, .pl (.one (.ref 2 []))), (7, .pl (.one (.v (.sc (.int .i64 v)))))], ob := [(2, .list true 1 (List.map rB in__3))] }) ?_ ?_
        · refine wpV_block ?_
          refine wpV_seq1 ?_
          refine wpV_region ?_
          refine ops H' ?_
          refine opsN ?_
          obtain ⟨p_1, hl', h1'⟩ := Option.bind_eq_some_iff.1 h1'
          refine wpV_block ?_
          refine wpV_loopM (fun s' e' => ∃ k in__4, s' = (k, in__4) ∧ e' = { N := 64, np := 2, nx := 3, sl := [(0, .pl (.one (.v (.list false 1 (List.map (rL false 1 (rK .i64)) parents))))), (5, .pl (.one (.ref 2 []))), (7, .pl (.one (.v (.sc (.int .i64 v))))), (8, .pl (.one (.v (.sc (.int .i64 k)))))], ob := [(2, .list true 1 (List.map rB in__4))] }) hl' (shd [0, 5, 7, 8] [(2, 2)] 3 ⟨_, _, rfl, rfl⟩) ?_
          rintro s' y2' e' h2' ⟨k, in__4, rfl, rfl⟩
          replace h2' : spec_l05Set_l2 parents v k in__4 = some y2' := h2'
          unfold spec_l05Set_l2 at h2'
          refine wpV_seq1 ?_
          refine wpV_seq1 ?_
          refine wpV_region ?_
          obtain ⟨x, hv', h2'⟩ := Option.bind_eq_some_iff.1 h2'
          have H' := And.intro (geti_f hv') H'
          refine ops H' ?_
          obtain ⟨b, gh2', h2'⟩ := Option.bind_eq_some_iff.1 h2'
          refine opsV_cut 5 (fun e' => e' = { N := 64, np := 2, nx := 3, sl := [(0, .pl (.one (.v (.list false 1 (List.map (rL false 1 (rK .i64)) parents))))), (5, .pl (.one (.ref 2 []))), (7, .pl (.one (.v (.sc (.int .i64 v))))), (8, .pl (.one (.v (.sc (.int .i64 k))))), (51, .pl (.one (.v (.sc (.bool b)))))], ob := [(2, .list true 1 (List.map rB in__4))] }) ?_ ?_
          · simp only [List.take_succ_cons, List.take_zero]
            refine opsV_sp (fun hc' => ?_) (fun hc' => ?_)
            · replace gh2' := (ifT hc').symm.trans gh2'
              obtain ⟨x_1, hv', gh2'⟩ := Option.bind_eq_some_iff.1 gh2'
              have H' := And.intro (geti_f hv') H'
              refine ops H' ?_
              obtain rfl := Option.some.inj gh2'
              refine opsV_nil ?_
              exact ⟨rfl, shd [0, 5, 7, 8, 51] [(2, 2)] 3 rfl⟩
            · replace gh2' := (ifF hc').symm.trans gh2'
              refine ops H' ?_
              obtain rfl := Option.some.inj gh2'
              refine opsV_nil ?_
              exact ⟨rfl, shd [0, 5, 7, 8, 51] [(2, 2)] 3 rfl⟩
          · rintro e' rfl
            simp only [List.drop_succ_cons, List.drop_zero]
            refine opsN ?_
            refine wpV_split (fun hc' => ?_) (fun hc' => ?_)
            · replace h2' := (ifT hc').symm.trans h2'
              refine skipN ?_
              refine wpV_seq1 ?_
              refine wpV_block ?_
              refine wpV_region ?_
              obtain ⟨x_2, hv', h2'⟩ := Option.bind_eq_some_iff.1 h2'
              have H' := And.intro (geti_f hv') H'
              obtain ⟨x_3, hv', h2'⟩ := Option.bind_eq_some_iff.1 h2'
              have H' := And.intro (geti_f hv') H'
              obtain ⟨x_4, hv', h2'⟩ := Option.bind_eq_some_iff.1 h2'
              have H' := And.intro (geti_f hv') H'
              refine ops H' ?_
              refine opsN ?_
              refine wpV_region ?_
              refine ops H' ?_
              refine opsN ?_
              obtain rfl := Option.some.inj h2'
              exact shd [0, 5, 7, 8] [(2, 2)] 3 ⟨_, rfl, _, _, rfl, rfl⟩
            · replace h2' := (ifF hc').symm.trans h2'
              refine exitN ?_
              obtain rfl := Option.some.inj h2'
              refine ⟨_, rfl, fun hr' => ?_⟩
              subst hr'
              exact shd [0, 5, 7] [(2, 2)] 3 ⟨_, h1', rfl⟩
        · rintro e' ⟨in__3, h1', rfl⟩
          unfold spec_l05Set_j3 at h1'
          refine wpV_region ?_
          refine ops H' ?_
          refine opsN ?_
          obtain rfl := Option.some.inj h1'
          exact shd [0, 5, 7] [(2, 2)] 3 ⟨_, rfl, _, _, rfl, rfl⟩
      · replace h1' := (ifF hc').symm.trans h1'
        refine exitN ?_
        obtain rfl := Option.some.inj h1'
        refine ⟨_, rfl, fun hr' => ?_⟩
        subst hr'
        exact shd [5] [(2, 2)] 3 ⟨_, h0', rfl⟩
    · rintro e' ⟨in__1, h0', rfl⟩
      unfold spec_l05Set_j2 at h0'
      refine wpV_seq1 ?_
      refine wpV_region ?_
      refine ops H' ?_
      refine opsN ?_
      refine retN ?_
      obtain rfl := Option.some.inj h0'
      exact outG H' rfl rfl
theorem W_spec_IsAncestor (parents : List (List Int)) (a : Int) (b : Int) (r' : Bool) (h0' : spec_IsAncestor parents a b = some r') : Fn X 42 [.one (.list false 1 (List.map (rL false 1 (rK .i64)) parents)), .one (.sc (.int .i64 a)), .one (.sc (.int .i64 b))] [.one (.sc (.bool r'))] [] := by
  have H' := And.intro t3 (And.intro t4 (And.intro t23 (And.intro t72 (And.intro R_Li64 (And.intro R_b (R_i64))))))
  unfold spec_IsAncestor at h0'
  refine Fn.start (fn := f42) (N := 24) (res := [.tmp 6]) rfl rfl rfl rfl rfl (by simp) ?_
  refine enterG H' ?_
  refine wpV_seq1 ?_
  refine wpV_region ?_
  refine ops H' ?_
  refine opsN ?_
  refine wpV_seq1 ?_
  refine wpV_region ?_
  refine ops H' ?_
  obtain ⟨x9, hy', h0'⟩ := Option.bind_eq_some_iff.1 h0'
  refine callG H' (fun _ => []) (W_spec_l05Has _ _ _ hy') ?_
  refine ops H' ?_
  obtain ⟨b_1, gh0', h0'⟩ := Option.bind_eq_some_iff.1 h0'
  refine opsV_cut 4 (fun e' => e' = { N := 24, np := 3, nx := 3, sl := [(0, .pl (.one (.v (.list false 1 (List.map (rL false 1 (rK .i64)) parents))))), (1, .pl (.one (.v (.sc (.int .i64 a))))), (2, .pl (.one (.v (.sc (.int .i64 b))))), (14, .pl (.one (.v (.sc (.bool b_1)))))], ob := [] }) ?_ ?_
  · simp only [List.take_succ_cons, List.take_zero]
    refine opsV_sp (fun hc' => ?_) (fun hc' => ?_)
    · replace gh0' := (ifT hc').symm.trans gh0'
      refine ops H' ?_
      obtain ⟨x13, hy', gh0'⟩ := Option.bind_eq_some_iff.1 gh0'
      refine callG H' (fun _ => []) (W_spec_l05Has _ _ _ hy') ?_
      refine ops H' ?_
      obtain rfl := Option.some.inj gh0'
      refine opsV_nil ?_
      exact ⟨rfl, shd [0, 1, 2, 14] [] 3 rfl⟩
    · replace gh0' := (ifF hc').symm.trans gh0'
      refine ops H' ?_
      obtain rfl := Option.some.inj gh0'
      refine opsV_nil ?_
      exact ⟨rfl, shd [0, 1, 2, 14] [] 3 rfl⟩
  · rintro e' rfl
    simp only [List.drop_succ_cons, List.drop_zero]
    refine ops H' ?_
    obtain ⟨b_2, gh0', h0'⟩ := Option.bind_eq_some_iff.1 h0'
    refine opsV_cut 8 (fun e' => e' = { N := 24, np := 3, nx := 3, sl := [(23, .pl (.one (.v (.sc (.bool b_2)))))], ob := [] }) ?_ ?_
    · simp only [List.take_succ_cons, List.take_zero]
      refine opsV_sp (fun hc' => ?_) (fun hc' => ?_)
      · replace gh0' := (ifT hc').symm.trans gh0'
        refine ops H' ?_
        obtain ⟨x19, hy', gh0'⟩ := Option.bind_eq_some_iff.1 gh0'
        refine callG H' (fun _ => []) (W_spec_l05Set _ _ _ hy') ?_
        obtain ⟨x, hv', gh0'⟩ := Option.bind_eq_some_iff.1 gh0'
        have H' := And.intro (geti_f hv') H'
        refine ops H' ?_
        obtain rfl := Option.some.inj gh0'
        refine opsV_nil ?_
        exact ⟨rfl, shd [23] [] 3 rfl⟩
      · replace gh0' := (ifF hc').symm.trans gh0'
        refine ops H' ?_
        obtain rfl := Option.some.inj gh0'
        refine opsV_nil ?_
        exact ⟨rfl, shd [23] [] 3 rfl⟩
    · rintro e' rfl
      simp only [List.drop_succ_cons, List.drop_zero]
      refine ops H' ?_
      refine opsN ?_
      refine retN ?_
      obtain rfl := Option.some.inj h0'
      exact outG H' rfl rfl
theorem W_laws_within (list_ : List Int) (x : Int) (r' : Bool) (h0' : laws_within list_ x = some r') : Fn X 24 [.one (.list false 1 (List.map (rK .i64) list_)), .one (.sc (.int .i64 x))] [.one (.sc (.bool r'))] [] := by
  have H' := And.intro t3 (And.intro t23 (R_i64))
  unfold laws_within at h0'
  refine Fn.start (fn := f24) (N := 18) (res := [.tmp 4]) rfl rfl rfl rfl rfl (by simp) ?_
  refine enterG H' ?_
  refine wpV_seq1 ?_
  refine wpV_region ?_
  refine ops H' ?_
  refine opsN ?_
  refine wpV_seqJ (fun e' => laws_within_j1 = some r' ∧ e' = { N := 18, np := 2, nx := 2, sl := [], ob := [] }) ?_ ?_
  · refine wpV_seq1 ?_
    refine wpV_region ?_
    refine ops H' ?_
    refine opsN ?_
    obtain ⟨p, hl', h0'⟩ := Option.bind_eq_some_iff.1 h0'
    refine wpV_block ?_
    refine wpV_loopM (fun i e' => e' = { N := 18, np := 2, nx := 2, sl := [(0, .pl (.one (.v (.list false 1 (List.map (rK .i64) list_))))), (1, .pl (.one (.v (.sc (.int .i64 x))))), (5, .pl (.one (.v (.sc (.int .i64 i)))))], ob := [] }) hl' (shd [0, 1, 5] [] 2 rfl) ?_
    rintro i y1' e' h1' rfl
    replace h1' : laws_within_l1 list_ x i = some y1' := h1'
    unfold laws_within_l1 at h1'
    refine wpV_seq1 ?_
    refine wpV_seq1 ?_
    refine wpV_region ?_
    refine ops H' ?_
    refine opsN ?_
    refine wpV_split (fun hc' => ?_) (fun hc' => ?_)
    · replace h1' := (ifT hc').symm.trans h1'
      refine skipN ?_
      refine wpV_seq1 ?_
      refine wpV_block ?_
      refine wpV_seq1 ?_
      refine wpV_region ?_
      obtain ⟨x_1, hv', h1'⟩ := Option.bind_eq_some_iff.1 h1'
      have H' := And.intro (geti_f hv') H'
      refine ops H' ?_
      refine opsN ?_
      refine wpV_split (fun hc' => ?_) (fun hc' => ?_)
      · replace h1' := (ifT hc').symm.trans h1'
        refine wpV_seq1 ?_
        refine wpV_region ?_
        refine ops H' ?_
        refine opsN ?_
        refine retN ?_
        obtain rfl := Option.some.inj h1'
        refine ⟨_, rfl, fun hr' => ?_⟩
        subst hr'
        obtain rfl := Option.some.inj h0'
        exact outG H' rfl rfl
      · replace h1' := (ifF hc').symm.trans h1'
        refine skipN ?_
        refine wpV_region ?_
        refine ops H' ?_
        refine opsN ?_
        obtain rfl := Option.some.inj h1'
        exact shd [0, 1, 5] [] 2 ⟨_, rfl, rfl⟩
    · replace h1' := (ifF hc').symm.trans h1'
      refine exitN ?_
      obtain rfl := Option.some.inj h1'
      refine ⟨_, rfl, fun hr' => ?_⟩
      subst hr'
      exact shd [] [] 2 ⟨h0', rfl⟩
  · rintro e' ⟨h0', rfl⟩
    unfold laws_within_j1 at h0'
    refine wpV_seq1 ?_
    refine wpV_region ?_
    refine ops H' ?_
    refine opsN ?_
    refine retN ?_
    obtain rfl := Option.some.inj h0'
    exact outG H' rfl rfl
theorem W_laws_sameInts (a : List Int) (b : List Int) (r' : Bool) (h0' : laws_sameInts a b = some r') : Fn X 45 [.one (.list false 1 (List.map (rK .i64) a)), .one (.list false 1 (List.map (rK .i64) b))] [.one (.sc (.bool r'))] [] := by
  have H' := And.intro t3 (And.intro t23 (R_i64))
  unfold laws_sameInts at h0'
  refine Fn.start (fn := f45) (N := 26) (res := [.tmp 4]) rfl rfl rfl rfl rfl (by simp) ?_
  refine enterG H' ?_
  refine wpV_seq1 ?_
  refine wpV_region ?_
  refine ops H' ?_
  refine opsN ?_
  refine wpV_seq1 ?_
  refine wpV_seq1 ?_
  refine wpV_region ?_
  refine ops H' ?_
  refine opsN ?_
  refine wpV_split (fun hc' => ?_) (fun hc' => ?_)
  · replace h0' := (ifT hc').symm.trans h0'
    refine wpV_seq1 ?_
    refine wpV_region ?_
    refine ops H' ?_
    refine opsN ?_
    refine retN ?_
    obtain rfl := Option.some.inj h0'
    exact outG H' rfl rfl
  · replace h0' := (ifF hc').symm.trans h0'
    refine skipN ?_
    refine wpV_seqJ (fun e' => laws_sameInts_j1 = some r' ∧ e' = { N := 26, np := 2, nx := 2, sl := [], ob := [] }) ?_ ?_
    · refine wpV_seq1 ?_
      refine wpV_region ?_
      refine ops H' ?_
      refine opsN ?_
      obtain ⟨p, hl', h0'⟩ := Option.bind_eq_some_iff.1 h0'
      refine wpV_block ?_
      refine wpV_loopM (fun i e' => e' = { N := 26, np := 2, nx := 2, sl := [(0, .pl (.one (.v (.list false 1 (List.map (rK .i64) a))))), (1, .pl (.one (.v (.list false 1 (List.map (rK .i64) b))))), (5, .pl (.one (.v (.sc (.int .i64 i)))))], ob := [] }) hl' (shd [0, 1, 5] [] 2 rfl) ?_
      rintro i y1' e' h1' rfl
      replace h1' : laws_sameInts_l1 a b i = some y1' := h1'
      unfold laws_sameInts_l1 at h1'
      refine wpV_seq1 ?_
      refine wpV_seq1 ?_
      refine wpV_region ?_
      refine ops H' ?_
      refine opsN ?_
      refine wpV_split (fun hc' => ?_) (fun hc' => ?_)
      · replace h1' := (ifT hc').symm.trans h1'
        refine skipN ?_
        refine wpV_seq1 ?_
        refine wpV_block ?_
        refine wpV_seq1 ?_
        refine regQ ?_
        obtain ⟨x, hv', h1'⟩ := Option.bind_eq_some_iff.1 h1'
        have H' := And.intro (geti_f hv') H'
        obtain ⟨x_1, hv', h1'⟩ := Option.bind_eq_some_iff.1 h1'
        have H' := And.intro (geti_f hv') H'
        refine ops H' ?_
        refine quN ?_
        refine wpV_split (fun hc' => ?_) (fun hc' => ?_)
        · replace h1' := (ifT hc').symm.trans h1'
          refine wpV_seq1 ?_
          refine wpV_region ?_
          refine ops H' ?_
          refine opsN ?_
          refine retN ?_
          obtain rfl := Option.some.inj h1'
          refine ⟨_, rfl, fun hr' => ?_⟩
          subst hr'
          obtain rfl := Option.some.inj h0'
          exact outG H' rfl rfl
        · replace h1' := (ifF hc').symm.trans h1'
          refine skipN ?_
          refine wpV_region ?_
          refine ops H' ?_
          refine opsN ?_
          obtain rfl := Option.some.inj h1'
          exact shd [0, 1, 5] [] 2 ⟨_, rfl, rfl⟩
      · replace h1' := (ifF hc').symm.trans h1'
        refine exitN ?_
        obtain rfl := Option.some.inj h1'
        refine ⟨_, rfl, fun hr' => ?_⟩
        subst hr'
        exact shd [] [] 2 ⟨h0', rfl⟩
    · rintro e' ⟨h0', rfl⟩
      unfold laws_sameInts_j1 at h0'
      refine wpV_seq1 ?_
      refine wpV_region ?_
      refine ops H' ?_
      refine opsN ?_
      refine retN ?_
      obtain rfl := Option.some.inj h0'
      exact outG H' rfl rfl
theorem W_laws_FnBases (code : List Int) (r' : Bool) (h0' : laws_FnBases code = some r') : Fn X 10 [.one (.list false 1 (List.map (rK .u8) code))] [.one (.sc (.bool r'))] [] := by
  have H' := And.intro t3 (And.intro t4 (And.intro t23 (And.intro t40 (And.intro R_Li64 (And.intro R_i64 (R_u8))))))
  unfold laws_FnBases at h0'
  refine Fn.start (fn := f10) (N := 147) (res := [.tmp 2]) rfl rfl rfl rfl rfl (by simp) ?_
  refine enterG H' ?_
  refine wpV_seq1 ?_
  refine wpV_region ?_
  refine ops H' ?_
  refine opsN ?_
  refine wpV_seq1 ?_
  refine wpV_seq1 ?_
  refine wpV_region ?_
  refine ops H' ?_
  obtain ⟨x16, hy', h0'⟩ := Option.bind_eq_some_iff.1 h0'
  refine callG H' (fun _ => []) (W_laws_big _ _ hy') ?_
  refine opsN ?_
  refine wpV_split (fun hc' => ?_) (fun hc' => ?_)
  · replace h0' := (ifT hc').symm.trans h0'
    refine wpV_seq1 ?_
    refine wpV_region ?_
    refine ops H' ?_
    refine opsN ?_
    refine retN ?_
    obtain rfl := Option.some.inj h0'
    exact outG H' rfl rfl
  · replace h0' := (ifF hc').symm.trans h0'
    refine skipN ?_
    refine wpV_seq1 ?_
    refine wpV_region ?_
    refine ops H' ?_
    obtain ⟨x18, hy', h0'⟩ := Option.bind_eq_some_iff.1 h0'
    refine callG H' (fun _ => []) (W_spec_DrawRightGraph _ _ hy') ?_
    refine ops H' ?_
    refine opsN ?_
    refine wpV_seq1 ?_
    refine wpV_region ?_
    refine ops H' ?_
    obtain ⟨x20, hy', h0'⟩ := Option.bind_eq_some_iff.1 h0'
    refine callG H' (fun _ => []) (W_spec_DrawPlaces _ _ hy') ?_
    refine ops H' ?_
    refine opsN ?_
    refine wpV_seq1 ?_
    refine wpV_region ?_
    obtain ⟨x, hv', h0'⟩ := Option.bind_eq_some_iff.1 h0'
    have H' := And.intro (geti_f hv') H'
    obtain ⟨u, hv', h0'⟩ := Option.bind_eq_some_iff.1 h0'
    have H' := And.intro (chkF hv') H'
    refine ops H' ?_
    refine opsN ?_
    refine wpV_seq1 ?_
    refine wpV_region ?_
    obtain ⟨x_1, hv', h0'⟩ := Option.bind_eq_some_iff.1 h0'
    have H' := And.intro (geti_f hv') H'
    obtain ⟨u_1, hv', h0'⟩ := Option.bind_eq_some_iff.1 h0'
    have H' := And.intro (chkF hv') H'
    refine ops H' ?_
    refine opsN ?_
    refine wpV_seq1 ?_
    refine wpV_region ?_
    refine ops H' ?_
    obtain ⟨x36, hy', h0'⟩ := Option.bind_eq_some_iff.1 h0'
    refine callG H' (fun _ => []) (W_impl_Bases _ _ _ _ hy') ?_
    refine ops H' ?_
    refine opsN ?_
    refine wpV_seq1 ?_
    refine wpV_region ?_
    refine ops H' ?_
    obtain ⟨x40, hy', h0'⟩ := Option.bind_eq_some_iff.1 h0'
    refine callG H' (fun _ => []) (W_impl_Commons _ _ _ _ hy') ?_
    refine ops H' ?_
    refine opsN ?_
    refine wpV_seqJ (fun e' => laws_FnBases_j1 x18 x x_1 x36 x40 = some r' ∧ e' = { N := 147, np := 1, nx := 4, sl := [(3, .pl (.one (.ref 1 []))), (5, .pl (.one (.v (.sc (.int .i64 (x.tmod (x18.length : Int))))))), (6, .pl (.one (.v (.sc (.int .i64 (x_1.tmod (x18.length : Int))))))), (7, .pl (.one (.ref 2 []))), (8, .pl (.one (.ref 3 [])))], ob := [(1, .list true 1 (List.map (rL true 1 (rK .i64)) x18)), (2, .list true 1 (List.map (rK .i64) x36)), (3, .list true 1 (List.map (rK .i64) x40))] }) ?_ ?_
    · refine wpV_seq1 ?_
      refine wpV_region ?_
      refine ops H' ?_
      refine opsN ?_
      obtain ⟨p_2, hl', h0'⟩ := Option.bind_eq_some_iff.1 h0'
      refine wpV_block ?_
      refine wpV_loopM (fun i e' => e' = { N := 147, np := 1, nx := 4, sl := [(3, .pl (.one (.ref 1 []))), (5, .pl (.one (.v (.sc (.int .i64 (x.tmod (x18.length : Int))))))), (6, .pl (.one (.v (.sc (.int .i64 (x_1.tmod (x18.length : Int))))))), (7, .pl (.one (.ref 2 []))), (8, .pl (.one (.ref 3 []))), (9, .pl (.one (.v (.sc (.int .i64 i)))))], ob := [(1, .list true 1 (List.map (rL true 1 (rK .i64)) x18)), (2, .list true 1 (List.map (rK .i64) x36)), (3, .list true 1 (List.map (rK .i64) x40))] }) hl' (shd [3, 5, 6, 7, 8, 9] [(2, 1), (4, 2), (5, 3)] 4 rfl) ?_
      rintro i y1' e' h1' rfl
      replace h1' : laws_FnBases_l3 x18 x x_1 x36 i = some y1' := h1'
      unfold laws_FnBases_l3 at h1'
      refine wpV_seq1 ?_
      refine wpV_seq1 ?_
      refine wpV_region ?_
      refine ops H' ?_
      refine opsN ?_
      refine wpV_split (fun hc' => ?_) (fun hc' => ?_)
      · replace h1' := (ifT hc').symm.trans h1'
        refine skipN ?_
        refine wpV_seqJ (fun e' => laws_FnBases_j5 i = some y1' ∧ e' = { N := 147, np := 1, nx := 4, sl := [(3, .pl (.one (.ref 1 []))), (5, .pl (.one (.v (.sc (.int .i64 (x.tmod (x18.length : Int))))))), (6, .pl (.one (.v (.sc (.int .i64 (x_1.tmod (x18.length : Int))))))), (7, .pl (.one (.ref 2 []))), (8, .pl (.one (.ref 3 []))), (9, .pl (.one (.v (.sc (.int .i64 i)))))], ob := [(1, .list true 1 (List.map (rL true 1 (rK .i64)) x18)), (2, .list true 1 (List.map (rK .i64) x36)), (3, .list true 1 (List.map (rK .i64) x40))] }) ?_ ?_
        · refine wpV_block ?_
          refine wpV_seq1 ?_
          refine wpV_seq1 ?_
          refine wpV_region ?_
          obtain ⟨x_4, hv', h1'⟩ := Option.bind_eq_some_iff.1 h1'
          have H' := And.intro (geti_f hv') H'
          refine ops H' ?_
          obtain ⟨x53, hy', h1'⟩ := Option.bind_eq_some_iff.1 h1'
          refine callG H' (fun _ => []) (W_spec_IsAncestor _ _ _ _ hy') ?_
          refine ops H' ?_
          obtain ⟨b_5, gh1', h1'⟩ := Option.bind_eq_some_iff.1 h1'
          refine opsV_cut 9 (fun e' => e' = { N := 147, np := 1, nx := 4, sl := [(3, .pl (.one (.ref 1 []))), (5, .pl (.one (.v (.sc (.int .i64 (x.tmod (x18.length : Int))))))), (6, .pl (.one (.v (.sc (.int .i64 (x_1.tmod (x18.length : Int))))))), (7, .pl (.one (.ref 2 []))), (8, .pl (.one (.ref 3 []))), (9, .pl (.one (.v (.sc (.int .i64 i))))), (64, .pl (.one (.v (.sc (.bool b_5)))))], ob := [(1, .list true 1 (List.map (rL true 1 (rK .i64)) x18)), (2, .list true 1 (List.map (rK .i64) x36)), (3, .list true 1 (List.map (rK .i64) x40))] }) ?_ ?_
          · simp only [List.take_succ_cons, List.take_zero]
            refine opsV_sp (fun hc' => ?_) (fun hc' => ?_)
            · replace gh1' := (ifF hc').symm.trans gh1'
              refine ops H' ?_
              obtain ⟨x62, hy', gh1'⟩ := Option.bind_eq_some_iff.1 gh1'
              refine callG H' (fun _ => []) (W_spec_IsAncestor _ _ _ _ hy') ?_
              refine ops H' ?_
              obtain rfl := Option.some.inj gh1'
              refine opsV_nil ?_
              exact ⟨rfl, shd [3, 5, 6, 7, 8, 9, 64] [(1, 1), (2, 2), (3, 3)] 4 rfl⟩
            · replace gh1' := (ifT hc').symm.trans gh1'
              refine ops H' ?_
              obtain rfl := Option.some.inj gh1'
              refine opsV_nil ?_
              exact ⟨rfl, shd [3, 5, 6, 7, 8, 9, 64] [(1, 1), (2, 2), (3, 3)] 4 rfl⟩
          · rintro e' rfl
            simp only [List.drop_succ_cons, List.drop_zero]
            refine opsN ?_
            refine wpV_split (fun hc' => ?_) (fun hc' => ?_)
            · replace h1' := (ifT hc').symm.trans h1'
              refine wpV_seq1 ?_
              refine wpV_region ?_
              refine ops H' ?_
              refine opsN ?_
              refine retN ?_
              obtain rfl := Option.some.inj h1'
              refine ⟨_, rfl, fun hr' => ?_⟩
              subst hr'
              obtain rfl := Option.some.inj h0'
              exact outG H' rfl rfl
            · replace h1' := (ifF hc').symm.trans h1'
              refine skipN ?_
              refine wpV_seq1 ?_
              refine wpV_region ?_
              refine ops H' ?_
              refine opsN ?_
              obtain ⟨p_3, hl', h1'⟩ := Option.bind_eq_some_iff.1 h1'
              refine wpV_block ?_
              refine wpV_loopM (fun k_1 e' => e' = { N := 147, np := 1, nx := 4, sl := [(3, .pl (.one (.ref 1 []))), (5, .pl (.one (.v (.sc (.int .i64 (x.tmod (x18.length : Int))))))), (6, .pl (.one (.v (.sc (.int .i64 (x_1.tmod (x18.length : Int))))))), (7, .pl (.one (.ref 2 []))), (8, .pl (.one (.ref 3 []))), (9, .pl (.one (.v (.sc (.int .i64 i))))), (10, .pl (.one (.v (.sc (.int .i64 k_1)))))], ob := [(1, .list true 1 (List.map (rL true 1 (rK .i64)) x18)), (2, .list true 1 (List.map (rK .i64) x36)), (3, .list true 1 (List.map (rK .i64) x40))] }) hl' (shd [3, 5, 6, 7, 8, 9, 10] [(1, 1), (2, 2), (3, 3)] 4 rfl) ?_
              rintro k_1 y2' e' h2' rfl
              replace h2' : laws_FnBases_l4 x18 x36 i k_1 = some y2' := h2'
              unfold laws_FnBases_l4 at h2'
              refine wpV_seq1 ?_
              refine wpV_seq1 ?_
              refine wpV_region ?_
              refine ops H' ?_
              refine opsN ?_
              refine wpV_split (fun hc' => ?_) (fun hc' => ?_)
              · replace h2' := (ifT hc').symm.trans h2'
                refine skipN ?_
                refine wpV_seq1 ?_
                refine wpV_block ?_
                refine wpV_seq1 ?_
                refine regQ ?_
                refine ops H' ?_
                obtain ⟨b_6, gh2', h2'⟩ := Option.bind_eq_some_iff.1 h2'
                refine quV_cut 11 (fun e' => e' = { N := 147, np := 1, nx := 4, sl := [(3, .pl (.one (.ref 1 []))), (5, .pl (.one (.v (.sc (.int .i64 (x.tmod (x18.length : Int))))))), (6, .pl (.one (.v (.sc (.int .i64 (x_1.tmod (x18.length : Int))))))), (7, .pl (.one (.ref 2 []))), (8, .pl (.one (.ref 3 []))), (9, .pl (.one (.v (.sc (.int .i64 i))))), (10, .pl (.one (.v (.sc (.int .i64 k_1))))), (85, .pl (.one (.v (.sc (.bool b_6)))))], ob := [(1, .list true 1 (List.map (rL true 1 (rK .i64)) x18)), (2, .list true 1 (List.map (rK .i64) x36)), (3, .list true 1 (List.map (rK .i64) x40))] }) ?_ ?_
                · simp only [List.take_succ_cons, List.take_zero]
                  refine quV_sp (fun hc' => ?_) (fun hc' => ?_)
                  · replace gh2' := (ifT hc').symm.trans gh2'
                    obtain ⟨x_5, hv', gh2'⟩ := Option.bind_eq_some_iff.1 gh2'
                    have H' := And.intro (geti_f hv') H'
                    obtain ⟨x_6, hv', gh2'⟩ := Option.bind_eq_some_iff.1 gh2'
                    have H' := And.intro (geti_f hv') H'
                    refine ops H' ?_
                    obtain ⟨x84, hy', gh2'⟩ := Option.bind_eq_some_iff.1 gh2'
                    refine callGQ H' (W_spec_IsAncestor _ _ _ _ hy') ?_
                    refine ops H' ?_
                    obtain rfl := Option.some.inj gh2'
                    refine quV_nil ?_
                    exact ⟨rfl, shd [3, 5, 6, 7, 8, 9, 10, 85] [(1, 1), (2, 2), (3, 3)] 4 rfl⟩
                  · replace gh2' := (ifF hc').symm.trans gh2'
                    refine ops H' ?_
                    obtain rfl := Option.some.inj gh2'
                    refine quV_nil ?_
                    exact ⟨rfl, shd [3, 5, 6, 7, 8, 9, 10, 85] [(1, 1), (2, 2), (3, 3)] 4 rfl⟩
                · rintro e' rfl
                  simp only [List.drop_succ_cons, List.drop_zero]
                  refine quN ?_
                  refine wpV_split (fun hc' => ?_) (fun hc' => ?_)
                  · replace h2' := (ifT hc').symm.trans h2'
                    refine wpV_seq1 ?_
                    refine wpV_region ?_
                    refine ops H' ?_
                    refine opsN ?_
                    refine retN ?_
                    obtain rfl := Option.some.inj h2'
                    refine ⟨_, rfl, fun hr' => ?_⟩
                    subst hr'
                    obtain rfl := Option.some.inj h1'
                    refine ⟨_, rfl, fun hr' => ?_⟩
                    subst hr'
                    obtain rfl := Option.some.inj h0'
                    exact outG H' rfl rfl
                  · replace h2' := (ifF hc').symm.trans h2'
                    refine skipN ?_
                    refine wpV_region ?_
                    refine ops H' ?_
                    refine opsN ?_
                    obtain rfl := Option.some.inj h2'
                    exact shd [3, 5, 6, 7, 8, 9, 10] [(1, 1), (2, 2), (3, 3)] 4 ⟨_, rfl, rfl⟩
              · replace h2' := (ifF hc').symm.trans h2'
                refine exitN ?_
                obtain rfl := Option.some.inj h2'
                refine ⟨_, rfl, fun hr' => ?_⟩
                subst hr'
                exact shd [3, 5, 6, 7, 8, 9] [(1, 1), (2, 2), (3, 3)] 4 ⟨h1', rfl⟩
        · rintro e' ⟨h1', rfl⟩
          unfold laws_FnBases_j5 at h1'
          refine wpV_region ?_
          refine ops H' ?_
          refine opsN ?_
          obtain rfl := Option.some.inj h1'
          exact shd [3, 5, 6, 7, 8, 9] [(1, 1), (2, 2), (3, 3)] 4 ⟨_, rfl, rfl⟩
      · replace h1' := (ifF hc').symm.trans h1'
        refine exitN ?_
        obtain rfl := Option.some.inj h1'
        refine ⟨_, rfl, fun hr' => ?_⟩
        subst hr'
        exact shd [3, 5, 6, 7, 8] [(1, 1), (2, 2), (3, 3)] 4 ⟨h0', rfl⟩
    · rintro e' ⟨h0', rfl⟩
      unfold laws_FnBases_j1 at h0'
      refine wpV_seqJ (fun e' => laws_FnBases_j2 x18 x x_1 x36 = some r' ∧ e' = { N := 147, np := 1, nx := 3, sl := [(3, .pl (.one (.ref 1 []))), (5, .pl (.one (.v (.sc (.int .i64 (x.tmod (x18.length : Int))))))), (6, .pl (.one (.v (.sc (.int .i64 (x_1.tmod (x18.length : Int))))))), (7, .pl (.one (.ref 2 [])))], ob := [(1, .list true 1 (List.map (rL true 1 (rK .i64)) x18)), (2, .list true 1 (List.map (rK .i64) x36))] }) ?_ ?_
      · refine wpV_seq1 ?_
        refine wpV_region ?_
        refine ops H' ?_
        refine opsN ?_
        obtain ⟨p, hl', h0'⟩ := Option.bind_eq_some_iff.1 h0'
        refine wpV_block ?_
        refine wpV_loopM (fun x_2 e' => e' = { N := 147, np := 1, nx := 4, sl := [(3, .pl (.one (.ref 1 []))), (5, .pl (.one (.v (.sc (.int .i64 (x.tmod (x18.length : Int))))))), (6, .pl (.one (.v (.sc (.int .i64 (x_1.tmod (x18.length : Int))))))), (7, .pl (.one (.ref 2 []))), (8, .pl (.one (.ref 3 []))), (11, .pl (.one (.v (.sc (.int .i64 x_2)))))], ob := [(1, .list true 1 (List.map (rL true 1 (rK .i64)) x18)), (2, .list true 1 (List.map (rK .i64) x36)), (3, .list true 1 (List.map (rK .i64) x40))] }) hl' (shd [3, 5, 6, 7, 8, 11] [(1, 1), (2, 2), (3, 3)] 4 rfl) ?_
        rintro x_2 y1' e' h1' rfl
        replace h1' : laws_FnBases_l1 x18 x x_1 x36 x40 x_2 = some y1' := h1'
        unfold laws_FnBases_l1 at h1'
        refine wpV_seq1 ?_
        refine wpV_seq1 ?_
        refine wpV_region ?_
        refine ops H' ?_
        refine opsN ?_
        refine wpV_split (fun hc' => ?_) (fun hc' => ?_)
        · replace h1' := (ifT hc').symm.trans h1'
          refine skipN ?_
          refine wpV_seqJ (fun e' => laws_FnBases_j3 x_2 = some y1' ∧ e' = { N := 147, np := 1, nx := 4, sl := [(3, .pl (.one (.ref 1 []))), (5, .pl (.one (.v (.sc (.int .i64 (x.tmod (x18.length : Int))))))), (6, .pl (.one (.v (.sc (.int .i64 (x_1.tmod (x18.length : Int))))))), (7, .pl (.one (.ref 2 []))), (8, .pl (.one (.ref 3 []))), (11, .pl (.one (.v (.sc (.int .i64 x_2)))))], ob := [(1, .list true 1 (List.map (rL true 1 (rK .i64)) x18)), (2, .list true 1 (List.map (rK .i64) x36)), (3, .list true 1 (List.map (rK .i64) x40))] }) ?_ ?_
          · refine wpV_block ?_
            refine wpV_seq1 ?_
            refine wpV_region ?_
            refine ops H' ?_
            obtain ⟨x95, hy', h1'⟩ := Option.bind_eq_some_iff.1 h1'
            refine callG H' (fun _ => []) (W_spec_IsAncestor _ _ _ _ hy') ?_
            refine ops H' ?_
            obtain ⟨b_2, gh1', h1'⟩ := Option.bind_eq_some_iff.1 h1'
            refine opsV_cut 5 (fun e' => e' = { N := 147, np := 1, nx := 4, sl := [(3, .pl (.one (.ref 1 []))), (5, .pl (.one (.v (.sc (.int .i64 (x.tmod (x18.length : Int))))))), (6, .pl (.one (.v (.sc (.int .i64 (x_1.tmod (x18.length : Int))))))), (7, .pl (.one (.ref 2 []))), (8, .pl (.one (.ref 3 []))), (11, .pl (.one (.v (.sc (.int .i64 x_2))))), (101, .pl (.one (.v (.sc (.bool b_2)))))], ob := [(1, .list true 1 (List.map (rL true 1 (rK .i64)) x18)), (2, .list true 1 (List.map (rK .i64) x36)), (3, .list true 1 (List.map (rK .i64) x40))] }) ?_ ?_
            · simp only [List.take_succ_cons, List.take_zero]
              refine opsV_sp (fun hc' => ?_) (fun hc' => ?_)
              · replace gh1' := (ifT hc').symm.trans gh1'
                refine ops H' ?_
                obtain ⟨x100, hy', gh1'⟩ := Option.bind_eq_some_iff.1 gh1'
                refine callG H' (fun _ => []) (W_spec_IsAncestor _ _ _ _ hy') ?_
                refine ops H' ?_
                obtain rfl := Option.some.inj gh1'
                refine opsV_nil ?_
                exact ⟨rfl, shd [3, 5, 6, 7, 8, 11, 101] [(1, 1), (2, 2), (3, 3)] 4 rfl⟩
              · replace gh1' := (ifF hc').symm.trans gh1'
                refine ops H' ?_
                obtain rfl := Option.some.inj gh1'
                refine opsV_nil ?_
                exact ⟨rfl, shd [3, 5, 6, 7, 8, 11, 101] [(1, 1), (2, 2), (3, 3)] 4 rfl⟩
            · rintro e' rfl
              simp only [List.drop_succ_cons, List.drop_zero]
              refine ops H' ?_
              refine opsN ?_
              refine wpV_seq1 ?_
              refine wpV_region ?_
              refine ops H' ?_
              refine opsN ?_
              refine wpV_seqJ (fun e' => ∃ under, laws_FnBases_j4 x40 x_2 b_2 under = some y1' ∧ e' = { N := 147, np := 1, nx := 4, sl := [(3, .pl (.one (.ref 1 []))), (5, .pl (.one (.v (.sc (.int .i64 (x.tmod (x18.length : Int))))))), (6, .pl (.one (.v (.sc (.int .i64 (x_1.tmod (x18.length : Int))))))), (7, .pl (.one (.ref 2 []))), (8, .pl (.one (.ref 3 []))), (11, .pl (.one (.v (.sc (.int .i64 x_2))))), (12, .pl (.one (.v (.sc (.bool b_2))))), (13, .pl (.one (.v (.sc (.bool under)))))], ob := [(1, .list true 1 (List.map (rL true 1 (rK .i64)) x18)), (2, .list true 1 (List.map (rK .i64) x36)), (3, .list true 1 (List.map (rK .i64) x40))] }) ?_ ?_
              · refine wpV_seq1 ?_
                refine wpV_region ?_
                refine ops H' ?_
                refine opsN ?_
                obtain ⟨p_1, hl', h1'⟩ := Option.bind_eq_some_iff.1 h1'
                refine wpV_block ?_
                refine wpV_loopM (fun s' e' => ∃ under_1 k, s' = (under_1, k) ∧ e' = { N := 147, np := 1, nx := 4, sl := [(3, .pl (.one (.ref 1 []))), (5, .pl (.one (.v (.sc (.int .i64 (x.tmod (x18.length : Int))))))), (6, .pl (.one (.v (.sc (.int .i64 (x_1.tmod (x18.length : Int))))))), (7, .pl (.one (.ref 2 []))), (8, .pl (.one (.ref 3 []))), (11, .pl (.one (.v (.sc (.int .i64 x_2))))), (12, .pl (.one (.v (.sc (.bool b_2))))), (13, .pl (.one (.v (.sc (.bool under_1))))), (14, .pl (.one (.v (.sc (.int .i64 k)))))], ob := [(1, .list true 1 (List.map (rL true 1 (rK .i64)) x18)), (2, .list true 1 (List.map (rK .i64) x36)), (3, .list true 1 (List.map (rK .i64) x40))] }) hl' (shd [3, 5, 6, 7, 8, 11, 12, 13, 14] [(1, 1), (2, 2), (3, 3)] 4 ⟨_, _, rfl, rfl⟩) ?_
                rintro s' y2' e' h2' ⟨under_1, k, rfl, rfl⟩
                replace h2' : laws_FnBases_l2 x18 x36 x_2 under_1 k = some y2' := h2'
                unfold laws_FnBases_l2 at h2'
                refine wpV_seq1 ?_
                refine wpV_seq1 ?_
                refine wpV_region ?_
                refine ops H' ?_
                refine opsN ?_
                refine wpV_split (fun hc' => ?_) (fun hc' => ?_)
                · replace h2' := (ifT hc').symm.trans h2'
                  refine skipN ?_
                  refine wpV_seq1 ?_
                  refine wpV_block ?_
                  refine wpV_region ?_
                  refine ops H' ?_
                  obtain ⟨b_4, gh2', h2'⟩ := Option.bind_eq_some_iff.1 h2'
                  refine opsV_cut 8 (fun e' => e' = { N := 147, np := 1, nx := 4, sl := [(3, .pl (.one (.ref 1 []))), (5, .pl (.one (.v (.sc (.int .i64 (x.tmod (x18.length : Int))))))), (6, .pl (.one (.v (.sc (.int .i64 (x_1.tmod (x18.length : Int))))))), (7, .pl (.one (.ref 2 []))), (8, .pl (.one (.ref 3 []))), (11, .pl (.one (.v (.sc (.int .i64 x_2))))), (12, .pl (.one (.v (.sc (.bool b_2))))), (14, .pl (.one (.v (.sc (.int .i64 k))))), (117, .pl (.one (.v (.sc (.bool b_4)))))], ob := [(1, .list true 1 (List.map (rL true 1 (rK .i64)) x18)), (2, .list true 1 (List.map (rK .i64) x36)), (3, .list true 1 (List.map (rK .i64) x40))] }) ?_ ?_
                  · simp only [List.take_succ_cons, List.take_zero]
                    refine opsV_sp (fun hc' => ?_) (fun hc' => ?_)
                    · replace gh2' := (ifF hc').symm.trans gh2'
                      obtain ⟨x_3, hv', gh2'⟩ := Option.bind_eq_some_iff.1 gh2'
                      have H' := And.intro (geti_f hv') H'
                      refine ops H' ?_
                      obtain ⟨x116, hy', gh2'⟩ := Option.bind_eq_some_iff.1 gh2'
                      refine callG H' (fun _ => []) (W_spec_IsAncestor _ _ _ _ hy') ?_
                      refine ops H' ?_
                      obtain rfl := Option.some.inj gh2'
                      refine opsV_nil ?_
                      exact ⟨rfl, shd [3, 5, 6, 7, 8, 11, 12, 14, 117] [(1, 1), (2, 2), (3, 3)] 4 rfl⟩
                    · replace gh2' := (ifT hc').symm.trans gh2'
                      refine ops H' ?_
                      obtain rfl := Option.some.inj gh2'
                      refine opsV_nil ?_
                      exact ⟨rfl, shd [3, 5, 6, 7, 8, 11, 12, 14, 117] [(1, 1), (2, 2), (3, 3)] 4 rfl⟩
                  · rintro e' rfl
                    simp only [List.drop_succ_cons, List.drop_zero]
                    refine ops H' ?_
                    refine opsN ?_
                    refine wpV_region ?_
                    refine ops H' ?_
                    refine opsN ?_
                    obtain rfl := Option.some.inj h2'
                    exact shd [3, 5, 6, 7, 8, 11, 12, 13, 14] [(1, 1), (2, 2), (3, 3)] 4 ⟨_, rfl, _, _, rfl, rfl⟩
                · replace h2' := (ifF hc').symm.trans h2'
                  refine exitN ?_
                  obtain rfl := Option.some.inj h2'
                  refine ⟨_, rfl, fun hr' => ?_⟩
                  subst hr'
                  exact shd [3, 5, 6, 7, 8, 11, 12, 13] [(1, 1), (2, 2), (3, 3)] 4 ⟨_, h1', rfl⟩
              · rintro e' ⟨under, h1', rfl⟩
                unfold laws_FnBases_j4 at h1'
                refine wpV_seq1 ?_
                refine wpV_region ?_
                refine ops H' ?_
                obtain ⟨b_3, gh1', h1'⟩ := Option.bind_eq_some_iff.1 h1'
                refine opsV_cut 6 (fun e' => e' = { N := 147, np := 1, nx := 4, sl := [(3, .pl (.one (.ref 1 []))), (5, .pl (.one (.v (.sc (.int .i64 (x.tmod (x18.length : Int))))))), (6, .pl (.one (.v (.sc (.int .i64 (x_1.tmod (x18.length : Int))))))), (7, .pl (.one (.ref 2 []))), (8, .pl (.one (.ref 3 []))), (11, .pl (.one (.v (.sc (.int .i64 x_2))))), (127, .pl (.one (.v (.sc (.bool b_3)))))], ob := [(1, .list true 1 (List.map (rL true 1 (rK .i64)) x18)), (2, .list true 1 (List.map (rK .i64) x36)), (3, .list true 1 (List.map (rK .i64) x40))] }) ?_ ?_
                · simp only [List.take_succ_cons, List.take_zero]
                  refine opsV_sp (fun hc' => ?_) (fun hc' => ?_)
                  · replace gh1' := (ifF hc').symm.trans gh1'
                    refine ops H' ?_
                    obtain ⟨x125, hy', gh1'⟩ := Option.bind_eq_some_iff.1 gh1'
                    refine callG H' (fun _ => []) (W_laws_within _ _ _ hy') ?_
                    refine ops H' ?_
                    obtain rfl := Option.some.inj gh1'
                    refine opsV_nil ?_
                    exact ⟨rfl, shd [3, 5, 6, 7, 8, 11, 127] [(1, 1), (2, 2), (3, 3)] 4 rfl⟩
                  · replace gh1' := (ifT hc').symm.trans gh1'
                    refine ops H' ?_
                    obtain rfl := Option.some.inj gh1'
                    refine opsV_nil ?_
                    exact ⟨rfl, shd [3, 5, 6, 7, 8, 11, 127] [(1, 1), (2, 2), (3, 3)] 4 rfl⟩
                · rintro e' rfl
                  simp only [List.drop_succ_cons, List.drop_zero]
                  refine opsN ?_
                  refine wpV_split (fun hc' => ?_) (fun hc' => ?_)
                  · replace h1' := (ifT hc').symm.trans h1'
                    refine wpV_seq1 ?_
                    refine wpV_region ?_
                    refine ops H' ?_
                    refine opsN ?_
                    refine retN ?_
                    obtain rfl := Option.some.inj h1'
                    refine ⟨_, rfl, fun hr' => ?_⟩
                    subst hr'
                    obtain rfl := Option.some.inj h0'
                    exact outG H' rfl rfl
                  · replace h1' := (ifF hc').symm.trans h1'
                    refine skipN ?_
                    exact shd [3, 5, 6, 7, 8, 11] [(1, 1), (2, 2), (3, 3)] 4 ⟨h1', rfl⟩
          · rintro e' ⟨h1', rfl⟩
            unfold laws_FnBases_j3 at h1'
            refine wpV_region ?_
            refine ops H' ?_
            refine opsN ?_
            obtain rfl := Option.some.inj h1'
            exact shd [3, 5, 6, 7, 8, 11] [(1, 1), (2, 2), (3, 3)] 4 ⟨_, rfl, rfl⟩
        · replace h1' := (ifF hc').symm.trans h1'
          refine exitN ?_
          obtain rfl := Option.some.inj h1'
          refine ⟨_, rfl, fun hr' => ?_⟩
          subst hr'
          exact shd [3, 5, 6, 7] [(1, 1), (2, 2)] 3 ⟨h0', rfl⟩
      · rintro e' ⟨h0', rfl⟩
        unfold laws_FnBases_j2 at h0'
        refine wpV_seq1 ?_
        refine wpV_region ?_
        refine ops H' ?_
        obtain ⟨x132, hy', h0'⟩ := Option.bind_eq_some_iff.1 h0'
        refine callG H' (fun _ => []) (W_impl_Bases _ _ _ _ hy') ?_
        obtain ⟨x133, hy', h0'⟩ := Option.bind_eq_some_iff.1 h0'
        refine callG H' (fun _ => []) (W_laws_sameInts _ _ _ hy') ?_
        refine ops H' ?_
        obtain ⟨b, gh0', h0'⟩ := Option.bind_eq_some_iff.1 h0'
        refine opsV_cut 12 (fun e' => e' = { N := 147, np := 1, nx := 1, sl := [(146, .pl (.one (.v (.sc (.bool b)))))], ob := [] }) ?_ ?_
        · simp only [List.take_succ_cons, List.take_zero]
          refine opsV_sp (fun hc' => ?_) (fun hc' => ?_)
          · replace gh0' := (ifT hc').symm.trans gh0'
            refine ops H' ?_
            obtain ⟨x138, hy', gh0'⟩ := Option.bind_eq_some_iff.1 gh0'
            refine callG H' (fun _ => []) (W_spec_IsAncestor _ _ _ _ hy') ?_
            refine ops H' ?_
            obtain ⟨b_1, ggh0', gh0'⟩ := Option.bind_eq_some_iff.1 gh0'
            refine opsV_cut 5 (fun e' => e' = { N := 147, np := 1, nx := 1, sl := [(134, .pl (.one (.v (.sc (.bool true))))), (145, .pl (.one (.v (.sc (.bool b_1)))))], ob := [] }) ?_ ?_
            · simp only [List.take_succ_cons, List.take_zero]
              refine opsV_sp (fun hc' => ?_) (fun hc' => ?_)
              · replace ggh0' := (ifF hc').symm.trans ggh0'
                refine ops H' ?_
                obtain ⟨x144, hy', ggh0'⟩ := Option.bind_eq_some_iff.1 ggh0'
                refine callG H' (fun _ => []) (W_laws_sameInts _ _ _ hy') ?_
                refine ops H' ?_
                obtain rfl := Option.some.inj ggh0'
                refine opsV_nil ?_
                exact ⟨rfl, shd [134, 145] [] 1 rfl⟩
              · replace ggh0' := (ifT hc').symm.trans ggh0'
                refine ops H' ?_
                obtain rfl := Option.some.inj ggh0'
                refine opsV_nil ?_
                exact ⟨rfl, shd [134, 145] [] 1 rfl⟩
            · rintro e' rfl
              simp only [List.drop_succ_cons, List.drop_zero]
              refine ops H' ?_
              obtain rfl := Option.some.inj gh0'
              refine opsV_nil ?_
              exact ⟨rfl, shd [146] [] 1 rfl⟩
          · replace gh0' := (ifF hc').symm.trans gh0'
            refine ops H' ?_
            obtain rfl := Option.some.inj gh0'
            refine opsV_nil ?_
            exact ⟨rfl, shd [146] [] 1 rfl⟩
        · rintro e' rfl
          simp only [List.drop_succ_cons, List.drop_zero]
          refine ops H' ?_
          refine opsN ?_
          refine retN ?_
          obtain rfl := Option.some.inj h0'
          exact outG H' rfl rfl
end Go.TV.KFnBases
