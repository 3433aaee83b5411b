/- Walks. -/
import Derived.Test.YthfhiepgdeghpaaKFnExactLogOfE
set_option linter.unusedVariables false
set_option linter.unusedSimpArgs false
set_option maxHeartbeats 8000000
set_option maxRecDepth 100000
namespace Go.TV.KFnExactLogOf
attribute [local irreducible] anyV wpV opsV Does thenV blockV RetL quV seqV
open Go.Proofs.Try Go.TV.F
theorem W_laws_szIntS (a : List Int) (left : Int) (r' : Int) (h0' : laws_szIntS a left = some r') : Fn X 149 [.one (.list false 1 (List.map (rK .i64) a)), .one (.sc (.int .i64 left))] [.one (.sc (.int .i64 r'))] [] := by
  have H' := And.intro t3 (And.intro t44 (R_i64))
  unfold laws_szIntS at h0'
  refine Fn.start (fn := f149) (N := 12) (res := [.tmp 4]) rfl rfl rfl rfl rfl (by simp) ?_
  refine enterG H' ?_
  refine wpV_seq1 ?_
  refine wpV_region ?_
  refine ops H' ?_
  refine opsN ?_
  refine wpV_seq1 ?_
  refine wpV_region ?_
  refine ops H' ?_
  refine opsN ?_
  refine wpV_seq1 ?_
  refine wpV_seq1 ?_
  refine wpV_region ?_
  refine ops H' ?_
  refine opsN ?_
  refine wpV_split (fun hc' => ?_) (fun hc' => ?_)
  · replace h0' := (ifT hc').symm.trans h0'
    refine wpV_seq1 ?_
    refine wpV_region ?_
    refine ops H' ?_
    refine opsN ?_
    refine retN ?_
    obtain rfl := Option.some.inj h0'
    exact outG H' rfl rfl
  · replace h0' := (ifF hc').symm.trans h0'
    refine skipN ?_
    refine wpV_seq1 ?_
    refine wpV_region ?_
    refine ops H' ?_
    refine opsN ?_
    refine retN ?_
    obtain rfl := Option.some.inj h0'
    exact outG H' rfl rfl
theorem W_laws_szName (a : T_laws_Name) (left : Int) (r' : Int) (h0' : laws_szName a left = some r') : Fn X 196 [.agg [.sc (.string a.Path), .sc (.int .i64 a.Id), .sc (.int .i64 a.Version)], .one (.sc (.int .i64 left))] [.one (.sc (.int .i64 r'))] [] := by
  have H' := And.intro t3 (And.intro t9 (t222))
  unfold laws_szName at h0'
  refine Fn.start (fn := f196) (N := 13) (res := [.tmp 4]) rfl rfl rfl rfl rfl (by simp) ?_
  refine enterG H' ?_
  refine wpV_seq1 ?_
  refine wpV_region ?_
  refine ops H' ?_
  refine opsN ?_
  refine wpV_seq1 ?_
  refine wpV_region ?_
  refine ops H' ?_
  refine opsN ?_
  refine wpV_seq1 ?_
  refine wpV_seq1 ?_
  refine wpV_region ?_
  refine ops H' ?_
  refine opsN ?_
  refine wpV_split (fun hc' => ?_) (fun hc' => ?_)
  · replace h0' := (ifT hc').symm.trans h0'
    refine wpV_seq1 ?_
    refine wpV_region ?_
    refine ops H' ?_
    refine opsN ?_
    refine retN ?_
    obtain rfl := Option.some.inj h0'
    exact outG H' rfl rfl
  · replace h0' := (ifF hc').symm.trans h0'
    refine skipN ?_
    refine wpV_seq1 ?_
    refine wpV_region ?_
    refine ops H' ?_
    refine opsN ?_
    refine retN ?_
    obtain rfl := Option.some.inj h0'
    exact outG H' rfl rfl
theorem W_laws_szNameS (a : List T_laws_Name) (left : Int) (r' : Int) (h0' : laws_szNameS a left = some r') : Fn X 176 [.one (.list false 3 (List.map (r_T_laws_Name false) a)), .one (.sc (.int .i64 left))] [.one (.sc (.int .i64 r'))] [] := by
  have H' := And.intro t3 (And.intro t150 (And.intro t222 (R_T_laws_Name)))
  unfold laws_szNameS at h0'
  refine Fn.start (fn := f176) (N := 27) (res := [.tmp 4]) rfl rfl rfl rfl rfl (by simp) ?_
  refine enterG H' ?_
  refine wpV_seq1 ?_
  refine wpV_region ?_
  refine ops H' ?_
  refine opsN ?_
  refine wpV_seq1 ?_
  refine wpV_region ?_
  refine ops H' ?_
  refine opsN ?_
  refine wpV_seq1 ?_
  refine wpV_seq1 ?_
  refine wpV_region ?_
  refine ops H' ?_
  refine opsN ?_
  refine wpV_split (fun hc' => ?_) (fun hc' => ?_)
  · replace h0' := (ifT hc').symm.trans h0'
    refine wpV_seq1 ?_
    refine wpV_region ?_
    refine ops H' ?_
    refine opsN ?_
    refine retN ?_
    obtain rfl := Option.some.inj h0'
    exact outG H' rfl rfl
  · replace h0' := (ifF hc').symm.trans h0'
    refine skipN ?_
    refine wpV_seqJ (fun e' => ∃ left_1, laws_szNameS_j1 left_1 = some r' ∧ e' = { N := 27, np := 2, nx := 2, sl := [(1, .pl (.one (.v (.sc (.int .i64 left_1)))))], ob := [] }) ?_ ?_
    · refine wpV_seq1 ?_
      refine wpV_region ?_
      refine ops H' ?_
      refine opsN ?_
      obtain ⟨p, hl', h0'⟩ := Option.bind_eq_some_iff.1 h0'
      refine wpV_block ?_
      refine wpV_loopM (fun s' e' => ∃ left_2 i, s' = (left_2, i) ∧ e' = { N := 27, np := 2, nx := 2, sl := [(0, .pl (.one (.v (.list false 3 (List.map (r_T_laws_Name false) a))))), (1, .pl (.one (.v (.sc (.int .i64 left_2))))), (5, .pl (.one (.v (.sc (.int .i64 i)))))], ob := [] }) hl' (shd [0, 1, 5] [] 2 ⟨_, _, rfl, rfl⟩) ?_
      rintro s' y1' e' h1' ⟨left_2, i, rfl, rfl⟩
      replace h1' : laws_szNameS_l1 a left_2 i = some y1' := h1'
      unfold laws_szNameS_l1 at h1'
      refine wpV_seq1 ?_
      refine wpV_seq1 ?_
      refine wpV_region ?_
      refine ops H' ?_
      refine opsN ?_
      refine wpV_split (fun hc' => ?_) (fun hc' => ?_)
      · replace h1' := (ifT hc').symm.trans h1'
        refine skipN ?_
        refine wpV_seq1 ?_
        refine wpV_block ?_
        refine wpV_seq1 ?_
        refine wpV_region ?_
        obtain ⟨x, hv', h1'⟩ := Option.bind_eq_some_iff.1 h1'
        have H' := And.intro (geti_f hv') H'
        refine ops H' ?_
        obtain ⟨x23, hy', h1'⟩ := Option.bind_eq_some_iff.1 h1'
        refine callG H' (fun _ => []) (W_laws_szName _ _ _ hy') ?_
        refine ops H' ?_
        refine opsN ?_
        refine wpV_seq1 ?_
        refine wpV_region ?_
        refine ops H' ?_
        refine opsN ?_
        refine wpV_split (fun hc' => ?_) (fun hc' => ?_)
        · replace h1' := (ifT hc').symm.trans h1'
          refine wpV_seq1 ?_
          refine wpV_region ?_
          refine ops H' ?_
          refine opsN ?_
          refine retN ?_
          obtain rfl := Option.some.inj h1'
          refine ⟨_, rfl, fun hr' => ?_⟩
          subst hr'
          obtain rfl := Option.some.inj h0'
          exact outG H' rfl rfl
        · replace h1' := (ifF hc').symm.trans h1'
          refine skipN ?_
          refine wpV_region ?_
          refine ops H' ?_
          refine opsN ?_
          obtain rfl := Option.some.inj h1'
          exact shd [0, 1, 5] [] 2 ⟨_, rfl, _, _, rfl, rfl⟩
      · replace h1' := (ifF hc').symm.trans h1'
        refine exitN ?_
        obtain rfl := Option.some.inj h1'
        refine ⟨_, rfl, fun hr' => ?_⟩
        subst hr'
        exact shd [1] [] 2 ⟨_, h0', rfl⟩
    · rintro e' ⟨left_1, h0', rfl⟩
      unfold laws_szNameS_j1 at h0'
      refine wpV_seq1 ?_
      refine wpV_region ?_
      refine ops H' ?_
      refine opsN ?_
      refine retN ?_
      obtain rfl := Option.some.inj h0'
      exact outG H' rfl rfl
theorem W_laws_szCommit (a : T_laws_Commit) (left : Int) (r' : Int) (h0' : laws_szCommit a left = some r') : Fn X 112 [.agg [.list false 1 (List.map (rK .i64) a.Parents), .sc (.string a.Note), .list false 3 (List.map (r_T_laws_Name false) a.Names)], .one (.sc (.int .i64 left))] [.one (.sc (.int .i64 r'))] [] := by
  have H' := And.intro t3 (And.intro t9 (And.intro t44 (And.intro t150 (And.intro t152 (And.intro R_T_laws_Name (R_i64))))))
  unfold laws_szCommit at h0'
  refine Fn.start (fn := f112) (N := 25) (res := [.tmp 4]) rfl rfl rfl rfl rfl (by simp) ?_
  refine enterG H' ?_
  refine wpV_seq1 ?_
  refine wpV_region ?_
  refine ops H' ?_
  refine opsN ?_
  refine wpV_seq1 ?_
  refine wpV_region ?_
  refine ops H' ?_
  obtain ⟨x8, hy', h0'⟩ := Option.bind_eq_some_iff.1 h0'
  refine callG H' (fun _ => []) (W_laws_szIntS _ _ _ hy') ?_
  refine ops H' ?_
  refine opsN ?_
  refine wpV_seq1 ?_
  refine wpV_seq1 ?_
  refine wpV_region ?_
  refine ops H' ?_
  refine opsN ?_
  refine wpV_split (fun hc' => ?_) (fun hc' => ?_)
  · replace h0' := (ifT hc').symm.trans h0'
    refine wpV_seq1 ?_
    refine wpV_region ?_
    refine ops H' ?_
    refine opsN ?_
    refine retN ?_
    obtain rfl := Option.some.inj h0'
    exact outG H' rfl rfl
  · replace h0' := (ifF hc').symm.trans h0'
    refine skipN ?_
    refine wpV_seq1 ?_
    refine wpV_region ?_
    refine ops H' ?_
    refine opsN ?_
    refine wpV_seq1 ?_
    refine wpV_seq1 ?_
    refine wpV_region ?_
    refine ops H' ?_
    refine opsN ?_
    refine wpV_split (fun hc' => ?_) (fun hc' => ?_)
    · replace h0' := (ifT hc').symm.trans h0'
      refine wpV_seq1 ?_
      refine wpV_region ?_
      refine ops H' ?_
      refine opsN ?_
      refine retN ?_
      obtain rfl := Option.some.inj h0'
      exact outG H' rfl rfl
    · replace h0' := (ifF hc').symm.trans h0'
      refine skipN ?_
      refine wpV_seq1 ?_
      refine wpV_region ?_
      refine ops H' ?_
      obtain ⟨x21, hy', h0'⟩ := Option.bind_eq_some_iff.1 h0'
      refine callG H' (fun _ => []) (W_laws_szNameS _ _ _ hy') ?_
      refine ops H' ?_
      refine opsN ?_
      refine wpV_seq1 ?_
      refine wpV_seq1 ?_
      refine wpV_region ?_
      refine ops H' ?_
      refine opsN ?_
      refine wpV_split (fun hc' => ?_) (fun hc' => ?_)
      · replace h0' := (ifT hc').symm.trans h0'
        refine wpV_seq1 ?_
        refine wpV_region ?_
        refine ops H' ?_
        refine opsN ?_
        refine retN ?_
        obtain rfl := Option.some.inj h0'
        exact outG H' rfl rfl
      · replace h0' := (ifF hc').symm.trans h0'
        refine skipN ?_
        refine wpV_seq1 ?_
        refine wpV_region ?_
        refine ops H' ?_
        refine opsN ?_
        refine retN ?_
        obtain rfl := Option.some.inj h0'
        exact outG H' rfl rfl
theorem W_laws_szCommitS (a : List T_laws_Commit) (left : Int) (r' : Int) (h0' : laws_szCommitS a left = some r') : Fn X 42 [.one (.list false 3 (List.map (r_T_laws_Commit false) a)), .one (.sc (.int .i64 left))] [.one (.sc (.int .i64 r'))] [] := by
  have H' := And.intro t3 (And.intro t67 (And.intro t152 (And.intro R_T_laws_Commit (And.intro R_T_laws_Name (R_i64)))))
  unfold laws_szCommitS at h0'
  refine Fn.start (fn := f42) (N := 27) (res := [.tmp 4]) rfl rfl rfl rfl rfl (by simp) ?_
  refine enterG H' ?_
  refine wpV_seq1 ?_
  refine wpV_region ?_
  refine ops H' ?_
  refine opsN ?_
  refine wpV_seq1 ?_
  refine wpV_region ?_
  refine ops H' ?_
  refine opsN ?_
  refine wpV_seq1 ?_
  refine wpV_seq1 ?_
  refine wpV_region ?_
  refine ops H' ?_
  refine opsN ?_
  refine wpV_split (fun hc' => ?_) (fun hc' => ?_)
  · replace h0' := (ifT hc').symm.trans h0'
    refine wpV_seq1 ?_
    refine wpV_region ?_
    refine ops H' ?_
    refine opsN ?_
    refine retN ?_
    obtain rfl := Option.some.inj h0'
    exact outG H' rfl rfl
  · replace h0' := (ifF hc').symm.trans h0'
    refine skipN ?_
    refine wpV_seqJ (fun e' => ∃ left_1, laws_szCommitS_j1 left_1 = some r' ∧ e' = { N := 27, np := 2, nx := 2, sl := [(1, .pl (.one (.v (.sc (.int .i64 left_1)))))], ob := [] }) ?_ ?_
    · refine wpV_seq1 ?_
      refine wpV_region ?_
      refine ops H' ?_
      refine opsN ?_
      obtain ⟨p, hl', h0'⟩ := Option.bind_eq_some_iff.1 h0'
      refine wpV_block ?_
      refine wpV_loopM (fun s' e' => ∃ left_2 i, s' = (left_2, i) ∧ e' = { N := 27, np := 2, nx := 2, sl := [(0, .pl (.one (.v (.list false 3 (List.map (r_T_laws_Commit false) a))))), (1, .pl (.one (.v (.sc (.int .i64 left_2))))), (5, .pl (.one (.v (.sc (.int .i64 i)))))], ob := [] }) hl' (shd [0, 1, 5] [] 2 ⟨_, _, rfl, rfl⟩) ?_
      rintro s' y1' e' h1' ⟨left_2, i, rfl, rfl⟩
      replace h1' : laws_szCommitS_l1 a left_2 i = some y1' := h1'
      unfold laws_szCommitS_l1 at h1'
      refine wpV_seq1 ?_
      refine wpV_seq1 ?_
      refine wpV_region ?_
      refine ops H' ?_
      refine opsN ?_
      refine wpV_split (fun hc' => ?_) (fun hc' => ?_)
      · replace h1' := (ifT hc').symm.trans h1'
        refine skipN ?_
        refine wpV_seq1 ?_
        refine wpV_block ?_
        refine wpV_seq1 ?_
        refine wpV_region ?_
        obtain ⟨x, hv', h1'⟩ := Option.bind_eq_some_iff.1 h1'
        have H' := And.intro (geti_f hv') H'
        refine ops H' ?_
        obtain ⟨x23, hy', h1'⟩ := Option.bind_eq_some_iff.1 h1'
        refine callG H' (fun _ => []) (W_laws_szCommit _ _ _ hy') ?_
        refine ops H' ?_
        refine opsN ?_
        refine wpV_seq1 ?_
        refine wpV_region ?_
        refine ops H' ?_
        refine opsN ?_
        refine wpV_split (fun hc' => ?_) (fun hc' => ?_)
        · replace h1' := (ifT hc').symm.trans h1'
          refine wpV_seq1 ?_
          refine wpV_region ?_
          refine ops H' ?_
          refine opsN ?_
          refine retN ?_
          obtain rfl := Option.some.inj h1'
          refine ⟨_, rfl, fun hr' => ?_⟩
          subst hr'
          obtain rfl := Option.some.inj h0'
          exact outG H' rfl rfl
        · replace h1' := (ifF hc').symm.trans h1'
          refine skipN ?_
          refine wpV_region ?_
          refine ops H' ?_
          refine opsN ?_
          obtain rfl := Option.some.inj h1'
          exact shd [0, 1, 5] [] 2 ⟨_, rfl, _, _, rfl, rfl⟩
      · replace h1' := (ifF hc').symm.trans h1'
        refine exitN ?_
        obtain rfl := Option.some.inj h1'
        refine ⟨_, rfl, fun hr' => ?_⟩
        subst hr'
        exact shd [1] [] 2 ⟨_, h0', rfl⟩
    · rintro e' ⟨left_1, h0', rfl⟩
      unfold laws_szCommitS_j1 at h0'
      refine wpV_seq1 ?_
      refine wpV_region ?_
      refine ops H' ?_
      refine opsN ?_
      refine retN ?_
      obtain rfl := Option.some.inj h0'
      exact outG H' rfl rfl
theorem W_laws_toIntS (a : List Int) (r' : (List Int)) (h0' : laws_toIntS a = some r') : Fn X 33 [.one (.list false 1 (List.map (rK .i64) a))] [.one (.list true 1 (List.map (rK .i64) r'))] [] := by
  have H' := And.intro t3 (And.intro t44 (R_i64))
  unfold laws_toIntS at h0'
  refine Fn.start (fn := f33) (N := 22) (res := [.tmp 2]) rfl rfl rfl rfl rfl (by simp) ?_
  refine enterG H' ?_
  refine wpV_seq1 ?_
  refine wpV_region ?_
  refine ops H' ?_
  refine opsN ?_
  refine wpV_seq1 ?_
  refine wpV_region ?_
  obtain ⟨x7, hv', h0'⟩ := Option.bind_eq_some_iff.1 h0'
  have H' := And.intro (mkl_f hv') H'
  refine ops H' ?_
  refine opsN ?_
  refine wpV_seqJ (fun e' => ∃ out_, laws_toIntS_j1 out_ = some r' ∧ e' = { N := 22, np := 1, nx := 2, sl := [(3, .pl (.one (.ref 1 [])))], ob := [(1, .list true 1 (List.map (rK .i64) out_))] }) ?_ ?_
  · refine wpV_seq1 ?_
    refine wpV_region ?_
    refine ops H' ?_
    refine opsN ?_
    obtain ⟨p, hl', h0'⟩ := Option.bind_eq_some_iff.1 h0'
    refine wpV_block ?_
    refine wpV_loopM (fun s' e' => ∃ i out__1, s' = (i, out__1) ∧ e' = { N := 22, np := 1, nx := 2, sl := [(0, .pl (.one (.v (.list false 1 (List.map (rK .i64) a))))), (3, .pl (.one (.ref 1 []))), (4, .pl (.one (.v (.sc (.int .i64 i)))))], ob := [(1, .list true 1 (List.map (rK .i64) out__1))] }) hl' (shd [0, 3, 4] [(2, 1)] 2 ⟨_, _, rfl, rfl⟩) ?_
    rintro s' y1' e' h1' ⟨i, out__1, rfl, rfl⟩
    replace h1' : laws_toIntS_l1 a i out__1 = some y1' := h1'
    unfold laws_toIntS_l1 at h1'
    refine wpV_seq1 ?_
    refine wpV_seq1 ?_
    refine wpV_region ?_
    refine ops H' ?_
    refine opsN ?_
    refine wpV_split (fun hc' => ?_) (fun hc' => ?_)
    · replace h1' := (ifT hc').symm.trans h1'
      refine skipN ?_
      refine wpV_seq1 ?_
      refine wpV_block ?_
      refine wpV_region ?_
      obtain ⟨x, hv', h1'⟩ := Option.bind_eq_some_iff.1 h1'
      have H' := And.intro (geti_f hv') H'
      obtain ⟨x_1, hv', h1'⟩ := Option.bind_eq_some_iff.1 h1'
      have H' := And.intro (geti_f hv') H'
      refine ops H' ?_
      refine opsN ?_
      refine wpV_region ?_
      refine ops H' ?_
      refine opsN ?_
      obtain rfl := Option.some.inj h1'
      exact shd [0, 3, 4] [(1, 1)] 2 ⟨_, rfl, _, _, rfl, rfl⟩
    · replace h1' := (ifF hc').symm.trans h1'
      refine exitN ?_
      obtain rfl := Option.some.inj h1'
      refine ⟨_, rfl, fun hr' => ?_⟩
      subst hr'
      exact shd [3] [(1, 1)] 2 ⟨_, h0', rfl⟩
  · rintro e' ⟨out_, h0', rfl⟩
    unfold laws_toIntS_j1 at h0'
    refine wpV_seq1 ?_
    refine wpV_region ?_
    refine ops H' ?_
    refine opsN ?_
    refine retN ?_
    obtain rfl := Option.some.inj h0'
    exact outG H' rfl rfl
theorem W_laws_toName (a : T_laws_Name) (r' : T_impl_Name) (h0' : laws_toName a = some r') : Fn X 198 [.agg [.sc (.string a.Path), .sc (.int .i64 a.Id), .sc (.int .i64 a.Version)]] [.agg [.sc (.string r'.Path), .sc (.int .i64 r'.Id), .sc (.int .i64 r'.Version)]] [] := by
  have H' := And.intro t3 (And.intro t9 (And.intro t88 (t222)))
  unfold laws_toName at h0'
  refine Fn.start (fn := f198) (N := 14) (res := [.cell 2 88]) rfl rfl rfl rfl rfl (by simp) ?_
  refine enterG H' ?_
  refine wpV_seq1 ?_
  refine wpV_region ?_
  refine ops H' ?_
  refine opsN ?_
  refine wpV_seq1 ?_
  refine wpV_region ?_
  refine ops H' ?_
  refine opsN ?_
  refine wpV_seq1 ?_
  refine wpV_region ?_
  refine ops H' ?_
  refine opsN ?_
  refine wpV_seq1 ?_
  refine wpV_region ?_
  refine ops H' ?_
  refine opsN ?_
  refine wpV_seq1 ?_
  refine wpV_region ?_
  refine ops H' ?_
  refine opsN ?_
  refine wpV_seq1 ?_
  refine wpV_region ?_
  refine ops H' ?_
  refine opsN ?_
  refine retN ?_
  obtain rfl := Option.some.inj h0'
  exact outC H' rfl rfl
theorem W_laws_toNameS (a : List T_laws_Name) (r' : (List T_impl_Name)) (h0' : laws_toNameS a = some r') : Fn X 179 [.one (.list false 3 (List.map (r_T_laws_Name false) a))] [.one (.list true 3 (List.map (r_T_impl_Name true) r'))] [] := by
  have H' := And.intro t3 (And.intro t83 (And.intro t88 (And.intro t150 (And.intro t222 (And.intro R_T_impl_Name (R_T_laws_Name))))))
  unfold laws_toNameS at h0'
  refine Fn.start (fn := f179) (N := 23) (res := [.tmp 2]) rfl rfl rfl rfl rfl (by simp) ?_
  refine enterG H' ?_
  refine wpV_seq1 ?_
  refine wpV_region ?_
  refine opsV_nilA H' 3 ?_
  refine opsN ?_
  refine wpV_seq1 ?_
  refine wpV_region ?_
  obtain ⟨x7, hv', h0'⟩ := Option.bind_eq_some_iff.1 h0'
  have H' := And.intro (mklR_f (r_T_impl_Name true) [.sc (.string (ByteArray.mk #[])), .sc (.int .i64 0), .sc (.int .i64 0)] (by rfl) hv') H'
  refine ops H' ?_
  refine opsN ?_
  refine wpV_seqJ (fun e' => ∃ out_, laws_toNameS_j1 out_ = some r' ∧ e' = { N := 23, np := 1, nx := 2, sl := [(3, .pl (.one (.ref 1 [])))], ob := [(1, .list true 3 (List.map (r_T_impl_Name true) out_))] }) ?_ ?_
  · refine wpV_seq1 ?_
    refine wpV_region ?_
    refine ops H' ?_
    refine opsN ?_
    obtain ⟨p, hl', h0'⟩ := Option.bind_eq_some_iff.1 h0'
    refine wpV_block ?_
    refine wpV_loopM (fun s' e' => ∃ i out__1, s' = (i, out__1) ∧ e' = { N := 23, np := 1, nx := 2, sl := [(0, .pl (.one (.v (.list false 3 (List.map (r_T_laws_Name false) a))))), (3, .pl (.one (.ref 1 []))), (4, .pl (.one (.v (.sc (.int .i64 i)))))], ob := [(1, .list true 3 (List.map (r_T_impl_Name true) out__1))] }) hl' (shd [0, 3, 4] [(2, 1)] 2 ⟨_, _, rfl, rfl⟩) ?_
    rintro s' y1' e' h1' ⟨i, out__1, rfl, rfl⟩
    replace h1' : laws_toNameS_l1 a i out__1 = some y1' := h1'
    unfold laws_toNameS_l1 at h1'
    refine wpV_seq1 ?_
    refine wpV_seq1 ?_
    refine wpV_region ?_
    refine ops H' ?_
    refine opsN ?_
    refine wpV_split (fun hc' => ?_) (fun hc' => ?_)
    · replace h1' := (ifT hc').symm.trans h1'
      refine skipN ?_
      refine wpV_seq1 ?_
      refine wpV_block ?_
      refine wpV_region ?_
      obtain ⟨x, hv', h1'⟩ := Option.bind_eq_some_iff.1 h1'
      have H' := And.intro (geti_f hv') H'
      refine ops H' ?_
      obtain ⟨x20, hy', h1'⟩ := Option.bind_eq_some_iff.1 h1'
      refine callG H' (fun _ => []) (W_laws_toName _ _ hy') ?_
      obtain ⟨x_1, hv', h1'⟩ := Option.bind_eq_some_iff.1 h1'
      have H' := And.intro (geti_f hv') H'
      refine ops H' ?_
      refine opsN ?_
      refine wpV_region ?_
      refine ops H' ?_
      refine opsN ?_
      obtain rfl := Option.some.inj h1'
      exact shd [0, 3, 4] [(1, 1)] 2 ⟨_, rfl, _, _, rfl, rfl⟩
    · replace h1' := (ifF hc').symm.trans h1'
      refine exitN ?_
      obtain rfl := Option.some.inj h1'
      refine ⟨_, rfl, fun hr' => ?_⟩
      subst hr'
      exact shd [3] [(1, 1)] 2 ⟨_, h0', rfl⟩
  · rintro e' ⟨out_, h0', rfl⟩
    unfold laws_toNameS_j1 at h0'
    refine wpV_seq1 ?_
    refine wpV_region ?_
    refine ops H' ?_
    refine opsN ?_
    refine retN ?_
    obtain rfl := Option.some.inj h0'
    exact outG H' rfl rfl
theorem W_laws_toCommit (a : T_laws_Commit) (r' : T_impl_Commit) (h0' : laws_toCommit a = some r') : Fn X 116 [.agg [.list false 1 (List.map (rK .i64) a.Parents), .sc (.string a.Note), .list false 3 (List.map (r_T_laws_Name false) a.Names)]] [.agg [.list true 1 (List.map (rK .i64) r'.Parents), .sc (.string r'.Note), .list true 3 (List.map (r_T_impl_Name true) r'.Names)]] [] := by
  have H' := And.intro t9 (And.intro t44 (And.intro t83 (And.intro t85 (And.intro t150 (And.intro t152 (And.intro R_T_impl_Name (And.intro R_T_laws_Name (R_i64))))))))
  unfold laws_toCommit at h0'
  refine Fn.start (fn := f116) (N := 16) (res := [.cell 2 85]) rfl rfl rfl rfl rfl (by simp) ?_
  refine enterG H' ?_
  refine wpV_seq1 ?_
  refine wpV_region ?_
  refine ops H' ?_
  refine opsN ?_
  refine wpV_seq1 ?_
  refine wpV_region ?_
  refine ops H' ?_
  refine opsN ?_
  refine wpV_seq1 ?_
  refine wpV_region ?_
  refine ops H' ?_
  obtain ⟨x6, hy', h0'⟩ := Option.bind_eq_some_iff.1 h0'
  refine callG H' (fun _ => []) (W_laws_toIntS _ _ hy') ?_
  refine ops H' ?_
  refine opsN ?_
  refine wpV_seq1 ?_
  refine wpV_region ?_
  refine ops H' ?_
  refine opsN ?_
  refine wpV_seq1 ?_
  refine wpV_region ?_
  refine ops H' ?_
  obtain ⟨x13, hy', h0'⟩ := Option.bind_eq_some_iff.1 h0'
  refine callG H' (fun _ => []) (W_laws_toNameS _ _ hy') ?_
  refine ops H' ?_
  refine opsN ?_
  refine wpV_seq1 ?_
  refine wpV_region ?_
  refine ops H' ?_
  refine opsN ?_
  refine retN ?_
  obtain rfl := Option.some.inj h0'
  exact outC H' rfl rfl
theorem W_laws_toCommitS (a : List T_laws_Commit) (r' : (List T_impl_Commit)) (h0' : laws_toCommitS a = some r') : Fn X 44 [.one (.list false 3 (List.map (r_T_laws_Commit false) a))] [.one (.list true 3 (List.map (r_T_impl_Commit true) r'))] [] := by
  have H' := And.intro t3 (And.intro t22 (And.intro t67 (And.intro t85 (And.intro t152 (And.intro R_T_impl_Commit (And.intro R_T_impl_Name (And.intro R_T_laws_Commit (And.intro R_T_laws_Name (R_i64)))))))))
  unfold laws_toCommitS at h0'
  refine Fn.start (fn := f44) (N := 23) (res := [.tmp 2]) rfl rfl rfl rfl rfl (by simp) ?_
  refine enterG H' ?_
  refine wpV_seq1 ?_
  refine wpV_region ?_
  refine opsV_nilA H' 3 ?_
  refine opsN ?_
  refine wpV_seq1 ?_
  refine wpV_region ?_
  obtain ⟨x7, hv', h0'⟩ := Option.bind_eq_some_iff.1 h0'
  have H' := And.intro (mklR_f (r_T_impl_Commit true) [.list true 1 [], .sc (.string (ByteArray.mk #[])), .list true 3 []] (by rfl) hv') H'
  refine ops H' ?_
  refine opsN ?_
  refine wpV_seqJ (fun e' => ∃ out_, laws_toCommitS_j1 out_ = some r' ∧ e' = { N := 23, np := 1, nx := 2, sl := [(3, .pl (.one (.ref 1 [])))], ob := [(1, .list true 3 (List.map (r_T_impl_Commit true) out_))] }) ?_ ?_
  · refine wpV_seq1 ?_
    refine wpV_region ?_
    refine ops H' ?_
    refine opsN ?_
    obtain ⟨p, hl', h0'⟩ := Option.bind_eq_some_iff.1 h0'
    refine wpV_block ?_
    refine wpV_loopM (fun s' e' => ∃ i out__1, s' = (i, out__1) ∧ e' = { N := 23, np := 1, nx := 2, sl := [(0, .pl (.one (.v (.list false 3 (List.map (r_T_laws_Commit false) a))))), (3, .pl (.one (.ref 1 []))), (4, .pl (.one (.v (.sc (.int .i64 i)))))], ob := [(1, .list true 3 (List.map (r_T_impl_Commit true) out__1))] }) hl' (shd [0, 3, 4] [(2, 1)] 2 ⟨_, _, rfl, rfl⟩) ?_
    rintro s' y1' e' h1' ⟨i, out__1, rfl, rfl⟩
    replace h1' : laws_toCommitS_l1 a i out__1 = some y1' := h1'
    unfold laws_toCommitS_l1 at h1'
    refine wpV_seq1 ?_
    refine wpV_seq1 ?_
    refine wpV_region ?_
    refine ops H' ?_
    refine opsN ?_
    refine wpV_split (fun hc' => ?_) (fun hc' => ?_)
    · replace h1' := (ifT hc').symm.trans h1'
      refine skipN ?_
      refine wpV_seq1 ?_
      refine wpV_block ?_
      refine wpV_region ?_
      obtain ⟨x, hv', h1'⟩ := Option.bind_eq_some_iff.1 h1'
      have H' := And.intro (geti_f hv') H'
      refine ops H' ?_
      obtain ⟨x20, hy', h1'⟩ := Option.bind_eq_some_iff.1 h1'
      refine callG H' (fun _ => []) (W_laws_toCommit _ _ hy') ?_
      obtain ⟨x_1, hv', h1'⟩ := Option.bind_eq_some_iff.1 h1'
      have H' := And.intro (geti_f hv') H'
      refine ops H' ?_
      refine opsN ?_
      refine wpV_region ?_
      refine ops H' ?_
      refine opsN ?_
      obtain rfl := Option.some.inj h1'
      exact shd [0, 3, 4] [(1, 1)] 2 ⟨_, rfl, _, _, rfl, rfl⟩
    · replace h1' := (ifF hc').symm.trans h1'
      refine exitN ?_
      obtain rfl := Option.some.inj h1'
      refine ⟨_, rfl, fun hr' => ?_⟩
      subst hr'
      exact shd [3] [(1, 1)] 2 ⟨_, h0', rfl⟩
  · rintro e' ⟨out_, h0', rfl⟩
    unfold laws_toCommitS_j1 at h0'
    refine wpV_seq1 ?_
    refine wpV_region ?_
    refine ops H' ?_
    refine opsN ?_
    refine retN ?_
    obtain rfl := Option.some.inj h0'
    exact outG H' rfl rfl
theorem W_spec_l14Graph (list_ : List T_impl_Commit) (r' : (List (List Int))) (h0' : spec_l14Graph list_ = some r') : Fn X 115 [.one (.list false 3 (List.map (r_T_impl_Commit false) list_))] [.one (.list true 1 (List.map (rL false 1 (rK .i64)) r'))] [] := by
  have H' := And.intro t3 (And.intro t22 (And.intro t38 (And.intro t44 (And.intro t85 (And.intro R_Li64 (And.intro R_T_impl_Commit (And.intro R_T_impl_Name (R_i64))))))))
  unfold spec_l14Graph at h0'
  refine Fn.start (fn := f115) (N := 21) (res := [.tmp 2]) rfl rfl rfl rfl rfl (by simp) ?_
  refine enterG H' ?_
  refine wpV_seq1 ?_
  refine wpV_region ?_
  refine ops H' ?_
  refine opsN ?_
  refine wpV_seq1 ?_
  refine wpV_region ?_
  refine ops H' ?_
  refine opsN ?_
  refine wpV_seqJ (fun e' => ∃ out_, spec_l14Graph_j1 out_ = some r' ∧ e' = { N := 21, np := 1, nx := 2, sl := [(3, .pl (.one (.ref 1 [])))], ob := [(1, .list true 1 (List.map (rL false 1 (rK .i64)) out_))] }) ?_ ?_
  · refine wpV_seq1 ?_
    refine wpV_region ?_
    refine ops H' ?_
    refine opsN ?_
    obtain ⟨p, hl', h0'⟩ := Option.bind_eq_some_iff.1 h0'
    refine wpV_block ?_
    refine wpV_loopM (fun s' e' => ∃ i out__1, s' = (i, out__1) ∧ e' = { N := 21, np := 1, nx := 2, sl := [(0, .pl (.one (.v (.list false 3 (List.map (r_T_impl_Commit false) list_))))), (3, .pl (.one (.ref 1 []))), (4, .pl (.one (.v (.sc (.int .i64 i)))))], ob := [(1, .list true 1 (List.map (rL false 1 (rK .i64)) out__1))] }) hl' (shd [0, 3, 4] [(2, 1)] 2 ⟨_, _, rfl, rfl⟩) ?_
    rintro s' y1' e' h1' ⟨i, out__1, rfl, rfl⟩
    replace h1' : spec_l14Graph_l1 list_ i out__1 = some y1' := h1'
    unfold spec_l14Graph_l1 at h1'
    refine wpV_seq1 ?_
    refine wpV_seq1 ?_
    refine wpV_region ?_
    refine ops H' ?_
    refine opsN ?_
    refine wpV_split (fun hc' => ?_) (fun hc' => ?_)
    · replace h1' := (ifT hc').symm.trans h1'
      refine skipN ?_
      refine wpV_seq1 ?_
      refine wpV_block ?_
      refine wpV_region ?_
      obtain ⟨x, hv', h1'⟩ := Option.bind_eq_some_iff.1 h1'
      have H' := And.intro (geti_f hv') H'
      obtain ⟨l, hv', h1'⟩ := Option.bind_eq_some_iff.1 h1'
      have H' := And.intro (app1_f hv') H'
      refine ops H' ?_
      refine opsN ?_
      refine wpV_region ?_
      refine ops H' ?_
      refine opsN ?_
      obtain rfl := Option.some.inj h1'
      exact shd [0, 3, 4] [(1, 1)] 2 ⟨_, rfl, _, _, rfl, rfl⟩
    · replace h1' := (ifF hc').symm.trans h1'
      refine exitN ?_
      obtain rfl := Option.some.inj h1'
      refine ⟨_, rfl, fun hr' => ?_⟩
      subst hr'
      exact shd [3] [(1, 1)] 2 ⟨_, h0', rfl⟩
  · rintro e' ⟨out_, h0', rfl⟩
    unfold spec_l14Graph_j1 at h0'
    refine wpV_seq1 ?_
    refine wpV_region ?_
    refine ops H' ?_
    refine opsN ?_
    refine retN ?_
    obtain rfl := Option.some.inj h0'
    exact outG H' rfl rfl
theorem W_spec_l01In (x : Int) (least : Int) (most : Int) (r' : Bool) (h0' : spec_l01In x least most = some r') : Fn X 71 [.one (.sc (.int .i64 x)), .one (.sc (.int .i64 least)), .one (.sc (.int .i64 most))] [.one (.sc (.bool r'))] [] := by
  have H' := t3
  unfold spec_l01In at h0'
  refine Fn.start (fn := f71) (N := 15) (res := [.tmp 6]) rfl rfl rfl rfl rfl (by simp) ?_
  refine enterG H' ?_
  refine wpV_seq1 ?_
  refine wpV_region ?_
  refine ops H' ?_
  refine opsN ?_
  refine wpV_seq1 ?_
  refine wpV_region ?_
  refine ops H' ?_
  obtain ⟨b, gh0', h0'⟩ := Option.bind_eq_some_iff.1 h0'
  refine opsV_cut 4 (fun e' => e' = { N := 15, np := 3, nx := 3, sl := [(14, .pl (.one (.v (.sc (.bool b)))))], ob := [] }) ?_ ?_
  · simp only [List.take_succ_cons, List.take_zero]
    refine opsV_sp (fun hc' => ?_) (fun hc' => ?_)
    · replace gh0' := (ifT hc').symm.trans gh0'
      refine ops H' ?_
      obtain rfl := Option.some.inj gh0'
      refine opsV_nil ?_
      exact ⟨rfl, shd [14] [] 3 rfl⟩
    · replace gh0' := (ifF hc').symm.trans gh0'
      refine ops H' ?_
      obtain rfl := Option.some.inj gh0'
      refine opsV_nil ?_
      exact ⟨rfl, shd [14] [] 3 rfl⟩
  · rintro e' rfl
    simp only [List.drop_succ_cons, List.drop_zero]
    refine ops H' ?_
    refine opsN ?_
    refine retN ?_
    obtain rfl := Option.some.inj h0'
    exact outG H' rfl rfl
theorem W_spec_l05Rise (list_ : List Int) (n : Int) (r' : Bool) (h0' : spec_l05Rise list_ n = some r') : Fn X 172 [.one (.list false 1 (List.map (rK .i64) list_)), .one (.sc (.int .i64 n))] [.one (.sc (.bool r'))] [] := by
  have H' := And.intro t3 (And.intro t44 (R_i64))
  unfold spec_l05Rise at h0'
  refine Fn.start (fn := f172) (N := 36) (res := [.tmp 4]) rfl rfl rfl rfl rfl (by simp) ?_
  refine enterG H' ?_
  refine wpV_seq1 ?_
  refine wpV_region ?_
  refine ops H' ?_
  refine opsN ?_
  refine wpV_seqJ (fun e' => spec_l05Rise_j1 = some r' ∧ e' = { N := 36, np := 2, nx := 2, sl := [], ob := [] }) ?_ ?_
  · refine wpV_seq1 ?_
    refine wpV_region ?_
    refine ops H' ?_
    refine opsN ?_
    obtain ⟨p, hl', h0'⟩ := Option.bind_eq_some_iff.1 h0'
    refine wpV_block ?_
    refine wpV_loopM (fun i e' => e' = { N := 36, np := 2, nx := 2, sl := [(0, .pl (.one (.v (.list false 1 (List.map (rK .i64) list_))))), (1, .pl (.one (.v (.sc (.int .i64 n))))), (5, .pl (.one (.v (.sc (.int .i64 i)))))], ob := [] }) hl' (shd [0, 1, 5] [] 2 rfl) ?_
    rintro i y1' e' h1' rfl
    replace h1' : spec_l05Rise_l1 list_ n i = some y1' := h1'
    unfold spec_l05Rise_l1 at h1'
    refine wpV_seq1 ?_
    refine wpV_seq1 ?_
    refine wpV_region ?_
    refine ops H' ?_
    refine opsN ?_
    refine wpV_split (fun hc' => ?_) (fun hc' => ?_)
    · replace h1' := (ifT hc').symm.trans h1'
      refine skipN ?_
      refine wpV_seq1 ?_
      refine wpV_block ?_
      refine wpV_seq1 ?_
      refine regQ ?_
      obtain ⟨x, hv', h1'⟩ := Option.bind_eq_some_iff.1 h1'
      have H' := And.intro (geti_f hv') H'
      refine ops H' ?_
      obtain ⟨x18, hy', h1'⟩ := Option.bind_eq_some_iff.1 h1'
      refine callGQ H' (W_spec_l01In _ _ _ _ hy') ?_
      refine ops H' ?_
      obtain ⟨b, gh1', h1'⟩ := Option.bind_eq_some_iff.1 h1'
      refine quV_cut 15 (fun e' => e' = { N := 36, np := 2, nx := 2, sl := [(0, .pl (.one (.v (.list false 1 (List.map (rK .i64) list_))))), (1, .pl (.one (.v (.sc (.int .i64 n))))), (5, .pl (.one (.v (.sc (.int .i64 i))))), (35, .pl (.one (.v (.sc (.bool b)))))], ob := [] }) ?_ ?_
      · simp only [List.take_succ_cons, List.take_zero]
        refine quV_sp (fun hc' => ?_) (fun hc' => ?_)
        · replace gh1' := (ifF hc').symm.trans gh1'
          refine ops H' ?_
          obtain ⟨b_1, ggh1', gh1'⟩ := Option.bind_eq_some_iff.1 gh1'
          refine quV_cut 11 (fun e' => e' = { N := 36, np := 2, nx := 2, sl := [(0, .pl (.one (.v (.list false 1 (List.map (rK .i64) list_))))), (1, .pl (.one (.v (.sc (.int .i64 n))))), (5, .pl (.one (.v (.sc (.int .i64 i))))), (20, .pl (.one (.v (.sc (.bool false))))), (21, .pl (.one (.v (.sc (.int .i64 i))))), (22, .pl (.one (.v (.sc (.bool (decide (i > 0))))))), (34, .pl (.one (.v (.sc (.bool b_1)))))], ob := [] }) ?_ ?_
          · simp only [List.take_succ_cons, List.take_zero]
            refine quV_sp (fun hc' => ?_) (fun hc' => ?_)
            · replace ggh1' := (ifT hc').symm.trans ggh1'
              obtain ⟨x_1, hv', ggh1'⟩ := Option.bind_eq_some_iff.1 ggh1'
              have H' := And.intro (geti_f hv') H'
              refine ops H' ?_
              obtain rfl := Option.some.inj ggh1'
              refine quV_nil ?_
              exact ⟨rfl, shd [0, 1, 5, 20, 21, 22, 34] [] 2 rfl⟩
            · replace ggh1' := (ifF hc').symm.trans ggh1'
              refine ops H' ?_
              obtain rfl := Option.some.inj ggh1'
              refine quV_nil ?_
              exact ⟨rfl, shd [0, 1, 5, 20, 21, 22, 34] [] 2 rfl⟩
          · rintro e' rfl
            simp only [List.drop_succ_cons, List.drop_zero]
            refine ops H' ?_
            obtain rfl := Option.some.inj gh1'
            refine quV_nil ?_
            exact ⟨rfl, shd [0, 1, 5, 35] [] 2 rfl⟩
        · replace gh1' := (ifT hc').symm.trans gh1'
          refine ops H' ?_
          obtain rfl := Option.some.inj gh1'
          refine quV_nil ?_
          exact ⟨rfl, shd [0, 1, 5, 35] [] 2 rfl⟩
      · rintro e' rfl
        simp only [List.drop_succ_cons, List.drop_zero]
        refine quN ?_
        refine wpV_split (fun hc' => ?_) (fun hc' => ?_)
        · replace h1' := (ifT hc').symm.trans h1'
          refine wpV_seq1 ?_
          refine wpV_region ?_
          refine ops H' ?_
          refine opsN ?_
          refine retN ?_
          obtain rfl := Option.some.inj h1'
          refine ⟨_, rfl, fun hr' => ?_⟩
          subst hr'
          obtain rfl := Option.some.inj h0'
          exact outG H' rfl rfl
        · replace h1' := (ifF hc').symm.trans h1'
          refine skipN ?_
          refine wpV_region ?_
          refine ops H' ?_
          refine opsN ?_
          obtain rfl := Option.some.inj h1'
          exact shd [0, 1, 5] [] 2 ⟨_, rfl, rfl⟩
    · replace h1' := (ifF hc').symm.trans h1'
      refine exitN ?_
      obtain rfl := Option.some.inj h1'
      refine ⟨_, rfl, fun hr' => ?_⟩
      subst hr'
      exact shd [] [] 2 ⟨h0', rfl⟩
  · rintro e' ⟨h0', rfl⟩
    unfold spec_l05Rise_j1 at h0'
    refine wpV_seq1 ?_
    refine wpV_region ?_
    refine ops H' ?_
    refine opsN ?_
    refine retN ?_
    obtain rfl := Option.some.inj h0'
    exact outG H' rfl rfl
theorem W_spec_GraphOk (parents : List (List Int)) (r' : Bool) (h0' : spec_GraphOk parents = some r') : Fn X 170 [.one (.list false 1 (List.map (rL false 1 (rK .i64)) parents))] [.one (.sc (.bool r'))] [] := by
  have H' := And.intro t3 (And.intro t38 (And.intro t44 (And.intro R_Li64 (R_i64))))
  unfold spec_GraphOk at h0'
  refine Fn.start (fn := f170) (N := 28) (res := [.tmp 2]) rfl rfl rfl rfl rfl (by simp) ?_
  refine enterG H' ?_
  refine wpV_seq1 ?_
  refine wpV_region ?_
  refine ops H' ?_
  refine opsN ?_
  refine wpV_seq1 ?_
  refine wpV_seq1 ?_
  refine wpV_region ?_
  refine ops H' ?_
  refine opsN ?_
  refine wpV_split (fun hc' => ?_) (fun hc' => ?_)
  · replace h0' := (ifT hc').symm.trans h0'
    refine wpV_seq1 ?_
    refine wpV_region ?_
    refine ops H' ?_
    refine opsN ?_
    refine retN ?_
    obtain rfl := Option.some.inj h0'
    exact outG H' rfl rfl
  · replace h0' := (ifF hc').symm.trans h0'
    refine skipN ?_
    refine wpV_seqJ (fun e' => spec_GraphOk_j1 = some r' ∧ e' = { N := 28, np := 1, nx := 1, sl := [], ob := [] }) ?_ ?_
    · refine wpV_seq1 ?_
      refine wpV_region ?_
      refine ops H' ?_
      refine opsN ?_
      obtain ⟨p, hl', h0'⟩ := Option.bind_eq_some_iff.1 h0'
      refine wpV_block ?_
      refine wpV_loopM (fun v e' => e' = { N := 28, np := 1, nx := 1, sl := [(0, .pl (.one (.v (.list false 1 (List.map (rL false 1 (rK .i64)) parents))))), (3, .pl (.one (.v (.sc (.int .i64 v)))))], ob := [] }) hl' (shd [0, 3] [] 1 rfl) ?_
      rintro v y1' e' h1' rfl
      replace h1' : spec_GraphOk_l1 parents v = some y1' := h1'
      unfold spec_GraphOk_l1 at h1'
      refine wpV_seq1 ?_
      refine wpV_seq1 ?_
      refine wpV_region ?_
      refine ops H' ?_
      refine opsN ?_
      refine wpV_split (fun hc' => ?_) (fun hc' => ?_)
      · replace h1' := (ifT hc').symm.trans h1'
        refine skipN ?_
        refine wpV_seq1 ?_
        refine wpV_block ?_
        refine wpV_seq1 ?_
        refine wpV_region ?_
        obtain ⟨x, hv', h1'⟩ := Option.bind_eq_some_iff.1 h1'
        have H' := And.intro (geti_f hv') H'
        refine ops H' ?_
        obtain ⟨b, gh1', h1'⟩ := Option.bind_eq_some_iff.1 h1'
        refine opsV_cut 8 (fun e' => e' = { N := 28, np := 1, nx := 1, sl := [(0, .pl (.one (.v (.list false 1 (List.map (rL false 1 (rK .i64)) parents))))), (3, .pl (.one (.v (.sc (.int .i64 v))))), (27, .pl (.one (.v (.sc (.bool b)))))], ob := [] }) ?_ ?_
        · simp only [List.take_succ_cons, List.take_zero]
          refine opsV_sp (fun hc' => ?_) (fun hc' => ?_)
          · replace gh1' := (ifF hc').symm.trans gh1'
            refine ops H' ?_
            obtain ⟨x25, hy', gh1'⟩ := Option.bind_eq_some_iff.1 gh1'
            refine callG H' (fun _ => []) (W_spec_l05Rise _ _ _ hy') ?_
            refine ops H' ?_
            obtain rfl := Option.some.inj gh1'
            refine opsV_nil ?_
            exact ⟨rfl, shd [0, 3, 27] [] 1 rfl⟩
          · replace gh1' := (ifT hc').symm.trans gh1'
            refine ops H' ?_
            obtain rfl := Option.some.inj gh1'
            refine opsV_nil ?_
            exact ⟨rfl, shd [0, 3, 27] [] 1 rfl⟩
        · rintro e' rfl
          simp only [List.drop_succ_cons, List.drop_zero]
          refine opsN ?_
          refine wpV_split (fun hc' => ?_) (fun hc' => ?_)
          · replace h1' := (ifT hc').symm.trans h1'
            refine wpV_seq1 ?_
            refine wpV_region ?_
            refine ops H' ?_
            refine opsN ?_
            refine retN ?_
            obtain rfl := Option.some.inj h1'
            refine ⟨_, rfl, fun hr' => ?_⟩
            subst hr'
            obtain rfl := Option.some.inj h0'
            exact outG H' rfl rfl
          · replace h1' := (ifF hc').symm.trans h1'
            refine skipN ?_
            refine wpV_region ?_
            refine ops H' ?_
            refine opsN ?_
            obtain rfl := Option.some.inj h1'
            exact shd [0, 3] [] 1 ⟨_, rfl, rfl⟩
      · replace h1' := (ifF hc').symm.trans h1'
        refine exitN ?_
        obtain rfl := Option.some.inj h1'
        refine ⟨_, rfl, fun hr' => ?_⟩
        subst hr'
        exact shd [] [] 1 ⟨h0', rfl⟩
    · rintro e' ⟨h0', rfl⟩
      unfold spec_GraphOk_j1 at h0'
      refine wpV_seq1 ?_
      refine wpV_region ?_
      refine ops H' ?_
      refine opsN ?_
      refine retN ?_
      obtain rfl := Option.some.inj h0'
      exact outG H' rfl rfl
theorem W_spec_NoteOk (note : ByteArray) (r' : Bool) (h0' : spec_NoteOk note = some r') : Fn X 177 [.one (.sc (.string note))] [.one (.sc (.bool r'))] [] := by
  have H' := And.intro t3 (And.intro t5 (t9))
  unfold spec_NoteOk at h0'
  refine Fn.start (fn := f177) (N := 28) (res := [.tmp 2]) rfl rfl rfl rfl rfl (by simp) ?_
  refine enterG H' ?_
  refine wpV_seq1 ?_
  refine wpV_region ?_
  refine ops H' ?_
  refine opsN ?_
  refine wpV_seqJ (fun e' => spec_NoteOk_j1 note = some r' ∧ e' = { N := 28, np := 1, nx := 1, sl := [(0, .pl (.one (.v (.sc (.string note)))))], ob := [] }) ?_ ?_
  · refine wpV_seq1 ?_
    refine wpV_region ?_
    refine ops H' ?_
    refine opsN ?_
    obtain ⟨p, hl', h0'⟩ := Option.bind_eq_some_iff.1 h0'
    refine wpV_block ?_
    refine wpV_loopM (fun i e' => e' = { N := 28, np := 1, nx := 1, sl := [(0, .pl (.one (.v (.sc (.string note))))), (3, .pl (.one (.v (.sc (.int .i64 i)))))], ob := [] }) hl' (shd [0, 3] [] 1 rfl) ?_
    rintro i y1' e' h1' rfl
    replace h1' : spec_NoteOk_l1 note i = some y1' := h1'
    unfold spec_NoteOk_l1 at h1'
    refine wpV_seq1 ?_
    refine wpV_seq1 ?_
    refine wpV_region ?_
    refine ops H' ?_
    obtain ⟨b, gh1', h1'⟩ := Option.bind_eq_some_iff.1 h1'
    refine opsV_cut 4 (fun e' => e' = { N := 28, np := 1, nx := 1, sl := [(0, .pl (.one (.v (.sc (.string note))))), (3, .pl (.one (.v (.sc (.int .i64 i))))), (12, .pl (.one (.v (.sc (.bool b)))))], ob := [] }) ?_ ?_
    · simp only [List.take_succ_cons, List.take_zero]
      refine opsV_sp (fun hc' => ?_) (fun hc' => ?_)
      · replace gh1' := (ifT hc').symm.trans gh1'
        refine ops H' ?_
        obtain rfl := Option.some.inj gh1'
        refine opsV_nil ?_
        exact ⟨rfl, shd [0, 3, 12] [] 1 rfl⟩
      · replace gh1' := (ifF hc').symm.trans gh1'
        refine ops H' ?_
        obtain rfl := Option.some.inj gh1'
        refine opsV_nil ?_
        exact ⟨rfl, shd [0, 3, 12] [] 1 rfl⟩
    · rintro e' rfl
      simp only [List.drop_succ_cons, List.drop_zero]
      refine opsN ?_
      refine wpV_split (fun hc' => ?_) (fun hc' => ?_)
      · replace h1' := (ifT hc').symm.trans h1'
        refine skipN ?_
        refine wpV_seq1 ?_
        refine wpV_block ?_
        refine wpV_seq1 ?_
        refine wpV_region ?_
        obtain ⟨x17, hv', h1'⟩ := Option.bind_eq_some_iff.1 h1'
        have H' := And.intro (sidx_f hv') H'
        refine ops H' ?_
        obtain ⟨b_1, gh1', h1'⟩ := Option.bind_eq_some_iff.1 h1'
        refine opsV_cut 5 (fun e' => e' = { N := 28, np := 1, nx := 1, sl := [(0, .pl (.one (.v (.sc (.string note))))), (3, .pl (.one (.v (.sc (.int .i64 i))))), (24, .pl (.one (.v (.sc (.bool b_1)))))], ob := [] }) ?_ ?_
        · simp only [List.take_succ_cons, List.take_zero]
          refine opsV_sp (fun hc' => ?_) (fun hc' => ?_)
          · replace gh1' := (ifF hc').symm.trans gh1'
            refine ops H' ?_
            obtain rfl := Option.some.inj gh1'
            refine opsV_nil ?_
            exact ⟨rfl, shd [0, 3, 24] [] 1 rfl⟩
          · replace gh1' := (ifT hc').symm.trans gh1'
            refine ops H' ?_
            obtain rfl := Option.some.inj gh1'
            refine opsV_nil ?_
            exact ⟨rfl, shd [0, 3, 24] [] 1 rfl⟩
        · rintro e' rfl
          simp only [List.drop_succ_cons, List.drop_zero]
          refine opsN ?_
          refine wpV_split (fun hc' => ?_) (fun hc' => ?_)
          · replace h1' := (ifT hc').symm.trans h1'
            refine wpV_seq1 ?_
            refine wpV_region ?_
            refine ops H' ?_
            refine opsN ?_
            refine retN ?_
            obtain rfl := Option.some.inj h1'
            refine ⟨_, rfl, fun hr' => ?_⟩
            subst hr'
            obtain rfl := Option.some.inj h0'
            exact outG H' rfl rfl
          · replace h1' := (ifF hc').symm.trans h1'
            refine skipN ?_
            refine wpV_region ?_
            refine ops H' ?_
            refine opsN ?_
            obtain rfl := Option.some.inj h1'
            exact shd [0, 3] [] 1 ⟨_, rfl, rfl⟩
      · replace h1' := (ifF hc').symm.trans h1'
        refine exitN ?_
        obtain rfl := Option.some.inj h1'
        refine ⟨_, rfl, fun hr' => ?_⟩
        subst hr'
        exact shd [0] [] 1 ⟨h0', rfl⟩
  · rintro e' ⟨h0', rfl⟩
    unfold spec_NoteOk_j1 at h0'
    refine wpV_seq1 ?_
    refine wpV_region ?_
    refine ops H' ?_
    refine opsN ?_
    refine retN ?_
    obtain rfl := Option.some.inj h0'
    exact outG H' rfl rfl
theorem W_spec_PathOk (path : ByteArray) (r' : Bool) (h0' : spec_PathOk path = some r') : Fn X 197 [.one (.sc (.string path))] [.one (.sc (.bool r'))] [] := by
  have H' := And.intro t3 (And.intro t5 (t9))
  unfold spec_PathOk at h0'
  refine Fn.start (fn := f197) (N := 73) (res := [.tmp 2]) rfl rfl rfl rfl rfl (by simp) ?_
  refine enterG H' ?_
  refine wpV_seq1 ?_
  refine wpV_region ?_
  refine ops H' ?_
  refine opsN ?_
  refine wpV_seq1 ?_
  refine wpV_region ?_
  refine ops H' ?_
  refine opsN ?_
  refine wpV_seq1 ?_
  refine wpV_seq1 ?_
  refine wpV_region ?_
  refine ops H' ?_
  obtain ⟨x9, hy', h0'⟩ := Option.bind_eq_some_iff.1 h0'
  refine callG H' (fun _ => []) (W_spec_l01In _ _ _ _ hy') ?_
  refine ops H' ?_
  obtain ⟨b, gh0', h0'⟩ := Option.bind_eq_some_iff.1 h0'
  refine opsV_cut 4 (fun e' => e' = { N := 73, np := 1, nx := 1, sl := [(0, .pl (.one (.v (.sc (.string path))))), (3, .pl (.one (.v (.sc (.int .i64 (path.size : Int)))))), (15, .pl (.one (.v (.sc (.bool b)))))], ob := [] }) ?_ ?_
  · simp only [List.take_succ_cons, List.take_zero]
    refine opsV_sp (fun hc' => ?_) (fun hc' => ?_)
    · replace gh0' := (ifF hc').symm.trans gh0'
      obtain ⟨x13, hv', gh0'⟩ := Option.bind_eq_some_iff.1 gh0'
      have H' := And.intro (sidx_f hv') H'
      refine ops H' ?_
      obtain rfl := Option.some.inj gh0'
      refine opsV_nil ?_
      exact ⟨rfl, shd [0, 3, 15] [] 1 rfl⟩
    · replace gh0' := (ifT hc').symm.trans gh0'
      refine ops H' ?_
      obtain rfl := Option.some.inj gh0'
      refine opsV_nil ?_
      exact ⟨rfl, shd [0, 3, 15] [] 1 rfl⟩
  · rintro e' rfl
    simp only [List.drop_succ_cons, List.drop_zero]
    refine ops H' ?_
    obtain ⟨b_1, gh0', h0'⟩ := Option.bind_eq_some_iff.1 h0'
    refine opsV_cut 6 (fun e' => e' = { N := 73, np := 1, nx := 1, sl := [(0, .pl (.one (.v (.sc (.string path))))), (3, .pl (.one (.v (.sc (.int .i64 (path.size : Int)))))), (22, .pl (.one (.v (.sc (.bool b_1)))))], ob := [] }) ?_ ?_
    · simp only [List.take_succ_cons, List.take_zero]
      refine opsV_sp (fun hc' => ?_) (fun hc' => ?_)
      · replace gh0' := (ifF hc').symm.trans gh0'
        obtain ⟨x20, hv', gh0'⟩ := Option.bind_eq_some_iff.1 gh0'
        have H' := And.intro (sidx_f hv') H'
        refine ops H' ?_
        obtain rfl := Option.some.inj gh0'
        refine opsV_nil ?_
        exact ⟨rfl, shd [0, 3, 22] [] 1 rfl⟩
      · replace gh0' := (ifT hc').symm.trans gh0'
        refine ops H' ?_
        obtain rfl := Option.some.inj gh0'
        refine opsV_nil ?_
        exact ⟨rfl, shd [0, 3, 22] [] 1 rfl⟩
    · rintro e' rfl
      simp only [List.drop_succ_cons, List.drop_zero]
      refine opsN ?_
      refine wpV_split (fun hc' => ?_) (fun hc' => ?_)
      · replace h0' := (ifT hc').symm.trans h0'
        refine wpV_seq1 ?_
        refine wpV_region ?_
        refine ops H' ?_
        refine opsN ?_
        refine retN ?_
        obtain rfl := Option.some.inj h0'
        exact outG H' rfl rfl
      · replace h0' := (ifF hc').symm.trans h0'
        refine skipN ?_
        refine wpV_seqJ (fun e' => spec_PathOk_j1 = some r' ∧ e' = { N := 73, np := 1, nx := 1, sl := [], ob := [] }) ?_ ?_
        · refine wpV_seq1 ?_
          refine wpV_region ?_
          refine ops H' ?_
          refine opsN ?_
          obtain ⟨p, hl', h0'⟩ := Option.bind_eq_some_iff.1 h0'
          refine wpV_block ?_
          refine wpV_loopM (fun i e' => e' = { N := 73, np := 1, nx := 1, sl := [(0, .pl (.one (.v (.sc (.string path))))), (3, .pl (.one (.v (.sc (.int .i64 (path.size : Int)))))), (4, .pl (.one (.v (.sc (.int .i64 i)))))], ob := [] }) hl' (shd [0, 3, 4] [] 1 rfl) ?_
          rintro i y1' e' h1' rfl
          replace h1' : spec_PathOk_l1 path i = some y1' := h1'
          unfold spec_PathOk_l1 at h1'
          refine wpV_seq1 ?_
          refine wpV_seq1 ?_
          refine wpV_region ?_
          refine ops H' ?_
          refine opsN ?_
          refine wpV_split (fun hc' => ?_) (fun hc' => ?_)
          · replace h1' := (ifT hc').symm.trans h1'
            refine skipN ?_
            refine wpV_seq1 ?_
            refine wpV_block ?_
            refine wpV_seq1 ?_
            refine wpV_region ?_
            obtain ⟨x30, hv', h1'⟩ := Option.bind_eq_some_iff.1 h1'
            have H' := And.intro (sidx_f hv') H'
            refine ops H' ?_
            refine opsN ?_
            refine wpV_seq1 ?_
            refine wpV_region ?_
            refine ops H' ?_
            obtain ⟨b_2, gh1', h1'⟩ := Option.bind_eq_some_iff.1 h1'
            refine opsV_cut 3 (fun e' => e' = { N := 73, np := 1, nx := 1, sl := [(0, .pl (.one (.v (.sc (.string path))))), (3, .pl (.one (.v (.sc (.int .i64 (path.size : Int)))))), (4, .pl (.one (.v (.sc (.int .i64 i))))), (5, .pl (.one (.v (.sc (.int .u8 x30))))), (36, .pl (.one (.v (.sc (.bool b_2)))))], ob := [] }) ?_ ?_
            · simp only [List.take_succ_cons, List.take_zero]
              refine opsV_sp (fun hc' => ?_) (fun hc' => ?_)
              · replace gh1' := (ifT hc').symm.trans gh1'
                refine ops H' ?_
                obtain rfl := Option.some.inj gh1'
                refine opsV_nil ?_
                exact ⟨rfl, shd [0, 3, 4, 5, 36] [] 1 rfl⟩
              · replace gh1' := (ifF hc').symm.trans gh1'
                refine ops H' ?_
                obtain rfl := Option.some.inj gh1'
                refine opsV_nil ?_
                exact ⟨rfl, shd [0, 3, 4, 5, 36] [] 1 rfl⟩
            · rintro e' rfl
              simp only [List.drop_succ_cons, List.drop_zero]
              refine ops H' ?_
              obtain ⟨b_3, gh1', h1'⟩ := Option.bind_eq_some_iff.1 h1'
              refine opsV_cut 7 (fun e' => e' = { N := 73, np := 1, nx := 1, sl := [(0, .pl (.one (.v (.sc (.string path))))), (3, .pl (.one (.v (.sc (.int .i64 (path.size : Int)))))), (4, .pl (.one (.v (.sc (.int .i64 i))))), (5, .pl (.one (.v (.sc (.int .u8 x30))))), (44, .pl (.one (.v (.sc (.bool b_3)))))], ob := [] }) ?_ ?_
              · simp only [List.take_succ_cons, List.take_zero]
                refine opsV_sp (fun hc' => ?_) (fun hc' => ?_)
                · replace gh1' := (ifF hc').symm.trans gh1'
                  refine ops H' ?_
                  obtain ⟨b_4, ggh1', gh1'⟩ := Option.bind_eq_some_iff.1 gh1'
                  refine opsV_cut 3 (fun e' => e' = { N := 73, np := 1, nx := 1, sl := [(0, .pl (.one (.v (.sc (.string path))))), (3, .pl (.one (.v (.sc (.int .i64 (path.size : Int)))))), (4, .pl (.one (.v (.sc (.int .i64 i))))), (5, .pl (.one (.v (.sc (.int .u8 x30))))), (37, .pl (.one (.v (.sc (.bool false))))), (38, .pl (.one (.v (.sc (.int .u8 x30))))), (39, .pl (.one (.v (.sc (.bool (decide (x30 ≥ 48))))))), (43, .pl (.one (.v (.sc (.bool b_4)))))], ob := [] }) ?_ ?_
                  · simp only [List.take_succ_cons, List.take_zero]
                    refine opsV_sp (fun hc' => ?_) (fun hc' => ?_)
                    · replace ggh1' := (ifT hc').symm.trans ggh1'
                      refine ops H' ?_
                      obtain rfl := Option.some.inj ggh1'
                      refine opsV_nil ?_
                      exact ⟨rfl, shd [0, 3, 4, 5, 37, 38, 39, 43] [] 1 rfl⟩
                    · replace ggh1' := (ifF hc').symm.trans ggh1'
                      refine ops H' ?_
                      obtain rfl := Option.some.inj ggh1'
                      refine opsV_nil ?_
                      exact ⟨rfl, shd [0, 3, 4, 5, 37, 38, 39, 43] [] 1 rfl⟩
                  · rintro e' rfl
                    simp only [List.drop_succ_cons, List.drop_zero]
                    refine ops H' ?_
                    obtain rfl := Option.some.inj gh1'
                    refine opsV_nil ?_
                    exact ⟨rfl, shd [0, 3, 4, 5, 44] [] 1 rfl⟩
                · replace gh1' := (ifT hc').symm.trans gh1'
                  refine ops H' ?_
                  obtain rfl := Option.some.inj gh1'
                  refine opsV_nil ?_
                  exact ⟨rfl, shd [0, 3, 4, 5, 44] [] 1 rfl⟩
              · rintro e' rfl
                simp only [List.drop_succ_cons, List.drop_zero]
                refine ops H' ?_
                obtain ⟨b_5, gh1', h1'⟩ := Option.bind_eq_some_iff.1 h1'
                refine opsV_cut 3 (fun e' => e' = { N := 73, np := 1, nx := 1, sl := [(0, .pl (.one (.v (.sc (.string path))))), (3, .pl (.one (.v (.sc (.int .i64 (path.size : Int)))))), (4, .pl (.one (.v (.sc (.int .i64 i))))), (5, .pl (.one (.v (.sc (.int .u8 x30))))), (48, .pl (.one (.v (.sc (.bool b_5)))))], ob := [] }) ?_ ?_
                · simp only [List.take_succ_cons, List.take_zero]
                  refine opsV_sp (fun hc' => ?_) (fun hc' => ?_)
                  · replace gh1' := (ifF hc').symm.trans gh1'
                    refine ops H' ?_
                    obtain rfl := Option.some.inj gh1'
                    refine opsV_nil ?_
                    exact ⟨rfl, shd [0, 3, 4, 5, 48] [] 1 rfl⟩
                  · replace gh1' := (ifT hc').symm.trans gh1'
                    refine ops H' ?_
                    obtain rfl := Option.some.inj gh1'
                    refine opsV_nil ?_
                    exact ⟨rfl, shd [0, 3, 4, 5, 48] [] 1 rfl⟩
                · rintro e' rfl
                  simp only [List.drop_succ_cons, List.drop_zero]
                  refine ops H' ?_
                  obtain ⟨b_6, gh1', h1'⟩ := Option.bind_eq_some_iff.1 h1'
                  refine opsV_cut 3 (fun e' => e' = { N := 73, np := 1, nx := 1, sl := [(0, .pl (.one (.v (.sc (.string path))))), (3, .pl (.one (.v (.sc (.int .i64 (path.size : Int)))))), (4, .pl (.one (.v (.sc (.int .i64 i))))), (5, .pl (.one (.v (.sc (.int .u8 x30))))), (52, .pl (.one (.v (.sc (.bool b_6)))))], ob := [] }) ?_ ?_
                  · simp only [List.take_succ_cons, List.take_zero]
                    refine opsV_sp (fun hc' => ?_) (fun hc' => ?_)
                    · replace gh1' := (ifF hc').symm.trans gh1'
                      refine ops H' ?_
                      obtain rfl := Option.some.inj gh1'
                      refine opsV_nil ?_
                      exact ⟨rfl, shd [0, 3, 4, 5, 52] [] 1 rfl⟩
                    · replace gh1' := (ifT hc').symm.trans gh1'
                      refine ops H' ?_
                      obtain rfl := Option.some.inj gh1'
                      refine opsV_nil ?_
                      exact ⟨rfl, shd [0, 3, 4, 5, 52] [] 1 rfl⟩
                  · rintro e' rfl
                    simp only [List.drop_succ_cons, List.drop_zero]
                    refine ops H' ?_
                    obtain ⟨b_7, gh1', h1'⟩ := Option.bind_eq_some_iff.1 h1'
                    refine opsV_cut 3 (fun e' => e' = { N := 73, np := 1, nx := 1, sl := [(0, .pl (.one (.v (.sc (.string path))))), (3, .pl (.one (.v (.sc (.int .i64 (path.size : Int)))))), (4, .pl (.one (.v (.sc (.int .i64 i))))), (5, .pl (.one (.v (.sc (.int .u8 x30))))), (56, .pl (.one (.v (.sc (.bool b_7)))))], ob := [] }) ?_ ?_
                    · simp only [List.take_succ_cons, List.take_zero]
                      refine opsV_sp (fun hc' => ?_) (fun hc' => ?_)
                      · replace gh1' := (ifF hc').symm.trans gh1'
                        refine ops H' ?_
                        obtain rfl := Option.some.inj gh1'
                        refine opsV_nil ?_
                        exact ⟨rfl, shd [0, 3, 4, 5, 56] [] 1 rfl⟩
                      · replace gh1' := (ifT hc').symm.trans gh1'
                        refine ops H' ?_
                        obtain rfl := Option.some.inj gh1'
                        refine opsV_nil ?_
                        exact ⟨rfl, shd [0, 3, 4, 5, 56] [] 1 rfl⟩
                    · rintro e' rfl
                      simp only [List.drop_succ_cons, List.drop_zero]
                      refine ops H' ?_
                      obtain ⟨b_8, gh1', h1'⟩ := Option.bind_eq_some_iff.1 h1'
                      refine opsV_cut 14 (fun e' => e' = { N := 73, np := 1, nx := 1, sl := [(0, .pl (.one (.v (.sc (.string path))))), (3, .pl (.one (.v (.sc (.int .i64 (path.size : Int)))))), (4, .pl (.one (.v (.sc (.int .i64 i))))), (72, .pl (.one (.v (.sc (.bool b_8)))))], ob := [] }) ?_ ?_
                      · simp only [List.take_succ_cons, List.take_zero]
                        refine opsV_sp (fun hc' => ?_) (fun hc' => ?_)
                        · replace gh1' := (ifF hc').symm.trans gh1'
                          refine ops H' ?_
                          obtain ⟨b_9, ggh1', gh1'⟩ := Option.bind_eq_some_iff.1 gh1'
                          refine opsV_cut 3 (fun e' => e' = { N := 73, np := 1, nx := 1, sl := [(0, .pl (.one (.v (.sc (.string path))))), (3, .pl (.one (.v (.sc (.int .i64 (path.size : Int)))))), (4, .pl (.one (.v (.sc (.int .i64 i))))), (58, .pl (.one (.v (.sc (.bool false))))), (59, .pl (.one (.v (.sc (.int .i64 i))))), (60, .pl (.one (.v (.sc (.bool (decide (i > 0))))))), (64, .pl (.one (.v (.sc (.bool b_9)))))], ob := [] }) ?_ ?_
                          · simp only [List.take_succ_cons, List.take_zero]
                            refine opsV_sp (fun hc' => ?_) (fun hc' => ?_)
                            · replace ggh1' := (ifT hc').symm.trans ggh1'
                              refine ops H' ?_
                              obtain rfl := Option.some.inj ggh1'
                              refine opsV_nil ?_
                              exact ⟨rfl, shd [0, 3, 4, 58, 59, 60, 64] [] 1 rfl⟩
                            · replace ggh1' := (ifF hc').symm.trans ggh1'
                              refine ops H' ?_
                              obtain rfl := Option.some.inj ggh1'
                              refine opsV_nil ?_
                              exact ⟨rfl, shd [0, 3, 4, 58, 59, 60, 64] [] 1 rfl⟩
                          · rintro e' rfl
                            simp only [List.drop_succ_cons, List.drop_zero]
                            refine ops H' ?_
                            obtain ⟨b_10, ggh1', gh1'⟩ := Option.bind_eq_some_iff.1 gh1'
                            refine opsV_cut 6 (fun e' => e' = { N := 73, np := 1, nx := 1, sl := [(0, .pl (.one (.v (.sc (.string path))))), (3, .pl (.one (.v (.sc (.int .i64 (path.size : Int)))))), (4, .pl (.one (.v (.sc (.int .i64 i))))), (58, .pl (.one (.v (.sc (.bool false))))), (59, .pl (.one (.v (.sc (.int .i64 i))))), (60, .pl (.one (.v (.sc (.bool (decide (i > 0))))))), (64, .pl (.one (.v (.sc (.bool b_9))))), (71, .pl (.one (.v (.sc (.bool b_10)))))], ob := [] }) ?_ ?_
                            · simp only [List.take_succ_cons, List.take_zero]
                              refine opsV_sp (fun hc' => ?_) (fun hc' => ?_)
                              · replace ggh1' := (ifT hc').symm.trans ggh1'
                                obtain ⟨x69, hv', ggh1'⟩ := Option.bind_eq_some_iff.1 ggh1'
                                have H' := And.intro (sidx_f hv') H'
                                refine ops H' ?_
                                obtain rfl := Option.some.inj ggh1'
                                refine opsV_nil ?_
                                exact ⟨rfl, shd [0, 3, 4, 58, 59, 60, 64, 71] [] 1 rfl⟩
                              · replace ggh1' := (ifF hc').symm.trans ggh1'
                                refine ops H' ?_
                                obtain rfl := Option.some.inj ggh1'
                                refine opsV_nil ?_
                                exact ⟨rfl, shd [0, 3, 4, 58, 59, 60, 64, 71] [] 1 rfl⟩
                            · rintro e' rfl
                              simp only [List.drop_succ_cons, List.drop_zero]
                              refine ops H' ?_
                              obtain rfl := Option.some.inj gh1'
                              refine opsV_nil ?_
                              exact ⟨rfl, shd [0, 3, 4, 72] [] 1 rfl⟩
                        · replace gh1' := (ifT hc').symm.trans gh1'
                          refine ops H' ?_
                          obtain rfl := Option.some.inj gh1'
                          refine opsV_nil ?_
                          exact ⟨rfl, shd [0, 3, 4, 72] [] 1 rfl⟩
                      · rintro e' rfl
                        simp only [List.drop_succ_cons, List.drop_zero]
                        refine opsN ?_
                        refine wpV_split (fun hc' => ?_) (fun hc' => ?_)
                        · replace h1' := (ifT hc').symm.trans h1'
                          refine wpV_seq1 ?_
                          refine wpV_region ?_
                          refine ops H' ?_
                          refine opsN ?_
                          refine retN ?_
                          obtain rfl := Option.some.inj h1'
                          refine ⟨_, rfl, fun hr' => ?_⟩
                          subst hr'
                          obtain rfl := Option.some.inj h0'
                          exact outG H' rfl rfl
                        · replace h1' := (ifF hc').symm.trans h1'
                          refine skipN ?_
                          refine wpV_region ?_
                          refine ops H' ?_
                          refine opsN ?_
                          obtain rfl := Option.some.inj h1'
                          exact shd [0, 3, 4] [] 1 ⟨_, rfl, rfl⟩
          · replace h1' := (ifF hc').symm.trans h1'
            refine exitN ?_
            obtain rfl := Option.some.inj h1'
            refine ⟨_, rfl, fun hr' => ?_⟩
            subst hr'
            exact shd [] [] 1 ⟨h0', rfl⟩
        · rintro e' ⟨h0', rfl⟩
          unfold spec_PathOk_j1 at h0'
          refine wpV_seq1 ?_
          refine wpV_region ?_
          refine ops H' ?_
          refine opsN ?_
          refine retN ?_
          obtain rfl := Option.some.inj h0'
          exact outG H' rfl rfl
theorem W_spec_NamesOk (list_ : List T_impl_Name) (r' : Bool) (h0' : spec_NamesOk list_ = some r') : Fn X 178 [.one (.list false 3 (List.map (r_T_impl_Name false) list_))] [.one (.sc (.bool r'))] [] := by
  have H' := And.intro t3 (And.intro t9 (And.intro t83 (And.intro t88 (R_T_impl_Name))))
  unfold spec_NamesOk at h0'
  refine Fn.start (fn := f178) (N := 63) (res := [.tmp 2]) rfl rfl rfl rfl rfl (by simp) ?_
  refine enterG H' ?_
  refine wpV_seq1 ?_
  refine wpV_region ?_
  refine ops H' ?_
  refine opsN ?_
  refine wpV_seq1 ?_
  refine wpV_seq1 ?_
  refine wpV_region ?_
  refine ops H' ?_
  refine opsN ?_
  refine wpV_split (fun hc' => ?_) (fun hc' => ?_)
  · replace h0' := (ifT hc').symm.trans h0'
    refine wpV_seq1 ?_
    refine wpV_region ?_
    refine ops H' ?_
    refine opsN ?_
    refine retN ?_
    obtain rfl := Option.some.inj h0'
    exact outG H' rfl rfl
  · replace h0' := (ifF hc').symm.trans h0'
    refine skipN ?_
    refine wpV_seqJ (fun e' => spec_NamesOk_j1 = some r' ∧ e' = { N := 63, np := 1, nx := 1, sl := [], ob := [] }) ?_ ?_
    · refine wpV_seq1 ?_
      refine wpV_region ?_
      refine ops H' ?_
      refine opsN ?_
      obtain ⟨p, hl', h0'⟩ := Option.bind_eq_some_iff.1 h0'
      refine wpV_block ?_
      refine wpV_loopM (fun i e' => e' = { N := 63, np := 1, nx := 1, sl := [(0, .pl (.one (.v (.list false 3 (List.map (r_T_impl_Name false) list_))))), (3, .pl (.one (.v (.sc (.int .i64 i)))))], ob := [] }) hl' (shd [0, 3] [] 1 rfl) ?_
      rintro i y1' e' h1' rfl
      replace h1' : spec_NamesOk_l1 list_ i = some y1' := h1'
      unfold spec_NamesOk_l1 at h1'
      refine wpV_seq1 ?_
      refine wpV_seq1 ?_
      refine wpV_region ?_
      refine ops H' ?_
      refine opsN ?_
      refine wpV_split (fun hc' => ?_) (fun hc' => ?_)
      · replace h1' := (ifT hc').symm.trans h1'
        refine skipN ?_
        refine wpV_seqJ (fun e' => spec_NamesOk_j2 i = some y1' ∧ e' = { N := 63, np := 1, nx := 1, sl := [(0, .pl (.one (.v (.list false 3 (List.map (r_T_impl_Name false) list_))))), (3, .pl (.one (.v (.sc (.int .i64 i)))))], ob := [] }) ?_ ?_
        · refine wpV_block ?_
          refine wpV_seq1 ?_
          refine wpV_region ?_
          obtain ⟨x, hv', h1'⟩ := Option.bind_eq_some_iff.1 h1'
          have H' := And.intro (geti_f hv') H'
          refine ops H' ?_
          refine opsN ?_
          refine wpV_seq1 ?_
          refine wpV_seq1 ?_
          refine regQ ?_
          refine ops H' ?_
          obtain ⟨x21, hy', h1'⟩ := Option.bind_eq_some_iff.1 h1'
          refine callGQ H' (W_spec_PathOk _ _ hy') ?_
          refine ops H' ?_
          obtain ⟨b, gh1', h1'⟩ := Option.bind_eq_some_iff.1 h1'
          refine quV_cut 14 (fun e' => e' = { N := 63, np := 1, nx := 2, sl := [(0, .pl (.one (.v (.list false 3 (List.map (r_T_impl_Name false) list_))))), (3, .pl (.one (.v (.sc (.int .i64 i))))), (4, .pl (.one (.ref 1 []))), (37, .pl (.one (.v (.sc (.bool b)))))], ob := [(1, .box true [.sc (.string x.Path), .sc (.int .i64 x.Id), .sc (.int .i64 x.Version)])] }) ?_ ?_
          · simp only [List.take_succ_cons, List.take_zero]
            refine quV_sp (fun hc' => ?_) (fun hc' => ?_)
            · replace gh1' := (ifF hc').symm.trans gh1'
              refine ops H' ?_
              obtain ⟨b_1, ggh1', gh1'⟩ := Option.bind_eq_some_iff.1 gh1'
              refine quV_cut 10 (fun e' => e' = { N := 63, np := 1, nx := 2, sl := [(0, .pl (.one (.v (.list false 3 (List.map (r_T_impl_Name false) list_))))), (3, .pl (.one (.v (.sc (.int .i64 i))))), (4, .pl (.one (.ref 1 []))), (23, .pl (.one (.v (.sc (.bool false))))), (24, .pl (.one (.v (.sc (.int .i64 i))))), (25, .pl (.one (.v (.sc (.bool (decide (i > 0))))))), (36, .pl (.one (.v (.sc (.bool b_1)))))], ob := [(1, .box true [.sc (.string x.Path), .sc (.int .i64 x.Id), .sc (.int .i64 x.Version)])] }) ?_ ?_
              · simp only [List.take_succ_cons, List.take_zero]
                refine quV_sp (fun hc' => ?_) (fun hc' => ?_)
                · replace ggh1' := (ifT hc').symm.trans ggh1'
                  obtain ⟨x_1, hv', ggh1'⟩ := Option.bind_eq_some_iff.1 ggh1'
                  have H' := And.intro (geti_f hv') H'
                  refine ops H' ?_
                  obtain rfl := Option.some.inj ggh1'
                  refine quV_nil ?_
                  exact ⟨rfl, shd [0, 3, 4, 23, 24, 25, 36] [(1, 1)] 2 rfl⟩
                · replace ggh1' := (ifF hc').symm.trans ggh1'
                  refine ops H' ?_
                  obtain rfl := Option.some.inj ggh1'
                  refine quV_nil ?_
                  exact ⟨rfl, shd [0, 3, 4, 23, 24, 25, 36] [(1, 1)] 2 rfl⟩
              · rintro e' rfl
                simp only [List.drop_succ_cons, List.drop_zero]
                refine ops H' ?_
                obtain rfl := Option.some.inj gh1'
                refine quV_nil ?_
                exact ⟨rfl, shd [0, 3, 4, 37] [(1, 1)] 2 rfl⟩
            · replace gh1' := (ifT hc').symm.trans gh1'
              refine ops H' ?_
              obtain rfl := Option.some.inj gh1'
              refine quV_nil ?_
              exact ⟨rfl, shd [0, 3, 4, 37] [(1, 1)] 2 rfl⟩
          · rintro e' rfl
            simp only [List.drop_succ_cons, List.drop_zero]
            refine ops H' ?_
            obtain ⟨b_2, gh1', h1'⟩ := Option.bind_eq_some_iff.1 h1'
            refine quV_cut 5 (fun e' => e' = { N := 63, np := 1, nx := 2, sl := [(0, .pl (.one (.v (.list false 3 (List.map (r_T_impl_Name false) list_))))), (3, .pl (.one (.v (.sc (.int .i64 i))))), (4, .pl (.one (.ref 1 []))), (43, .pl (.one (.v (.sc (.bool b_2)))))], ob := [(1, .box true [.sc (.string x.Path), .sc (.int .i64 x.Id), .sc (.int .i64 x.Version)])] }) ?_ ?_
            · simp only [List.take_succ_cons, List.take_zero]
              refine quV_sp (fun hc' => ?_) (fun hc' => ?_)
              · replace gh1' := (ifF hc').symm.trans gh1'
                refine ops H' ?_
                obtain ⟨x41, hy', gh1'⟩ := Option.bind_eq_some_iff.1 gh1'
                refine callGQ H' (W_spec_l01In _ _ _ _ hy') ?_
                refine ops H' ?_
                obtain rfl := Option.some.inj gh1'
                refine quV_nil ?_
                exact ⟨rfl, shd [0, 3, 4, 43] [(1, 1)] 2 rfl⟩
              · replace gh1' := (ifT hc').symm.trans gh1'
                refine ops H' ?_
                obtain rfl := Option.some.inj gh1'
                refine quV_nil ?_
                exact ⟨rfl, shd [0, 3, 4, 43] [(1, 1)] 2 rfl⟩
            · rintro e' rfl
              simp only [List.drop_succ_cons, List.drop_zero]
              refine ops H' ?_
              obtain ⟨b_3, gh1', h1'⟩ := Option.bind_eq_some_iff.1 h1'
              refine quV_cut 5 (fun e' => e' = { N := 63, np := 1, nx := 2, sl := [(0, .pl (.one (.v (.list false 3 (List.map (r_T_impl_Name false) list_))))), (3, .pl (.one (.v (.sc (.int .i64 i))))), (4, .pl (.one (.ref 1 []))), (49, .pl (.one (.v (.sc (.bool b_3)))))], ob := [(1, .box true [.sc (.string x.Path), .sc (.int .i64 x.Id), .sc (.int .i64 x.Version)])] }) ?_ ?_
              · simp only [List.take_succ_cons, List.take_zero]
                refine quV_sp (fun hc' => ?_) (fun hc' => ?_)
                · replace gh1' := (ifF hc').symm.trans gh1'
                  refine ops H' ?_
                  obtain ⟨x47, hy', gh1'⟩ := Option.bind_eq_some_iff.1 gh1'
                  refine callGQ H' (W_spec_l01In _ _ _ _ hy') ?_
                  refine ops H' ?_
                  obtain rfl := Option.some.inj gh1'
                  refine quV_nil ?_
                  exact ⟨rfl, shd [0, 3, 4, 49] [(1, 1)] 2 rfl⟩
                · replace gh1' := (ifT hc').symm.trans gh1'
                  refine ops H' ?_
                  obtain rfl := Option.some.inj gh1'
                  refine quV_nil ?_
                  exact ⟨rfl, shd [0, 3, 4, 49] [(1, 1)] 2 rfl⟩
              · rintro e' rfl
                simp only [List.drop_succ_cons, List.drop_zero]
                refine quN ?_
                refine wpV_split (fun hc' => ?_) (fun hc' => ?_)
                · replace h1' := (ifT hc').symm.trans h1'
                  refine wpV_seq1 ?_
                  refine wpV_region ?_
                  refine ops H' ?_
                  refine opsN ?_
                  refine retN ?_
                  obtain rfl := Option.some.inj h1'
                  refine ⟨_, rfl, fun hr' => ?_⟩
                  subst hr'
                  obtain rfl := Option.some.inj h0'
                  exact outG H' rfl rfl
                · replace h1' := (ifF hc').symm.trans h1'
                  refine skipN ?_
                  refine wpV_seq1 ?_
                  refine wpV_region ?_
                  refine ops H' ?_
                  refine opsN ?_
                  obtain ⟨p_1, hl', h1'⟩ := Option.bind_eq_some_iff.1 h1'
                  refine wpV_block ?_
                  refine wpV_loopM (fun k e' => e' = { N := 63, np := 1, nx := 2, sl := [(0, .pl (.one (.v (.list false 3 (List.map (r_T_impl_Name false) list_))))), (3, .pl (.one (.v (.sc (.int .i64 i))))), (4, .pl (.one (.ref 1 []))), (5, .pl (.one (.v (.sc (.int .i64 k)))))], ob := [(1, .box true [.sc (.string x.Path), .sc (.int .i64 x.Id), .sc (.int .i64 x.Version)])] }) hl' (shd [0, 3, 4, 5] [(1, 1)] 2 rfl) ?_
                  rintro k y2' e' h2' rfl
                  replace h2' : spec_NamesOk_l2 list_ i x k = some y2' := h2'
                  unfold spec_NamesOk_l2 at h2'
                  refine wpV_seq1 ?_
                  refine wpV_seq1 ?_
                  refine wpV_region ?_
                  refine ops H' ?_
                  refine opsN ?_
                  refine wpV_split (fun hc' => ?_) (fun hc' => ?_)
                  · replace h2' := (ifT hc').symm.trans h2'
                    refine skipN ?_
                    refine wpV_seq1 ?_
                    refine wpV_block ?_
                    refine wpV_seq1 ?_
                    refine regQ ?_
                    obtain ⟨x_2, hv', h2'⟩ := Option.bind_eq_some_iff.1 h2'
                    have H' := And.intro (geti_f hv') H'
                    refine ops H' ?_
                    refine quN ?_
                    refine wpV_split (fun hc' => ?_) (fun hc' => ?_)
                    · replace h2' := (ifT hc').symm.trans h2'
                      refine wpV_seq1 ?_
                      refine wpV_region ?_
                      refine ops H' ?_
                      refine opsN ?_
                      refine retN ?_
                      obtain rfl := Option.some.inj h2'
                      refine ⟨_, rfl, fun hr' => ?_⟩
                      subst hr'
                      obtain rfl := Option.some.inj h1'
                      refine ⟨_, rfl, fun hr' => ?_⟩
                      subst hr'
                      obtain rfl := Option.some.inj h0'
                      exact outG H' rfl rfl
                    · replace h2' := (ifF hc').symm.trans h2'
                      refine skipN ?_
                      refine wpV_region ?_
                      refine ops H' ?_
                      refine opsN ?_
                      obtain rfl := Option.some.inj h2'
                      exact shd [0, 3, 4, 5] [(1, 1)] 2 ⟨_, rfl, rfl⟩
                  · replace h2' := (ifF hc').symm.trans h2'
                    refine exitN ?_
                    obtain rfl := Option.some.inj h2'
                    refine ⟨_, rfl, fun hr' => ?_⟩
                    subst hr'
                    exact shd [0, 3] [] 1 ⟨h1', rfl⟩
        · rintro e' ⟨h1', rfl⟩
          unfold spec_NamesOk_j2 at h1'
          refine wpV_region ?_
          refine ops H' ?_
          refine opsN ?_
          obtain rfl := Option.some.inj h1'
          exact shd [0, 3] [] 1 ⟨_, rfl, rfl⟩
      · replace h1' := (ifF hc').symm.trans h1'
        refine exitN ?_
        obtain rfl := Option.some.inj h1'
        refine ⟨_, rfl, fun hr' => ?_⟩
        subst hr'
        exact shd [] [] 1 ⟨h0', rfl⟩
    · rintro e' ⟨h0', rfl⟩
      unfold spec_NamesOk_j1 at h0'
      refine wpV_seq1 ?_
      refine wpV_region ?_
      refine ops H' ?_
      refine opsN ?_
      refine retN ?_
      obtain rfl := Option.some.inj h0'
      exact outG H' rfl rfl
theorem W_spec_CommitsOk (list_ : List T_impl_Commit) (versions : List Int) (r' : Bool) (h0' : spec_CommitsOk list_ versions = some r') : Fn X 113 [.one (.list false 3 (List.map (r_T_impl_Commit false) list_)), .one (.list false 1 (List.map (rK .i64) versions))] [.one (.sc (.bool r'))] [] := by
  have H' := And.intro t3 (And.intro t9 (And.intro t22 (And.intro t44 (And.intro t83 (And.intro t85 (And.intro t88 (And.intro R_Li64 (And.intro R_T_impl_Commit (And.intro R_T_impl_Name (R_i64))))))))))
  unfold spec_CommitsOk at h0'
  refine Fn.start (fn := f113) (N := 90) (res := [.tmp 4]) rfl rfl rfl rfl rfl (by simp) ?_
  refine enterG H' ?_
  refine wpV_seq1 ?_
  refine wpV_region ?_
  refine ops H' ?_
  refine opsN ?_
  refine wpV_seq1 ?_
  refine wpV_seq1 ?_
  refine wpV_region ?_
  refine ops H' ?_
  obtain ⟨b, gh0', h0'⟩ := Option.bind_eq_some_iff.1 h0'
  refine opsV_cut 4 (fun e' => e' = { N := 90, np := 2, nx := 2, sl := [(0, .pl (.one (.v (.list false 3 (List.map (r_T_impl_Commit false) list_))))), (1, .pl (.one (.v (.list false 1 (List.map (rK .i64) versions))))), (16, .pl (.one (.v (.sc (.bool b)))))], ob := [] }) ?_ ?_
  · simp only [List.take_succ_cons, List.take_zero]
    refine opsV_sp (fun hc' => ?_) (fun hc' => ?_)
    · replace gh0' := (ifF hc').symm.trans gh0'
      refine ops H' ?_
      obtain rfl := Option.some.inj gh0'
      refine opsV_nil ?_
      exact ⟨rfl, shd [0, 1, 16] [] 2 rfl⟩
    · replace gh0' := (ifT hc').symm.trans gh0'
      refine ops H' ?_
      obtain rfl := Option.some.inj gh0'
      refine opsV_nil ?_
      exact ⟨rfl, shd [0, 1, 16] [] 2 rfl⟩
  · rintro e' rfl
    simp only [List.drop_succ_cons, List.drop_zero]
    refine ops H' ?_
    obtain ⟨b_1, gh0', h0'⟩ := Option.bind_eq_some_iff.1 h0'
    refine opsV_cut 5 (fun e' => e' = { N := 90, np := 2, nx := 2, sl := [(0, .pl (.one (.v (.list false 3 (List.map (r_T_impl_Commit false) list_))))), (1, .pl (.one (.v (.list false 1 (List.map (rK .i64) versions))))), (22, .pl (.one (.v (.sc (.bool b_1)))))], ob := [] }) ?_ ?_
    · simp only [List.take_succ_cons, List.take_zero]
      refine opsV_sp (fun hc' => ?_) (fun hc' => ?_)
      · replace gh0' := (ifF hc').symm.trans gh0'
        refine ops H' ?_
        obtain ⟨x19, hy', gh0'⟩ := Option.bind_eq_some_iff.1 gh0'
        refine callGD H' (fun _ => []) (W_spec_l14Graph _ _ hy') ?_
        refine ops H' ?_
        obtain ⟨x20, hy', gh0'⟩ := Option.bind_eq_some_iff.1 gh0'
        refine callG H' (fun _ => []) (W_spec_GraphOk _ _ hy') ?_
        refine ops H' ?_
        obtain rfl := Option.some.inj gh0'
        refine opsV_nil ?_
        exact ⟨rfl, shd [0, 1, 22] [] 2 rfl⟩
      · replace gh0' := (ifT hc').symm.trans gh0'
        refine ops H' ?_
        obtain rfl := Option.some.inj gh0'
        refine opsV_nil ?_
        exact ⟨rfl, shd [0, 1, 22] [] 2 rfl⟩
    · rintro e' rfl
      simp only [List.drop_succ_cons, List.drop_zero]
      refine opsN ?_
      refine wpV_split (fun hc' => ?_) (fun hc' => ?_)
      · replace h0' := (ifT hc').symm.trans h0'
        refine wpV_seq1 ?_
        refine wpV_region ?_
        refine ops H' ?_
        refine opsN ?_
        refine retN ?_
        obtain rfl := Option.some.inj h0'
        exact outG H' rfl rfl
      · replace h0' := (ifF hc').symm.trans h0'
        refine skipN ?_
        refine wpV_seqJ (fun e' => spec_CommitsOk_j1 list_ versions = some r' ∧ e' = { N := 90, np := 2, nx := 2, sl := [(0, .pl (.one (.v (.list false 3 (List.map (r_T_impl_Commit false) list_))))), (1, .pl (.one (.v (.list false 1 (List.map (rK .i64) versions)))))], ob := [] }) ?_ ?_
        · refine wpV_seq1 ?_
          refine wpV_region ?_
          refine ops H' ?_
          refine opsN ?_
          obtain ⟨p_2, hl', h0'⟩ := Option.bind_eq_some_iff.1 h0'
          refine wpV_block ?_
          refine wpV_loopM (fun i_1 e' => e' = { N := 90, np := 2, nx := 2, sl := [(0, .pl (.one (.v (.list false 3 (List.map (r_T_impl_Commit false) list_))))), (1, .pl (.one (.v (.list false 1 (List.map (rK .i64) versions))))), (5, .pl (.one (.v (.sc (.int .i64 i_1)))))], ob := [] }) hl' (shd [0, 1, 5] [] 2 rfl) ?_
          rintro i_1 y1' e' h1' rfl
          replace h1' : spec_CommitsOk_l3 versions i_1 = some y1' := h1'
          unfold spec_CommitsOk_l3 at h1'
          refine wpV_seq1 ?_
          refine wpV_seq1 ?_
          refine wpV_region ?_
          refine ops H' ?_
          refine opsN ?_
          refine wpV_split (fun hc' => ?_) (fun hc' => ?_)
          · replace h1' := (ifT hc').symm.trans h1'
            refine skipN ?_
            refine wpV_seq1 ?_
            refine wpV_block ?_
            refine wpV_seq1 ?_
            refine wpV_region ?_
            obtain ⟨x_4, hv', h1'⟩ := Option.bind_eq_some_iff.1 h1'
            have H' := And.intro (geti_f hv') H'
            refine ops H' ?_
            obtain ⟨x33, hy', h1'⟩ := Option.bind_eq_some_iff.1 h1'
            refine callG H' (fun _ => []) (W_spec_l01In _ _ _ _ hy') ?_
            refine ops H' ?_
            refine opsN ?_
            refine wpV_split (fun hc' => ?_) (fun hc' => ?_)
            · replace h1' := (ifT hc').symm.trans h1'
              refine wpV_seq1 ?_
              refine wpV_region ?_
              refine ops H' ?_
              refine opsN ?_
              refine retN ?_
              obtain rfl := Option.some.inj h1'
              refine ⟨_, rfl, fun hr' => ?_⟩
              subst hr'
              obtain rfl := Option.some.inj h0'
              exact outG H' rfl rfl
            · replace h1' := (ifF hc').symm.trans h1'
              refine skipN ?_
              refine wpV_region ?_
              refine ops H' ?_
              refine opsN ?_
              obtain rfl := Option.some.inj h1'
              exact shd [0, 1, 5] [] 2 ⟨_, rfl, rfl⟩
          · replace h1' := (ifF hc').symm.trans h1'
            refine exitN ?_
            obtain rfl := Option.some.inj h1'
            refine ⟨_, rfl, fun hr' => ?_⟩
            subst hr'
            exact shd [0, 1] [] 2 ⟨h0', rfl⟩
        · rintro e' ⟨h0', rfl⟩
          unfold spec_CommitsOk_j1 at h0'
          refine wpV_seqJ (fun e' => spec_CommitsOk_j2 = some r' ∧ e' = { N := 90, np := 2, nx := 2, sl := [], ob := [] }) ?_ ?_
          · refine wpV_seq1 ?_
            refine wpV_region ?_
            refine ops H' ?_
            refine opsN ?_
            obtain ⟨p, hl', h0'⟩ := Option.bind_eq_some_iff.1 h0'
            refine wpV_block ?_
            refine wpV_loopM (fun i e' => e' = { N := 90, np := 2, nx := 2, sl := [(0, .pl (.one (.v (.list false 3 (List.map (r_T_impl_Commit false) list_))))), (1, .pl (.one (.v (.list false 1 (List.map (rK .i64) versions))))), (6, .pl (.one (.v (.sc (.int .i64 i)))))], ob := [] }) hl' (shd [0, 1, 6] [] 2 rfl) ?_
            rintro i y1' e' h1' rfl
            replace h1' : spec_CommitsOk_l1 list_ versions i = some y1' := h1'
            unfold spec_CommitsOk_l1 at h1'
            refine wpV_seq1 ?_
            refine wpV_seq1 ?_
            refine wpV_region ?_
            refine ops H' ?_
            refine opsN ?_
            refine wpV_split (fun hc' => ?_) (fun hc' => ?_)
            · replace h1' := (ifT hc').symm.trans h1'
              refine skipN ?_
              refine wpV_seqJ (fun e' => spec_CommitsOk_j3 i = some y1' ∧ e' = { N := 90, np := 2, nx := 2, sl := [(0, .pl (.one (.v (.list false 3 (List.map (r_T_impl_Commit false) list_))))), (1, .pl (.one (.v (.list false 1 (List.map (rK .i64) versions))))), (6, .pl (.one (.v (.sc (.int .i64 i)))))], ob := [] }) ?_ ?_
              · refine wpV_block ?_
                refine wpV_seq1 ?_
                refine wpV_seq1 ?_
                refine wpV_region ?_
                obtain ⟨x, hv', h1'⟩ := Option.bind_eq_some_iff.1 h1'
                have H' := And.intro (geti_f hv') H'
                refine ops H' ?_
                obtain ⟨x46, hy', h1'⟩ := Option.bind_eq_some_iff.1 h1'
                refine callG H' (fun _ => []) (W_spec_NoteOk _ _ hy') ?_
                refine ops H' ?_
                obtain ⟨b_2, gh1', h1'⟩ := Option.bind_eq_some_iff.1 h1'
                refine opsV_cut 8 (fun e' => e' = { N := 90, np := 2, nx := 2, sl := [(0, .pl (.one (.v (.list false 3 (List.map (r_T_impl_Commit false) list_))))), (1, .pl (.one (.v (.list false 1 (List.map (rK .i64) versions))))), (6, .pl (.one (.v (.sc (.int .i64 i))))), (56, .pl (.one (.v (.sc (.bool b_2)))))], ob := [] }) ?_ ?_
                · simp only [List.take_succ_cons, List.take_zero]
                  refine opsV_sp (fun hc' => ?_) (fun hc' => ?_)
                  · replace gh1' := (ifF hc').symm.trans gh1'
                    refine ops H' ?_
                    obtain ⟨x54, hy', gh1'⟩ := Option.bind_eq_some_iff.1 gh1'
                    refine callG H' (fun _ => []) (W_spec_NamesOk _ _ hy') ?_
                    refine ops H' ?_
                    obtain rfl := Option.some.inj gh1'
                    refine opsV_nil ?_
                    exact ⟨rfl, shd [0, 1, 6, 56] [] 2 rfl⟩
                  · replace gh1' := (ifT hc').symm.trans gh1'
                    refine ops H' ?_
                    obtain rfl := Option.some.inj gh1'
                    refine opsV_nil ?_
                    exact ⟨rfl, shd [0, 1, 6, 56] [] 2 rfl⟩
                · rintro e' rfl
                  simp only [List.drop_succ_cons, List.drop_zero]
                  refine opsN ?_
                  refine wpV_split (fun hc' => ?_) (fun hc' => ?_)
                  · replace h1' := (ifT hc').symm.trans h1'
                    refine wpV_seq1 ?_
                    refine wpV_region ?_
                    refine ops H' ?_
                    refine opsN ?_
                    refine retN ?_
                    obtain rfl := Option.some.inj h1'
                    refine ⟨_, rfl, fun hr' => ?_⟩
                    subst hr'
                    obtain rfl := Option.some.inj h0'
                    exact outG H' rfl rfl
                  · replace h1' := (ifF hc').symm.trans h1'
                    refine skipN ?_
                    refine wpV_seq1 ?_
                    refine wpV_region ?_
                    refine ops H' ?_
                    refine opsN ?_
                    obtain ⟨p_1, hl', h1'⟩ := Option.bind_eq_some_iff.1 h1'
                    refine wpV_block ?_
                    refine wpV_loopM (fun k e' => e' = { N := 90, np := 2, nx := 2, sl := [(0, .pl (.one (.v (.list false 3 (List.map (r_T_impl_Commit false) list_))))), (1, .pl (.one (.v (.list false 1 (List.map (rK .i64) versions))))), (6, .pl (.one (.v (.sc (.int .i64 i))))), (7, .pl (.one (.v (.sc (.int .i64 k)))))], ob := [] }) hl' (shd [0, 1, 6, 7] [] 2 rfl) ?_
                    rintro k y2' e' h2' rfl
                    replace h2' : spec_CommitsOk_l2 list_ versions i k = some y2' := h2'
                    unfold spec_CommitsOk_l2 at h2'
                    refine wpV_seq1 ?_
                    refine wpV_seq1 ?_
                    refine wpV_region ?_
                    obtain ⟨x_1, hv', h2'⟩ := Option.bind_eq_some_iff.1 h2'
                    have H' := And.intro (geti_f hv') H'
                    refine ops H' ?_
                    refine opsN ?_
                    refine wpV_split (fun hc' => ?_) (fun hc' => ?_)
                    · replace h2' := (ifT hc').symm.trans h2'
                      refine skipN ?_
                      refine wpV_seq1 ?_
                      refine wpV_block ?_
                      refine wpV_seq1 ?_
                      refine wpV_region ?_
                      obtain ⟨x_2, hv', h2'⟩ := Option.bind_eq_some_iff.1 h2'
                      have H' := And.intro (geti_f hv') H'
                      refine ops H' ?_
                      refine opsN ?_
                      refine wpV_seq1 ?_
                      refine regQ ?_
                      refine ops H' ?_
                      obtain ⟨b_3, gh2', h2'⟩ := Option.bind_eq_some_iff.1 h2'
                      refine quV_cut 9 (fun e' => e' = { N := 90, np := 2, nx := 2, sl := [(0, .pl (.one (.v (.list false 3 (List.map (r_T_impl_Commit false) list_))))), (1, .pl (.one (.v (.list false 1 (List.map (rK .i64) versions))))), (6, .pl (.one (.v (.sc (.int .i64 i))))), (7, .pl (.one (.v (.sc (.int .i64 k))))), (89, .pl (.one (.v (.sc (.bool b_3)))))], ob := [] }) ?_ ?_
                      · simp only [List.take_succ_cons, List.take_zero]
                        refine quV_sp (fun hc' => ?_) (fun hc' => ?_)
                        · replace gh2' := (ifF hc').symm.trans gh2'
                          obtain ⟨x_3, hv', gh2'⟩ := Option.bind_eq_some_iff.1 gh2'
                          have H' := And.intro (geti_f hv') H'
                          refine ops H' ?_
                          obtain rfl := Option.some.inj gh2'
                          refine quV_nil ?_
                          exact ⟨rfl, shd [0, 1, 6, 7, 89] [] 2 rfl⟩
                        · replace gh2' := (ifT hc').symm.trans gh2'
                          refine ops H' ?_
                          obtain rfl := Option.some.inj gh2'
                          refine quV_nil ?_
                          exact ⟨rfl, shd [0, 1, 6, 7, 89] [] 2 rfl⟩
                      · rintro e' rfl
                        simp only [List.drop_succ_cons, List.drop_zero]
                        refine quN ?_
                        refine wpV_split (fun hc' => ?_) (fun hc' => ?_)
                        · replace h2' := (ifT hc').symm.trans h2'
                          refine wpV_seq1 ?_
                          refine wpV_region ?_
                          refine ops H' ?_
                          refine opsN ?_
                          refine retN ?_
                          obtain rfl := Option.some.inj h2'
                          refine ⟨_, rfl, fun hr' => ?_⟩
                          subst hr'
                          obtain rfl := Option.some.inj h1'
                          refine ⟨_, rfl, fun hr' => ?_⟩
                          subst hr'
                          obtain rfl := Option.some.inj h0'
                          exact outG H' rfl rfl
                        · replace h2' := (ifF hc').symm.trans h2'
                          refine skipN ?_
                          refine wpV_region ?_
                          refine ops H' ?_
                          refine opsN ?_
                          obtain rfl := Option.some.inj h2'
                          exact shd [0, 1, 6, 7] [] 2 ⟨_, rfl, rfl⟩
                    · replace h2' := (ifF hc').symm.trans h2'
                      refine exitN ?_
                      obtain rfl := Option.some.inj h2'
                      refine ⟨_, rfl, fun hr' => ?_⟩
                      subst hr'
                      exact shd [0, 1, 6] [] 2 ⟨h1', rfl⟩
              · rintro e' ⟨h1', rfl⟩
                unfold spec_CommitsOk_j3 at h1'
                refine wpV_region ?_
                refine ops H' ?_
                refine opsN ?_
                obtain rfl := Option.some.inj h1'
                exact shd [0, 1, 6] [] 2 ⟨_, rfl, rfl⟩
            · replace h1' := (ifF hc').symm.trans h1'
              refine exitN ?_
              obtain rfl := Option.some.inj h1'
              refine ⟨_, rfl, fun hr' => ?_⟩
              subst hr'
              exact shd [] [] 2 ⟨h0', rfl⟩
          · rintro e' ⟨h0', rfl⟩
            unfold spec_CommitsOk_j2 at h0'
            refine wpV_seq1 ?_
            refine wpV_region ?_
            refine ops H' ?_
            refine opsN ?_
            refine retN ?_
            obtain rfl := Option.some.inj h0'
            exact outG H' rfl rfl
end Go.TV.KFnExactLogOf
