/- Walks. -/
import Derived.Test.YthfhiepgdeghpaaKFnExactLogOfE
import Derived.Test.YthfhiepgdeghpaaKFnExactLogOfW0
set_option linter.unusedVariables false
set_option linter.unusedSimpArgs false
set_option maxHeartbeats 8000000
set_option maxRecDepth 100000
namespace Go.TV.KFnExactLogOf
attribute [local irreducible] anyV wpV opsV Does thenV blockV RetL quV seqV
open Go.Proofs.Try Go.TV.F
theorem W_spec_l05Set (parents : List (List Int)) (list_ : List Int) (r' : (List Bool)) (h0' : spec_l05Set parents list_ = some r') : Fn X 114 [.one (.list false 1 (List.map (rL false 1 (rK .i64)) parents)), .one (.list false 1 (List.map (rK .i64) list_))] [.one (.list true 1 (List.map rB r'))] [] := by
  have H' := And.intro t3 (And.intro t4 (And.intro t38 (And.intro t44 (And.intro t154 (And.intro R_Li64 (And.intro R_b (R_i64)))))))
  unfold spec_l05Set at h0'
  refine Fn.start (fn := f114) (N := 64) (res := [.tmp 4]) rfl rfl rfl rfl rfl (by simp) ?_
  refine enterG H' ?_
  refine wpV_seq1 ?_
  refine wpV_region ?_
  refine ops H' ?_
  refine opsN ?_
  refine wpV_seq1 ?_
  refine wpV_region ?_
  obtain ⟨x11, hv', h0'⟩ := Option.bind_eq_some_iff.1 h0'
  have H' := And.intro (mkl_f hv') H'
  refine ops H' ?_
  refine opsN ?_
  refine wpV_seqJ (fun e' => ∃ in_, spec_l05Set_j1 parents in_ = some r' ∧ e' = { N := 64, np := 2, nx := 3, sl := [(0, .pl (.one (.v (.list false 1 (List.map (rL false 1 (rK .i64)) parents))))), (5, .pl (.one (.ref 2 [])))], ob := [(2, .list true 1 (List.map rB in_))] }) ?_ ?_
  · refine wpV_seq1 ?_
    refine wpV_region ?_
    refine ops H' ?_
    refine opsN ?_
    obtain ⟨p_2, hl', h0'⟩ := Option.bind_eq_some_iff.1 h0'
    refine wpV_block ?_
    refine wpV_loopM (fun s' e' => ∃ i in__5, s' = (i, in__5) ∧ e' = { N := 64, np := 2, nx := 3, sl := [(0, .pl (.one (.v (.list false 1 (List.map (rL false 1 (rK .i64)) parents))))), (1, .pl (.one (.v (.list false 1 (List.map (rK .i64) list_))))), (5, .pl (.one (.ref 2 []))), (6, .pl (.one (.v (.sc (.int .i64 i)))))], ob := [(2, .list true 1 (List.map rB in__5))] }) hl' (shd [0, 1, 5, 6] [(3, 2)] 3 ⟨_, _, rfl, rfl⟩) ?_
    rintro s' y1' e' h1' ⟨i, in__5, rfl, rfl⟩
    replace h1' : spec_l05Set_l3 parents list_ i in__5 = some y1' := h1'
    unfold spec_l05Set_l3 at h1'
    refine wpV_seq1 ?_
    refine wpV_seq1 ?_
    refine wpV_region ?_
    refine ops H' ?_
    refine opsN ?_
    refine wpV_split (fun hc' => ?_) (fun hc' => ?_)
    · replace h1' := (ifT hc').symm.trans h1'
      refine skipN ?_
      refine wpV_seq1 ?_
      refine wpV_block ?_
      refine wpV_seq1 ?_
      refine wpV_region ?_
      obtain ⟨x_5, hv', h1'⟩ := Option.bind_eq_some_iff.1 h1'
      have H' := And.intro (geti_f hv') H'
      refine ops H' ?_
      obtain ⟨x25, hy', h1'⟩ := Option.bind_eq_some_iff.1 h1'
      refine callG H' (fun _ => []) (W_spec_l01In _ _ _ _ hy') ?_
      refine opsN ?_
      refine wpV_split (fun hc' => ?_) (fun hc' => ?_)
      · replace h1' := (ifT hc').symm.trans h1'
        refine wpV_region ?_
        obtain ⟨x_6, hv', h1'⟩ := Option.bind_eq_some_iff.1 h1'
        have H' := And.intro (geti_f hv') H'
        refine ops H' ?_
        refine opsN ?_
        refine wpV_region ?_
        refine ops H' ?_
        refine opsN ?_
        obtain rfl := Option.some.inj h1'
        exact shd [0, 1, 5, 6] [(2, 2)] 3 ⟨_, rfl, _, _, rfl, rfl⟩
      · replace h1' := (ifF hc').symm.trans h1'
        refine skipN ?_
        refine wpV_region ?_
        refine ops H' ?_
        refine opsN ?_
        obtain rfl := Option.some.inj h1'
        exact shd [0, 1, 5, 6] [(2, 2)] 3 ⟨_, rfl, _, _, rfl, rfl⟩
    · replace h1' := (ifF hc').symm.trans h1'
      refine exitN ?_
      obtain rfl := Option.some.inj h1'
      refine ⟨_, rfl, fun hr' => ?_⟩
      subst hr'
      exact shd [0, 5] [(2, 2)] 3 ⟨_, h0', rfl⟩
  · rintro e' ⟨in_, h0', rfl⟩
    unfold spec_l05Set_j1 at h0'
    refine wpV_seqJ (fun e' => ∃ in__1, spec_l05Set_j2 in__1 = some r' ∧ e' = { N := 64, np := 2, nx := 3, sl := [(5, .pl (.one (.ref 2 [])))], ob := [(2, .list true 1 (List.map rB in__1))] }) ?_ ?_
    · refine wpV_seq1 ?_
      refine wpV_region ?_
      refine ops H' ?_
      refine opsN ?_
      obtain ⟨p, hl', h0'⟩ := Option.bind_eq_some_iff.1 h0'
      refine wpV_block ?_
      refine wpV_loopM (fun s' e' => ∃ v in__2, s' = (v, in__2) ∧ e' = { N := 64, np := 2, nx := 3, sl := [(0, .pl (.one (.v (.list false 1 (List.map (rL false 1 (rK .i64)) parents))))), (5, .pl (.one (.ref 2 []))), (7, .pl (.one (.v (.sc (.int .i64 v)))))], ob := [(2, .list true 1 (List.map rB in__2))] }) hl' (shd [0, 5, 7] [(2, 2)] 3 ⟨_, _, rfl, rfl⟩) ?_
      rintro s' y1' e' h1' ⟨v, in__2, rfl, rfl⟩
      replace h1' : spec_l05Set_l1 parents v in__2 = some y1' := h1'
      unfold spec_l05Set_l1 at h1'
      refine wpV_seq1 ?_
      refine wpV_seq1 ?_
      refine wpV_region ?_
      refine ops H' ?_
      refine opsN ?_
      refine wpV_split (fun hc' => ?_) (fun hc' => ?_)
      · replace h1' := (ifT hc').symm.trans h1'
        refine skipN ?_
        refine wpV_seqJ (fun e' => ∃ in__3, spec_l05Set_j3 v in__3 = some y1' ∧ e' = { N := 64, np := 2, nx := 3, sl := [(0, .pl (.one (.v (.list false 1 (List.map (rL false 1 (rK .i64)) parents))))), (5, .pl (.one (.ref 2 []))), (7, .pl (.one (.v (.sc (.int .i64 v)))))], ob := [(2, .list true 1 (List.map rB in__3))] }) ?_ ?_
        · refine wpV_block ?_
          refine wpV_seq1 ?_
          refine wpV_region ?_
          refine ops H' ?_
          refine opsN ?_
          obtain ⟨p_1, hl', h1'⟩ := Option.bind_eq_some_iff.1 h1'
          refine wpV_block ?_
          refine wpV_loopM (fun s' e' => ∃ k in__4, s' = (k, in__4) ∧ e' = { N := 64, np := 2, nx := 3, sl := [(0, .pl (.one (.v (.list false 1 (List.map (rL false 1 (rK .i64)) parents))))), (5, .pl (.one (.ref 2 []))), (7, .pl (.one (.v (.sc (.int .i64 v))))), (8, .pl (.one (.v (.sc (.int .i64 k)))))], ob := [(2, .list true 1 (List.map rB in__4))] }) hl' (shd [0, 5, 7, 8] [(2, 2)] 3 ⟨_, _, rfl, rfl⟩) ?_
          rintro s' y2' e' h2' ⟨k, in__4, rfl, rfl⟩
          replace h2' : spec_l05Set_l2 parents v k in__4 = some y2' := h2'
          unfold spec_l05Set_l2 at h2'
          refine wpV_seq1 ?_
          refine wpV_seq1 ?_
          refine wpV_region ?_
          obtain ⟨x, hv', h2'⟩ := Option.bind_eq_some_iff.1 h2'
          have H' := And.intro (geti_f hv') H'
          refine ops H' ?_
          obtain ⟨b, gh2', h2'⟩ := Option.bind_eq_some_iff.1 h2'
          refine opsV_cut 5 (fun e' => e' = { N := 64, np := 2, nx := 3, sl := [(0, .pl (.one (.v (.list false 1 (List.map (rL false 1 (rK .i64)) parents))))), (5, .pl (.one (.ref 2 []))), (7, .pl (.one (.v (.sc (.int .i64 v))))), (8, .pl (.one (.v (.sc (.int .i64 k))))), (51, .pl (.one (.v (.sc (.bool b)))))], ob := [(2, .list true 1 (List.map rB in__4))] }) ?_ ?_
          · simp only [List.take_succ_cons, List.take_zero]
            refine opsV_sp (fun hc' => ?_) (fun hc' => ?_)
            · replace gh2' := (ifT hc').symm.trans gh2'
              obtain ⟨x_1, hv', gh2'⟩ := Option.bind_eq_some_iff.1 gh2'
              have H' := And.intro (geti_f hv') H'
              refine ops H' ?_
              obtain rfl := Option.some.inj gh2'
              refine opsV_nil ?_
              exact ⟨rfl, shd [0, 5, 7, 8, 51] [(2, 2)] 3 rfl⟩
            · replace gh2' := (ifF hc').symm.trans gh2'
              refine ops H' ?_
              obtain rfl := Option.some.inj gh2'
              refine opsV_nil ?_
              exact ⟨rfl, shd [0, 5, 7, 8, 51] [(2, 2)] 3 rfl⟩
          · rintro e' rfl
            simp only [List.drop_succ_cons, List.drop_zero]
            refine opsN ?_
            refine wpV_split (fun hc' => ?_) (fun hc' => ?_)
            · replace h2' := (ifT hc').symm.trans h2'
              refine skipN ?_
              refine wpV_seq1 ?_
              refine wpV_block ?_
              refine wpV_region ?_
              obtain ⟨x_2, hv', h2'⟩ := Option.bind_eq_some_iff.1 h2'
              have H' := And.intro (geti_f hv') H'
              obtain ⟨x_3, hv', h2'⟩ := Option.bind_eq_some_iff.1 h2'
              have H' := And.intro (geti_f hv') H'
              obtain ⟨x_4, hv', h2'⟩ := Option.bind_eq_some_iff.1 h2'
              have H' := And.intro (geti_f hv') H'
              refine ops H' ?_
              refine opsN ?_
              refine wpV_region ?_
              refine ops H' ?_
              refine opsN ?_
              obtain rfl := Option.some.inj h2'
              exact shd [0, 5, 7, 8] [(2, 2)] 3 ⟨_, rfl, _, _, rfl, rfl⟩
            · replace h2' := (ifF hc').symm.trans h2'
              refine exitN ?_
              obtain rfl := Option.some.inj h2'
              refine ⟨_, rfl, fun hr' => ?_⟩
              subst hr'
              exact shd [0, 5, 7] [(2, 2)] 3 ⟨_, h1', rfl⟩
        · rintro e' ⟨in__3, h1', rfl⟩
          unfold spec_l05Set_j3 at h1'
          refine wpV_region ?_
          refine ops H' ?_
          refine opsN ?_
          obtain rfl := Option.some.inj h1'
          exact shd [0, 5, 7] [(2, 2)] 3 ⟨_, rfl, _, _, rfl, rfl⟩
      · replace h1' := (ifF hc').symm.trans h1'
        refine exitN ?_
        obtain rfl := Option.some.inj h1'
        refine ⟨_, rfl, fun hr' => ?_⟩
        subst hr'
        exact shd [5] [(2, 2)] 3 ⟨_, h0', rfl⟩
    · rintro e' ⟨in__1, h0', rfl⟩
      unfold spec_l05Set_j2 at h0'
      refine wpV_seq1 ?_
      refine wpV_region ?_
      refine ops H' ?_
      refine opsN ?_
      refine retN ?_
      obtain rfl := Option.some.inj h0'
      exact outG H' rfl rfl
theorem W_spec_LogOf (list_ : List T_impl_Commit) (versions : List Int) (c : Int) (r' : (List Int)) (h0' : spec_LogOf list_ versions c = some r') : Fn X 43 [.one (.list false 3 (List.map (r_T_impl_Commit false) list_)), .one (.list false 1 (List.map (rK .i64) versions)), .one (.sc (.int .i64 c))] [.one (.list true 1 (List.map (rK .i64) r'))] [] := by
  have H' := And.intro t3 (And.intro t4 (And.intro t22 (And.intro t44 (And.intro t154 (And.intro R_Li64 (And.intro R_T_impl_Commit (And.intro R_T_impl_Name (And.intro R_b (R_i64)))))))))
  unfold spec_LogOf at h0'
  refine Fn.start (fn := f43) (N := 45) (res := [.tmp 6]) rfl rfl rfl rfl rfl (by simp) ?_
  refine enterG H' ?_
  refine wpV_seq1 ?_
  refine wpV_region ?_
  refine ops H' ?_
  refine opsN ?_
  refine wpV_seq1 ?_
  refine wpV_region ?_
  refine ops H' ?_
  refine opsN ?_
  refine wpV_seq1 ?_
  refine wpV_seq1 ?_
  refine wpV_region ?_
  refine ops H' ?_
  obtain ⟨x13, hy', h0'⟩ := Option.bind_eq_some_iff.1 h0'
  refine callG H' (fun _ => []) (W_spec_CommitsOk _ _ _ hy') ?_
  refine ops H' ?_
  obtain ⟨b, gh0', h0'⟩ := Option.bind_eq_some_iff.1 h0'
  refine opsV_cut 7 (fun e' => e' = { N := 45, np := 3, nx := 4, sl := [(0, .pl (.one (.v (.list false 3 (List.map (r_T_impl_Commit false) list_))))), (2, .pl (.one (.v (.sc (.int .i64 c))))), (7, .pl (.one (.ref 3 []))), (22, .pl (.one (.v (.sc (.bool b)))))], ob := [(3, .list true 1 (List.map (rK .i64) []))] }) ?_ ?_
  · simp only [List.take_succ_cons, List.take_zero]
    refine opsV_sp (fun hc' => ?_) (fun hc' => ?_)
    · replace gh0' := (ifF hc').symm.trans gh0'
      refine ops H' ?_
      obtain ⟨x20, hy', gh0'⟩ := Option.bind_eq_some_iff.1 gh0'
      refine callG H' (fun _ => []) (W_spec_l01In _ _ _ _ hy') ?_
      refine ops H' ?_
      obtain rfl := Option.some.inj gh0'
      refine opsV_nil ?_
      exact ⟨rfl, shd [0, 2, 7, 22] [(4, 3)] 4 rfl⟩
    · replace gh0' := (ifT hc').symm.trans gh0'
      refine ops H' ?_
      obtain rfl := Option.some.inj gh0'
      refine opsV_nil ?_
      exact ⟨rfl, shd [0, 2, 7, 22] [(4, 3)] 4 rfl⟩
  · rintro e' rfl
    simp only [List.drop_succ_cons, List.drop_zero]
    refine opsN ?_
    refine wpV_split (fun hc' => ?_) (fun hc' => ?_)
    · replace h0' := (ifT hc').symm.trans h0'
      refine wpV_seq1 ?_
      refine wpV_region ?_
      refine ops H' ?_
      refine opsN ?_
      refine retN ?_
      obtain rfl := Option.some.inj h0'
      exact outG H' rfl rfl
    · replace h0' := (ifF hc').symm.trans h0'
      refine skipN ?_
      refine wpV_seq1 ?_
      refine wpV_region ?_
      refine ops H' ?_
      obtain ⟨x25, hy', h0'⟩ := Option.bind_eq_some_iff.1 h0'
      refine callGD H' (fun _ => []) (W_spec_l14Graph _ _ hy') ?_
      refine ops H' ?_
      obtain ⟨x28, hy', h0'⟩ := Option.bind_eq_some_iff.1 h0'
      refine callG H' (fun _ => []) (W_spec_l05Set _ _ _ hy') ?_
      refine ops H' ?_
      refine opsN ?_
      refine wpV_seqJ (fun e' => ∃ out_, spec_LogOf_j1 out_ = some r' ∧ e' = { N := 45, np := 3, nx := 4, sl := [(7, .pl (.one (.ref 3 [])))], ob := [(3, .list true 1 (List.map (rK .i64) out_))] }) ?_ ?_
      · refine wpV_seq1 ?_
        refine wpV_region ?_
        refine ops H' ?_
        refine opsN ?_
        obtain ⟨p, hl', h0'⟩ := Option.bind_eq_some_iff.1 h0'
        refine wpV_block ?_
        refine wpV_loopM (fun s' e' => ∃ v out__1, s' = (v, out__1) ∧ e' = { N := 45, np := 3, nx := 5, sl := [(7, .pl (.one (.ref 3 []))), (8, .pl (.one (.ref 4 []))), (9, .pl (.one (.v (.sc (.int .i64 v)))))], ob := [(3, .list true 1 (List.map (rK .i64) out__1)), (4, .list true 1 (List.map rB x28))] }) hl' (shd [7, 8, 9] [(3, 3), (6, 4)] 5 ⟨_, _, rfl, rfl⟩) ?_
        rintro s' y1' e' h1' ⟨v, out__1, rfl, rfl⟩
        replace h1' : spec_LogOf_l1 x28 v out__1 = some y1' := h1'
        unfold spec_LogOf_l1 at h1'
        refine wpV_seq1 ?_
        refine wpV_seq1 ?_
        refine wpV_region ?_
        refine ops H' ?_
        refine opsN ?_
        refine wpV_split (fun hc' => ?_) (fun hc' => ?_)
        · replace h1' := (ifT hc').symm.trans h1'
          refine skipN ?_
          refine wpV_seq1 ?_
          refine wpV_block ?_
          refine wpV_seq1 ?_
          refine wpV_region ?_
          obtain ⟨x, hv', h1'⟩ := Option.bind_eq_some_iff.1 h1'
          have H' := And.intro (geti_f hv') H'
          refine ops H' ?_
          refine opsN ?_
          refine wpV_split (fun hc' => ?_) (fun hc' => ?_)
          · replace h1' := (ifT hc').symm.trans h1'
            refine wpV_region ?_
            obtain ⟨l, hv', h1'⟩ := Option.bind_eq_some_iff.1 h1'
            have H' := And.intro (app1_f hv') H'
            refine ops H' ?_
            refine opsN ?_
            refine wpV_region ?_
            refine ops H' ?_
            refine opsN ?_
            obtain rfl := Option.some.inj h1'
            exact shd [7, 8, 9] [(3, 3), (4, 4)] 5 ⟨_, rfl, _, _, rfl, rfl⟩
          · replace h1' := (ifF hc').symm.trans h1'
            refine skipN ?_
            refine wpV_region ?_
            refine ops H' ?_
            refine opsN ?_
            obtain rfl := Option.some.inj h1'
            exact shd [7, 8, 9] [(3, 3), (4, 4)] 5 ⟨_, rfl, _, _, rfl, rfl⟩
        · replace h1' := (ifF hc').symm.trans h1'
          refine exitN ?_
          obtain rfl := Option.some.inj h1'
          refine ⟨_, rfl, fun hr' => ?_⟩
          subst hr'
          exact shd [7] [(3, 3)] 4 ⟨_, h0', rfl⟩
      · rintro e' ⟨out_, h0', rfl⟩
        unfold spec_LogOf_j1 at h0'
        refine wpV_seq1 ?_
        refine wpV_region ?_
        refine ops H' ?_
        refine opsN ?_
        refine retN ?_
        obtain rfl := Option.some.inj h0'
        exact outG H' rfl rfl
theorem W_impl_inRange (n : Int) (least : Int) (most : Int) (r' : Bool) (h0' : impl_inRange n least most = some r') : Fn X 155 [.one (.sc (.int .i64 n)), .one (.sc (.int .i64 least)), .one (.sc (.int .i64 most))] [.one (.sc (.bool r'))] [] := by
  have H' := t3
  unfold impl_inRange at h0'
  refine Fn.start (fn := f155) (N := 15) (res := [.tmp 6]) rfl rfl rfl rfl rfl (by simp) ?_
  refine enterG H' ?_
  refine wpV_seq1 ?_
  refine wpV_region ?_
  refine ops H' ?_
  refine opsN ?_
  refine wpV_seq1 ?_
  refine wpV_region ?_
  refine ops H' ?_
  obtain ⟨b, gh0', h0'⟩ := Option.bind_eq_some_iff.1 h0'
  refine opsV_cut 4 (fun e' => e' = { N := 15, np := 3, nx := 3, sl := [(14, .pl (.one (.v (.sc (.bool b)))))], ob := [] }) ?_ ?_
  · simp only [List.take_succ_cons, List.take_zero]
    refine opsV_sp (fun hc' => ?_) (fun hc' => ?_)
    · replace gh0' := (ifT hc').symm.trans gh0'
      refine ops H' ?_
      obtain rfl := Option.some.inj gh0'
      refine opsV_nil ?_
      exact ⟨rfl, shd [14] [] 3 rfl⟩
    · replace gh0' := (ifF hc').symm.trans gh0'
      refine ops H' ?_
      obtain rfl := Option.some.inj gh0'
      refine opsV_nil ?_
      exact ⟨rfl, shd [14] [] 3 rfl⟩
  · rintro e' rfl
    simp only [List.drop_succ_cons, List.drop_zero]
    refine ops H' ?_
    refine opsN ?_
    refine retN ?_
    obtain rfl := Option.some.inj h0'
    exact outG H' rfl rfl
theorem W_impl_isPlace (n : Int) (size : Int) (r' : Bool) (h0' : impl_isPlace n size = some r') : Fn X 94 [.one (.sc (.int .i64 n)), .one (.sc (.int .i64 size))] [.one (.sc (.bool r'))] [] := by
  have H' := t3
  unfold impl_isPlace at h0'
  refine Fn.start (fn := f94) (N := 9) (res := [.tmp 4]) rfl rfl rfl rfl rfl (by simp) ?_
  refine enterG H' ?_
  refine wpV_seq1 ?_
  refine wpV_region ?_
  refine ops H' ?_
  refine opsN ?_
  refine wpV_seq1 ?_
  refine wpV_region ?_
  refine ops H' ?_
  obtain ⟨x8, hy', h0'⟩ := Option.bind_eq_some_iff.1 h0'
  refine callG H' (fun _ => []) (W_impl_inRange _ _ _ _ hy') ?_
  refine ops H' ?_
  refine opsN ?_
  refine retN ?_
  obtain rfl := Option.some.inj h0'
  exact outG H' rfl rfl
theorem W_impl_graphOf (list_ : List T_impl_Commit) (r' : (List (List Int))) (h0' : impl_graphOf list_ = some r') : Fn X 118 [.one (.list false 3 (List.map (r_T_impl_Commit false) list_))] [.one (.list true 1 (List.map (rL false 1 (rK .i64)) r'))] [] := by
  have H' := And.intro t3 (And.intro t22 (And.intro t38 (And.intro t44 (And.intro t85 (And.intro R_Li64 (And.intro R_T_impl_Commit (And.intro R_T_impl_Name (R_i64))))))))
  unfold impl_graphOf at h0'
  refine Fn.start (fn := f118) (N := 19) (res := [.tmp 2]) rfl rfl rfl rfl rfl (by simp) ?_
  refine enterG H' ?_
  refine wpV_seq1 ?_
  refine wpV_region ?_
  refine ops H' ?_
  refine opsN ?_
  refine wpV_seq1 ?_
  refine wpV_region ?_
  refine ops H' ?_
  refine opsN ?_
  refine wpV_seqJ (fun e' => ∃ out_, impl_graphOf_j1 out_ = some r' ∧ e' = { N := 19, np := 1, nx := 2, sl := [(3, .pl (.one (.ref 1 [])))], ob := [(1, .list true 1 (List.map (rL false 1 (rK .i64)) out_))] }) ?_ ?_
  · refine wpV_seq1 ?_
    refine wpV_region ?_
    refine ops H' ?_
    refine opsN ?_
    obtain ⟨p, hl', h0'⟩ := Option.bind_eq_some_iff.1 h0'
    refine wpV_block ?_
    refine wpV_loopM (fun s' e' => ∃ x8 out__1, s' = (x8, out__1) ∧ e' = { N := 19, np := 1, nx := 2, sl := [(3, .pl (.one (.ref 1 []))), (6, .pl (.one (.v (.list false 3 (List.map (r_T_impl_Commit false) list_))))), (7, .pl (.one (.v (.sc (.int .i64 (list_.length : Int)))))), (8, .pl (.one (.v (.sc (.int .i64 x8)))))], ob := [(1, .list true 1 (List.map (rL false 1 (rK .i64)) out__1))] }) hl' (shd [3, 6, 7, 8] [(2, 1)] 2 ⟨_, _, rfl, rfl⟩) ?_
    rintro s' y1' e' h1' ⟨x8, out__1, rfl, rfl⟩
    replace h1' : impl_graphOf_l1 list_ x8 out__1 = some y1' := h1'
    unfold impl_graphOf_l1 at h1'
    refine wpV_seq1 ?_
    refine wpV_region ?_
    refine ops H' ?_
    refine opsN ?_
    refine wpV_seq1 ?_
    refine wpV_split (fun hc' => ?_) (fun hc' => ?_)
    · replace h1' := (ifT hc').symm.trans h1'
      refine skipN ?_
      refine wpV_seq1 ?_
      refine wpV_block ?_
      refine wpV_seq1 ?_
      refine wpV_region ?_
      obtain ⟨x, hv', h1'⟩ := Option.bind_eq_some_iff.1 h1'
      have H' := And.intro (geti_f hv') H'
      refine ops H' ?_
      refine opsN ?_
      refine wpV_region ?_
      obtain ⟨l, hv', h1'⟩ := Option.bind_eq_some_iff.1 h1'
      have H' := And.intro (app1_f hv') H'
      refine ops H' ?_
      refine opsN ?_
      refine wpV_region ?_
      refine ops H' ?_
      refine opsN ?_
      obtain rfl := Option.some.inj h1'
      exact shd [3, 6, 7, 8] [(1, 1)] 2 ⟨_, rfl, _, _, rfl, rfl⟩
    · replace h1' := (ifF hc').symm.trans h1'
      refine exitN ?_
      obtain rfl := Option.some.inj h1'
      refine ⟨_, rfl, fun hr' => ?_⟩
      subst hr'
      exact shd [3] [(1, 1)] 2 ⟨_, h0', rfl⟩
  · rintro e' ⟨out_, h0', rfl⟩
    unfold impl_graphOf_j1 at h0'
    refine wpV_seq1 ?_
    refine wpV_region ?_
    refine ops H' ?_
    refine opsN ?_
    refine retN ?_
    obtain rfl := Option.some.inj h0'
    exact outG H' rfl rfl
theorem W_impl_ascends (list_ : List Int) (below : Int) (r' : Bool) (h0' : impl_ascends list_ below = some r') : Fn X 107 [.one (.list false 1 (List.map (rK .i64) list_)), .one (.sc (.int .i64 below))] [.one (.sc (.bool r'))] [] := by
  have H' := And.intro t3 (And.intro t44 (R_i64))
  unfold impl_ascends at h0'
  refine Fn.start (fn := f107) (N := 33) (res := [.tmp 4]) rfl rfl rfl rfl rfl (by simp) ?_
  refine enterG H' ?_
  refine wpV_seq1 ?_
  refine wpV_region ?_
  refine ops H' ?_
  refine opsN ?_
  refine wpV_seqJ (fun e' => impl_ascends_j1 = some r' ∧ e' = { N := 33, np := 2, nx := 2, sl := [], ob := [] }) ?_ ?_
  · refine wpV_seq1 ?_
    refine wpV_region ?_
    refine ops H' ?_
    refine opsN ?_
    obtain ⟨p, hl', h0'⟩ := Option.bind_eq_some_iff.1 h0'
    refine wpV_block ?_
    refine wpV_loopM (fun x9 e' => e' = { N := 33, np := 2, nx := 2, sl := [(0, .pl (.one (.v (.list false 1 (List.map (rK .i64) list_))))), (1, .pl (.one (.v (.sc (.int .i64 below))))), (7, .pl (.one (.v (.list false 1 (List.map (rK .i64) list_))))), (8, .pl (.one (.v (.sc (.int .i64 (list_.length : Int)))))), (9, .pl (.one (.v (.sc (.int .i64 x9)))))], ob := [] }) hl' (shd [0, 1, 7, 8, 9] [] 2 rfl) ?_
    rintro x9 y1' e' h1' rfl
    replace h1' : impl_ascends_l1 list_ below x9 = some y1' := h1'
    unfold impl_ascends_l1 at h1'
    refine wpV_seq1 ?_
    refine wpV_region ?_
    refine ops H' ?_
    refine opsN ?_
    refine wpV_seq1 ?_
    refine wpV_split (fun hc' => ?_) (fun hc' => ?_)
    · replace h1' := (ifT hc').symm.trans h1'
      refine skipN ?_
      refine wpV_seq1 ?_
      refine wpV_block ?_
      refine wpV_seq1 ?_
      refine wpV_region ?_
      obtain ⟨x, hv', h1'⟩ := Option.bind_eq_some_iff.1 h1'
      have H' := And.intro (geti_f hv') H'
      refine ops H' ?_
      refine opsN ?_
      refine wpV_seq1 ?_
      refine wpV_region ?_
      refine ops H' ?_
      obtain ⟨x17, hy', h1'⟩ := Option.bind_eq_some_iff.1 h1'
      refine callG H' (fun _ => []) (W_impl_inRange _ _ _ _ hy') ?_
      refine ops H' ?_
      obtain ⟨b, gh1', h1'⟩ := Option.bind_eq_some_iff.1 h1'
      refine opsV_cut 12 (fun e' => e' = { N := 33, np := 2, nx := 2, sl := [(0, .pl (.one (.v (.list false 1 (List.map (rK .i64) list_))))), (1, .pl (.one (.v (.sc (.int .i64 below))))), (7, .pl (.one (.v (.list false 1 (List.map (rK .i64) list_))))), (8, .pl (.one (.v (.sc (.int .i64 (list_.length : Int)))))), (9, .pl (.one (.v (.sc (.int .i64 x9))))), (31, .pl (.one (.v (.sc (.bool b)))))], ob := [] }) ?_ ?_
      · simp only [List.take_succ_cons, List.take_zero]
        refine opsV_sp (fun hc' => ?_) (fun hc' => ?_)
        · replace gh1' := (ifF hc').symm.trans gh1'
          refine ops H' ?_
          obtain ⟨b_1, ggh1', gh1'⟩ := Option.bind_eq_some_iff.1 gh1'
          refine opsV_cut 8 (fun e' => e' = { N := 33, np := 2, nx := 2, sl := [(0, .pl (.one (.v (.list false 1 (List.map (rK .i64) list_))))), (1, .pl (.one (.v (.sc (.int .i64 below))))), (7, .pl (.one (.v (.list false 1 (List.map (rK .i64) list_))))), (8, .pl (.one (.v (.sc (.int .i64 (list_.length : Int)))))), (9, .pl (.one (.v (.sc (.int .i64 x9))))), (19, .pl (.one (.v (.sc (.bool false))))), (20, .pl (.one (.v (.sc (.int .i64 x9))))), (21, .pl (.one (.v (.sc (.bool (decide (x9 > 0))))))), (30, .pl (.one (.v (.sc (.bool b_1)))))], ob := [] }) ?_ ?_
          · simp only [List.take_succ_cons, List.take_zero]
            refine opsV_sp (fun hc' => ?_) (fun hc' => ?_)
            · replace ggh1' := (ifT hc').symm.trans ggh1'
              obtain ⟨x_1, hv', ggh1'⟩ := Option.bind_eq_some_iff.1 ggh1'
              have H' := And.intro (geti_f hv') H'
              refine ops H' ?_
              obtain rfl := Option.some.inj ggh1'
              refine opsV_nil ?_
              exact ⟨rfl, shd [0, 1, 7, 8, 9, 19, 20, 21, 30] [] 2 rfl⟩
            · replace ggh1' := (ifF hc').symm.trans ggh1'
              refine ops H' ?_
              obtain rfl := Option.some.inj ggh1'
              refine opsV_nil ?_
              exact ⟨rfl, shd [0, 1, 7, 8, 9, 19, 20, 21, 30] [] 2 rfl⟩
          · rintro e' rfl
            simp only [List.drop_succ_cons, List.drop_zero]
            refine ops H' ?_
            obtain rfl := Option.some.inj gh1'
            refine opsV_nil ?_
            exact ⟨rfl, shd [0, 1, 7, 8, 9, 31] [] 2 rfl⟩
        · replace gh1' := (ifT hc').symm.trans gh1'
          refine ops H' ?_
          obtain rfl := Option.some.inj gh1'
          refine opsV_nil ?_
          exact ⟨rfl, shd [0, 1, 7, 8, 9, 31] [] 2 rfl⟩
      · rintro e' rfl
        simp only [List.drop_succ_cons, List.drop_zero]
        refine opsN ?_
        refine wpV_split (fun hc' => ?_) (fun hc' => ?_)
        · replace h1' := (ifT hc').symm.trans h1'
          refine wpV_seq1 ?_
          refine wpV_region ?_
          refine ops H' ?_
          refine opsN ?_
          refine retN ?_
          obtain rfl := Option.some.inj h1'
          refine ⟨_, rfl, fun hr' => ?_⟩
          subst hr'
          obtain rfl := Option.some.inj h0'
          exact outG H' rfl rfl
        · replace h1' := (ifF hc').symm.trans h1'
          refine skipN ?_
          refine wpV_region ?_
          refine ops H' ?_
          refine opsN ?_
          obtain rfl := Option.some.inj h1'
          exact shd [0, 1, 7, 8, 9] [] 2 ⟨_, rfl, rfl⟩
    · replace h1' := (ifF hc').symm.trans h1'
      refine exitN ?_
      obtain rfl := Option.some.inj h1'
      refine ⟨_, rfl, fun hr' => ?_⟩
      subst hr'
      exact shd [] [] 2 ⟨h0', rfl⟩
  · rintro e' ⟨h0', rfl⟩
    unfold impl_ascends_j1 at h0'
    refine wpV_seq1 ?_
    refine wpV_region ?_
    refine ops H' ?_
    refine opsN ?_
    refine retN ?_
    obtain rfl := Option.some.inj h0'
    exact outG H' rfl rfl
theorem W_impl_GraphOk (parents : List (List Int)) (r' : Bool) (h0' : impl_GraphOk parents = some r') : Fn X 95 [.one (.list false 1 (List.map (rL false 1 (rK .i64)) parents))] [.one (.sc (.bool r'))] [] := by
  have H' := And.intro t3 (And.intro t38 (And.intro t44 (And.intro R_Li64 (R_i64))))
  unfold impl_GraphOk at h0'
  refine Fn.start (fn := f95) (N := 25) (res := [.tmp 2]) rfl rfl rfl rfl rfl (by simp) ?_
  refine enterG H' ?_
  refine wpV_seq1 ?_
  refine wpV_region ?_
  refine ops H' ?_
  refine opsN ?_
  refine wpV_seqJ (fun e' => impl_GraphOk_j1 parents = some r' ∧ e' = { N := 25, np := 1, nx := 1, sl := [(0, .pl (.one (.v (.list false 1 (List.map (rL false 1 (rK .i64)) parents)))))], ob := [] }) ?_ ?_
  · refine wpV_seq1 ?_
    refine wpV_region ?_
    refine ops H' ?_
    refine opsN ?_
    obtain ⟨p, hl', h0'⟩ := Option.bind_eq_some_iff.1 h0'
    refine wpV_block ?_
    refine wpV_loopM (fun x7 e' => e' = { N := 25, np := 1, nx := 1, sl := [(0, .pl (.one (.v (.list false 1 (List.map (rL false 1 (rK .i64)) parents))))), (5, .pl (.one (.v (.list false 1 (List.map (rL false 1 (rK .i64)) parents))))), (6, .pl (.one (.v (.sc (.int .i64 (parents.length : Int)))))), (7, .pl (.one (.v (.sc (.int .i64 x7)))))], ob := [] }) hl' (shd [0, 5, 6, 7] [] 1 rfl) ?_
    rintro x7 y1' e' h1' rfl
    replace h1' : impl_GraphOk_l1 parents x7 = some y1' := h1'
    unfold impl_GraphOk_l1 at h1'
    refine wpV_seq1 ?_
    refine wpV_region ?_
    refine ops H' ?_
    refine opsN ?_
    refine wpV_seq1 ?_
    refine wpV_split (fun hc' => ?_) (fun hc' => ?_)
    · replace h1' := (ifT hc').symm.trans h1'
      refine skipN ?_
      refine wpV_seq1 ?_
      refine wpV_block ?_
      refine wpV_seq1 ?_
      refine wpV_region ?_
      obtain ⟨x, hv', h1'⟩ := Option.bind_eq_some_iff.1 h1'
      have H' := And.intro (geti_f hv') H'
      refine ops H' ?_
      refine opsN ?_
      refine wpV_seq1 ?_
      refine wpV_region ?_
      refine ops H' ?_
      obtain ⟨b, gh1', h1'⟩ := Option.bind_eq_some_iff.1 h1'
      refine opsV_cut 5 (fun e' => e' = { N := 25, np := 1, nx := 1, sl := [(0, .pl (.one (.v (.list false 1 (List.map (rL false 1 (rK .i64)) parents))))), (5, .pl (.one (.v (.list false 1 (List.map (rL false 1 (rK .i64)) parents))))), (6, .pl (.one (.v (.sc (.int .i64 (parents.length : Int)))))), (7, .pl (.one (.v (.sc (.int .i64 x7))))), (20, .pl (.one (.v (.sc (.bool b)))))], ob := [] }) ?_ ?_
      · simp only [List.take_succ_cons, List.take_zero]
        refine opsV_sp (fun hc' => ?_) (fun hc' => ?_)
        · replace gh1' := (ifF hc').symm.trans gh1'
          refine ops H' ?_
          obtain ⟨x18, hy', gh1'⟩ := Option.bind_eq_some_iff.1 gh1'
          refine callG H' (fun _ => []) (W_impl_ascends _ _ _ hy') ?_
          refine ops H' ?_
          obtain rfl := Option.some.inj gh1'
          refine opsV_nil ?_
          exact ⟨rfl, shd [0, 5, 6, 7, 20] [] 1 rfl⟩
        · replace gh1' := (ifT hc').symm.trans gh1'
          refine ops H' ?_
          obtain rfl := Option.some.inj gh1'
          refine opsV_nil ?_
          exact ⟨rfl, shd [0, 5, 6, 7, 20] [] 1 rfl⟩
      · rintro e' rfl
        simp only [List.drop_succ_cons, List.drop_zero]
        refine opsN ?_
        refine wpV_split (fun hc' => ?_) (fun hc' => ?_)
        · replace h1' := (ifT hc').symm.trans h1'
          refine wpV_seq1 ?_
          refine wpV_region ?_
          refine ops H' ?_
          refine opsN ?_
          refine retN ?_
          obtain rfl := Option.some.inj h1'
          refine ⟨_, rfl, fun hr' => ?_⟩
          subst hr'
          obtain rfl := Option.some.inj h0'
          exact outG H' rfl rfl
        · replace h1' := (ifF hc').symm.trans h1'
          refine skipN ?_
          refine wpV_region ?_
          refine ops H' ?_
          refine opsN ?_
          obtain rfl := Option.some.inj h1'
          exact shd [0, 5, 6, 7] [] 1 ⟨_, rfl, rfl⟩
    · replace h1' := (ifF hc').symm.trans h1'
      refine exitN ?_
      obtain rfl := Option.some.inj h1'
      refine ⟨_, rfl, fun hr' => ?_⟩
      subst hr'
      exact shd [0] [] 1 ⟨h0', rfl⟩
  · rintro e' ⟨h0', rfl⟩
    unfold impl_GraphOk_j1 at h0'
    refine wpV_seq1 ?_
    refine wpV_region ?_
    refine ops H' ?_
    refine opsN ?_
    refine retN ?_
    obtain rfl := Option.some.inj h0'
    exact outG H' rfl rfl
theorem W_impl_NoteOk (note : ByteArray) (r' : Bool) (h0' : impl_NoteOk note = some r') : Fn X 180 [.one (.sc (.string note))] [.one (.sc (.bool r'))] [] := by
  have H' := And.intro t3 (And.intro t5 (t9))
  unfold impl_NoteOk at h0'
  refine Fn.start (fn := f180) (N := 23) (res := [.tmp 2]) rfl rfl rfl rfl rfl (by simp) ?_
  refine enterG H' ?_
  refine wpV_seq1 ?_
  refine wpV_region ?_
  refine ops H' ?_
  refine opsN ?_
  refine wpV_seqJ (fun e' => impl_NoteOk_j1 note = some r' ∧ e' = { N := 23, np := 1, nx := 1, sl := [(0, .pl (.one (.v (.sc (.string note)))))], ob := [] }) ?_ ?_
  · refine wpV_seq1 ?_
    refine wpV_region ?_
    refine ops H' ?_
    refine opsN ?_
    obtain ⟨p, hl', h0'⟩ := Option.bind_eq_some_iff.1 h0'
    refine wpV_block ?_
    refine wpV_loopM (fun i e' => e' = { N := 23, np := 1, nx := 1, sl := [(0, .pl (.one (.v (.sc (.string note))))), (3, .pl (.one (.v (.sc (.int .i64 i)))))], ob := [] }) hl' (shd [0, 3] [] 1 rfl) ?_
    rintro i y1' e' h1' rfl
    replace h1' : impl_NoteOk_l1 note i = some y1' := h1'
    unfold impl_NoteOk_l1 at h1'
    refine wpV_seq1 ?_
    refine wpV_seq1 ?_
    refine wpV_region ?_
    refine ops H' ?_
    refine opsN ?_
    refine wpV_split (fun hc' => ?_) (fun hc' => ?_)
    · replace h1' := (ifT hc').symm.trans h1'
      refine skipN ?_
      refine wpV_seq1 ?_
      refine wpV_block ?_
      refine wpV_seq1 ?_
      refine wpV_region ?_
      obtain ⟨x12, hv', h1'⟩ := Option.bind_eq_some_iff.1 h1'
      have H' := And.intro (sidx_f hv') H'
      refine ops H' ?_
      obtain ⟨b, gh1', h1'⟩ := Option.bind_eq_some_iff.1 h1'
      refine opsV_cut 5 (fun e' => e' = { N := 23, np := 1, nx := 1, sl := [(0, .pl (.one (.v (.sc (.string note))))), (3, .pl (.one (.v (.sc (.int .i64 i))))), (19, .pl (.one (.v (.sc (.bool b)))))], ob := [] }) ?_ ?_
      · simp only [List.take_succ_cons, List.take_zero]
        refine opsV_sp (fun hc' => ?_) (fun hc' => ?_)
        · replace gh1' := (ifF hc').symm.trans gh1'
          refine ops H' ?_
          obtain rfl := Option.some.inj gh1'
          refine opsV_nil ?_
          exact ⟨rfl, shd [0, 3, 19] [] 1 rfl⟩
        · replace gh1' := (ifT hc').symm.trans gh1'
          refine ops H' ?_
          obtain rfl := Option.some.inj gh1'
          refine opsV_nil ?_
          exact ⟨rfl, shd [0, 3, 19] [] 1 rfl⟩
      · rintro e' rfl
        simp only [List.drop_succ_cons, List.drop_zero]
        refine opsN ?_
        refine wpV_split (fun hc' => ?_) (fun hc' => ?_)
        · replace h1' := (ifT hc').symm.trans h1'
          refine wpV_seq1 ?_
          refine wpV_region ?_
          refine ops H' ?_
          refine opsN ?_
          refine retN ?_
          obtain rfl := Option.some.inj h1'
          refine ⟨_, rfl, fun hr' => ?_⟩
          subst hr'
          obtain rfl := Option.some.inj h0'
          exact outG H' rfl rfl
        · replace h1' := (ifF hc').symm.trans h1'
          refine skipN ?_
          refine wpV_region ?_
          refine ops H' ?_
          refine opsN ?_
          obtain rfl := Option.some.inj h1'
          exact shd [0, 3] [] 1 ⟨_, rfl, rfl⟩
    · replace h1' := (ifF hc').symm.trans h1'
      refine exitN ?_
      obtain rfl := Option.some.inj h1'
      refine ⟨_, rfl, fun hr' => ?_⟩
      subst hr'
      exact shd [0] [] 1 ⟨h0', rfl⟩
  · rintro e' ⟨h0', rfl⟩
    unfold impl_NoteOk_j1 at h0'
    refine wpV_seq1 ?_
    refine wpV_region ?_
    refine ops H' ?_
    refine opsN ?_
    refine retN ?_
    obtain rfl := Option.some.inj h0'
    exact outG H' rfl rfl
theorem W_internal_stringslite_HasPrefix (s : ByteArray) (prefix_ : ByteArray) (r' : Bool) (h0' : internal_stringslite_HasPrefix s prefix_ = some r') : Fn X 213 [.one (.sc (.string s)), .one (.sc (.string prefix_))] [.one (.sc (.bool r'))] [] := by
  have H' := And.intro t3 (t9)
  unfold internal_stringslite_HasPrefix at h0'
  refine Fn.start (fn := f213) (N := 18) (res := [.tmp 4]) rfl rfl rfl rfl rfl (by simp) ?_
  refine enterG H' ?_
  refine wpV_seq1 ?_
  refine wpV_region ?_
  refine ops H' ?_
  refine opsN ?_
  refine wpV_seq1 ?_
  refine wpV_region ?_
  refine ops H' ?_
  obtain ⟨b, gh0', h0'⟩ := Option.bind_eq_some_iff.1 h0'
  refine opsV_cut 7 (fun e' => e' = { N := 18, np := 2, nx := 2, sl := [(17, .pl (.one (.v (.sc (.bool b)))))], ob := [] }) ?_ ?_
  · simp only [List.take_succ_cons, List.take_zero]
    refine opsV_sp (fun hc' => ?_) (fun hc' => ?_)
    · replace gh0' := (ifT hc').symm.trans gh0'
      obtain ⟨x14, hv', gh0'⟩ := Option.bind_eq_some_iff.1 gh0'
      have H' := And.intro (subH_f hv') H'
      refine ops H' ?_
      obtain rfl := Option.some.inj gh0'
      refine opsV_nil ?_
      exact ⟨rfl, shd [17] [] 2 rfl⟩
    · replace gh0' := (ifF hc').symm.trans gh0'
      refine ops H' ?_
      obtain rfl := Option.some.inj gh0'
      refine opsV_nil ?_
      exact ⟨rfl, shd [17] [] 2 rfl⟩
  · rintro e' rfl
    simp only [List.drop_succ_cons, List.drop_zero]
    refine ops H' ?_
    refine opsN ?_
    refine retN ?_
    obtain rfl := Option.some.inj h0'
    exact outG H' rfl rfl
theorem W_strings_HasPrefix (s : ByteArray) (prefix_ : ByteArray) (r' : Bool) (h0' : strings_HasPrefix s prefix_ = some r') : Fn X 208 [.one (.sc (.string s)), .one (.sc (.string prefix_))] [.one (.sc (.bool r'))] [] := by
  have H' := trivial
  unfold strings_HasPrefix at h0'
  refine Fn.start (fn := f208) (N := 8) (res := [.tmp 4]) rfl rfl rfl rfl rfl (by simp) ?_
  refine enterG H' ?_
  refine wpV_seq1 ?_
  refine wpV_region ?_
  refine ops H' ?_
  refine opsN ?_
  refine wpV_seq1 ?_
  refine wpV_region ?_
  refine ops H' ?_
  obtain ⟨x7, hy', h0'⟩ := Option.bind_eq_some_iff.1 h0'
  refine callG H' (fun _ => []) (W_internal_stringslite_HasPrefix _ _ _ hy') ?_
  refine ops H' ?_
  refine opsN ?_
  refine retN ?_
  obtain rfl := Option.some.inj h0'
  exact outG H' rfl rfl
theorem W_internal_stringslite_HasSuffix (s : ByteArray) (suffix : ByteArray) (r' : Bool) (h0' : internal_stringslite_HasSuffix s suffix = some r') : Fn X 214 [.one (.sc (.string s)), .one (.sc (.string suffix))] [.one (.sc (.bool r'))] [] := by
  have H' := And.intro t3 (t9)
  unfold internal_stringslite_HasSuffix at h0'
  refine Fn.start (fn := f214) (N := 21) (res := [.tmp 4]) rfl rfl rfl rfl rfl (by simp) ?_
  refine enterG H' ?_
  refine wpV_seq1 ?_
  refine wpV_region ?_
  refine ops H' ?_
  refine opsN ?_
  refine wpV_seq1 ?_
  refine wpV_region ?_
  refine ops H' ?_
  obtain ⟨b, gh0', h0'⟩ := Option.bind_eq_some_iff.1 h0'
  refine opsV_cut 10 (fun e' => e' = { N := 21, np := 2, nx := 2, sl := [(20, .pl (.one (.v (.sc (.bool b)))))], ob := [] }) ?_ ?_
  · simp only [List.take_succ_cons, List.take_zero]
    refine opsV_sp (fun hc' => ?_) (fun hc' => ?_)
    · replace gh0' := (ifT hc').symm.trans gh0'
      obtain ⟨x17, hv', gh0'⟩ := Option.bind_eq_some_iff.1 gh0'
      have H' := And.intro (subL_f hv') H'
      refine ops H' ?_
      obtain rfl := Option.some.inj gh0'
      refine opsV_nil ?_
      exact ⟨rfl, shd [20] [] 2 rfl⟩
    · replace gh0' := (ifF hc').symm.trans gh0'
      refine ops H' ?_
      obtain rfl := Option.some.inj gh0'
      refine opsV_nil ?_
      exact ⟨rfl, shd [20] [] 2 rfl⟩
  · rintro e' rfl
    simp only [List.drop_succ_cons, List.drop_zero]
    refine ops H' ?_
    refine opsN ?_
    refine retN ?_
    obtain rfl := Option.some.inj h0'
    exact outG H' rfl rfl
theorem W_strings_HasSuffix (s : ByteArray) (suffix : ByteArray) (r' : Bool) (h0' : strings_HasSuffix s suffix = some r') : Fn X 209 [.one (.sc (.string s)), .one (.sc (.string suffix))] [.one (.sc (.bool r'))] [] := by
  have H' := trivial
  unfold strings_HasSuffix at h0'
  refine Fn.start (fn := f209) (N := 8) (res := [.tmp 4]) rfl rfl rfl rfl rfl (by simp) ?_
  refine enterG H' ?_
  refine wpV_seq1 ?_
  refine wpV_region ?_
  refine ops H' ?_
  refine opsN ?_
  refine wpV_seq1 ?_
  refine wpV_region ?_
  refine ops H' ?_
  obtain ⟨x7, hy', h0'⟩ := Option.bind_eq_some_iff.1 h0'
  refine callG H' (fun _ => []) (W_internal_stringslite_HasSuffix _ _ _ hy') ?_
  refine ops H' ?_
  refine opsN ?_
  refine retN ?_
  obtain rfl := Option.some.inj h0'
  exact outG H' rfl rfl
theorem W_strings_Contains (s : ByteArray) (x : ByteArray) (r' : Bool) (h0' : strings_Contains s x = some r') : Fn X 207 [.one (.sc (.string s)), .one (.sc (.string x))] [.one (.sc (.bool r'))] [] := by
  unfold strings_Contains at h0'
  split at h0'
  case isFalse => cases h0'
  rename_i hs
  obtain rfl := Option.some.inj h0'
  exact Fn_pureB ⟨_, Go.Proofs.Try.func207, rfl, rfl⟩ (fun w hg => by
    obtain ⟨m, hm⟩ := hg _ rfl
    exact Go.Proofs.Any.strings_Contains { Go.Proofs.Try.lays144 with } s x m w hs hm)
theorem W_impl_PathOk (path : ByteArray) (r' : Bool) (h0' : impl_PathOk path = some r') : Fn X 199 [.one (.sc (.string path))] [.one (.sc (.bool r'))] [] := by
  have H' := And.intro t3 (And.intro t5 (t9))
  unfold impl_PathOk at h0'
  refine Fn.start (fn := f199) (N := 58) (res := [.tmp 2]) rfl rfl rfl rfl rfl (by simp) ?_
  refine enterG H' ?_
  refine wpV_seq1 ?_
  refine wpV_region ?_
  refine ops H' ?_
  refine opsN ?_
  refine wpV_seqJ (fun e' => impl_PathOk_j1 path = some r' ∧ e' = { N := 58, np := 1, nx := 1, sl := [(0, .pl (.one (.v (.sc (.string path)))))], ob := [] }) ?_ ?_
  · refine wpV_seq1 ?_
    refine wpV_region ?_
    refine ops H' ?_
    refine opsN ?_
    obtain ⟨p, hl', h0'⟩ := Option.bind_eq_some_iff.1 h0'
    refine wpV_block ?_
    refine wpV_loopM (fun i e' => e' = { N := 58, np := 1, nx := 1, sl := [(0, .pl (.one (.v (.sc (.string path))))), (3, .pl (.one (.v (.sc (.int .i64 i)))))], ob := [] }) hl' (shd [0, 3] [] 1 rfl) ?_
    rintro i y1' e' h1' rfl
    replace h1' : impl_PathOk_l1 path i = some y1' := h1'
    unfold impl_PathOk_l1 at h1'
    refine wpV_seq1 ?_
    refine wpV_seq1 ?_
    refine wpV_region ?_
    refine ops H' ?_
    refine opsN ?_
    refine wpV_split (fun hc' => ?_) (fun hc' => ?_)
    · replace h1' := (ifT hc').symm.trans h1'
      refine skipN ?_
      refine wpV_seq1 ?_
      refine wpV_block ?_
      refine wpV_seq1 ?_
      refine wpV_region ?_
      obtain ⟨x13, hv', h1'⟩ := Option.bind_eq_some_iff.1 h1'
      have H' := And.intro (sidx_f hv') H'
      refine ops H' ?_
      refine opsN ?_
      refine wpV_seq1 ?_
      refine wpV_region ?_
      refine ops H' ?_
      obtain ⟨b_2, gh1', h1'⟩ := Option.bind_eq_some_iff.1 h1'
      refine opsV_cut 3 (fun e' => e' = { N := 58, np := 1, nx := 1, sl := [(0, .pl (.one (.v (.sc (.string path))))), (3, .pl (.one (.v (.sc (.int .i64 i))))), (4, .pl (.one (.v (.sc (.int .u8 x13))))), (19, .pl (.one (.v (.sc (.bool b_2)))))], ob := [] }) ?_ ?_
      · simp only [List.take_succ_cons, List.take_zero]
        refine opsV_sp (fun hc' => ?_) (fun hc' => ?_)
        · replace gh1' := (ifT hc').symm.trans gh1'
          refine ops H' ?_
          obtain rfl := Option.some.inj gh1'
          refine opsV_nil ?_
          exact ⟨rfl, shd [0, 3, 4, 19] [] 1 rfl⟩
        · replace gh1' := (ifF hc').symm.trans gh1'
          refine ops H' ?_
          obtain rfl := Option.some.inj gh1'
          refine opsV_nil ?_
          exact ⟨rfl, shd [0, 3, 4, 19] [] 1 rfl⟩
      · rintro e' rfl
        simp only [List.drop_succ_cons, List.drop_zero]
        refine ops H' ?_
        obtain ⟨b_3, gh1', h1'⟩ := Option.bind_eq_some_iff.1 h1'
        refine opsV_cut 7 (fun e' => e' = { N := 58, np := 1, nx := 1, sl := [(0, .pl (.one (.v (.sc (.string path))))), (3, .pl (.one (.v (.sc (.int .i64 i))))), (4, .pl (.one (.v (.sc (.int .u8 x13))))), (27, .pl (.one (.v (.sc (.bool b_3)))))], ob := [] }) ?_ ?_
        · simp only [List.take_succ_cons, List.take_zero]
          refine opsV_sp (fun hc' => ?_) (fun hc' => ?_)
          · replace gh1' := (ifF hc').symm.trans gh1'
            refine ops H' ?_
            obtain ⟨b_4, ggh1', gh1'⟩ := Option.bind_eq_some_iff.1 gh1'
            refine opsV_cut 3 (fun e' => e' = { N := 58, np := 1, nx := 1, sl := [(0, .pl (.one (.v (.sc (.string path))))), (3, .pl (.one (.v (.sc (.int .i64 i))))), (4, .pl (.one (.v (.sc (.int .u8 x13))))), (20, .pl (.one (.v (.sc (.bool false))))), (21, .pl (.one (.v (.sc (.int .u8 x13))))), (22, .pl (.one (.v (.sc (.bool (decide (x13 ≥ 48))))))), (26, .pl (.one (.v (.sc (.bool b_4)))))], ob := [] }) ?_ ?_
            · simp only [List.take_succ_cons, List.take_zero]
              refine opsV_sp (fun hc' => ?_) (fun hc' => ?_)
              · replace ggh1' := (ifT hc').symm.trans ggh1'
                refine ops H' ?_
                obtain rfl := Option.some.inj ggh1'
                refine opsV_nil ?_
                exact ⟨rfl, shd [0, 3, 4, 20, 21, 22, 26] [] 1 rfl⟩
              · replace ggh1' := (ifF hc').symm.trans ggh1'
                refine ops H' ?_
                obtain rfl := Option.some.inj ggh1'
                refine opsV_nil ?_
                exact ⟨rfl, shd [0, 3, 4, 20, 21, 22, 26] [] 1 rfl⟩
            · rintro e' rfl
              simp only [List.drop_succ_cons, List.drop_zero]
              refine ops H' ?_
              obtain rfl := Option.some.inj gh1'
              refine opsV_nil ?_
              exact ⟨rfl, shd [0, 3, 4, 27] [] 1 rfl⟩
          · replace gh1' := (ifT hc').symm.trans gh1'
            refine ops H' ?_
            obtain rfl := Option.some.inj gh1'
            refine opsV_nil ?_
            exact ⟨rfl, shd [0, 3, 4, 27] [] 1 rfl⟩
        · rintro e' rfl
          simp only [List.drop_succ_cons, List.drop_zero]
          refine ops H' ?_
          obtain ⟨b_5, gh1', h1'⟩ := Option.bind_eq_some_iff.1 h1'
          refine opsV_cut 3 (fun e' => e' = { N := 58, np := 1, nx := 1, sl := [(0, .pl (.one (.v (.sc (.string path))))), (3, .pl (.one (.v (.sc (.int .i64 i))))), (4, .pl (.one (.v (.sc (.int .u8 x13))))), (31, .pl (.one (.v (.sc (.bool b_5)))))], ob := [] }) ?_ ?_
          · simp only [List.take_succ_cons, List.take_zero]
            refine opsV_sp (fun hc' => ?_) (fun hc' => ?_)
            · replace gh1' := (ifF hc').symm.trans gh1'
              refine ops H' ?_
              obtain rfl := Option.some.inj gh1'
              refine opsV_nil ?_
              exact ⟨rfl, shd [0, 3, 4, 31] [] 1 rfl⟩
            · replace gh1' := (ifT hc').symm.trans gh1'
              refine ops H' ?_
              obtain rfl := Option.some.inj gh1'
              refine opsV_nil ?_
              exact ⟨rfl, shd [0, 3, 4, 31] [] 1 rfl⟩
          · rintro e' rfl
            simp only [List.drop_succ_cons, List.drop_zero]
            refine ops H' ?_
            obtain ⟨b_6, gh1', h1'⟩ := Option.bind_eq_some_iff.1 h1'
            refine opsV_cut 3 (fun e' => e' = { N := 58, np := 1, nx := 1, sl := [(0, .pl (.one (.v (.sc (.string path))))), (3, .pl (.one (.v (.sc (.int .i64 i))))), (4, .pl (.one (.v (.sc (.int .u8 x13))))), (35, .pl (.one (.v (.sc (.bool b_6)))))], ob := [] }) ?_ ?_
            · simp only [List.take_succ_cons, List.take_zero]
              refine opsV_sp (fun hc' => ?_) (fun hc' => ?_)
              · replace gh1' := (ifF hc').symm.trans gh1'
                refine ops H' ?_
                obtain rfl := Option.some.inj gh1'
                refine opsV_nil ?_
                exact ⟨rfl, shd [0, 3, 4, 35] [] 1 rfl⟩
              · replace gh1' := (ifT hc').symm.trans gh1'
                refine ops H' ?_
                obtain rfl := Option.some.inj gh1'
                refine opsV_nil ?_
                exact ⟨rfl, shd [0, 3, 4, 35] [] 1 rfl⟩
            · rintro e' rfl
              simp only [List.drop_succ_cons, List.drop_zero]
              refine ops H' ?_
              obtain ⟨b_7, gh1', h1'⟩ := Option.bind_eq_some_iff.1 h1'
              refine opsV_cut 3 (fun e' => e' = { N := 58, np := 1, nx := 1, sl := [(0, .pl (.one (.v (.sc (.string path))))), (3, .pl (.one (.v (.sc (.int .i64 i))))), (39, .pl (.one (.v (.sc (.bool b_7)))))], ob := [] }) ?_ ?_
              · simp only [List.take_succ_cons, List.take_zero]
                refine opsV_sp (fun hc' => ?_) (fun hc' => ?_)
                · replace gh1' := (ifF hc').symm.trans gh1'
                  refine ops H' ?_
                  obtain rfl := Option.some.inj gh1'
                  refine opsV_nil ?_
                  exact ⟨rfl, shd [0, 3, 39] [] 1 rfl⟩
                · replace gh1' := (ifT hc').symm.trans gh1'
                  refine ops H' ?_
                  obtain rfl := Option.some.inj gh1'
                  refine opsV_nil ?_
                  exact ⟨rfl, shd [0, 3, 39] [] 1 rfl⟩
              · rintro e' rfl
                simp only [List.drop_succ_cons, List.drop_zero]
                refine ops H' ?_
                refine opsN ?_
                refine wpV_split (fun hc' => ?_) (fun hc' => ?_)
                · replace h1' := (ifT hc').symm.trans h1'
                  refine wpV_seq1 ?_
                  refine wpV_region ?_
                  refine ops H' ?_
                  refine opsN ?_
                  refine retN ?_
                  obtain rfl := Option.some.inj h1'
                  refine ⟨_, rfl, fun hr' => ?_⟩
                  subst hr'
                  obtain rfl := Option.some.inj h0'
                  exact outG H' rfl rfl
                · replace h1' := (ifF hc').symm.trans h1'
                  refine skipN ?_
                  refine wpV_region ?_
                  refine ops H' ?_
                  refine opsN ?_
                  obtain rfl := Option.some.inj h1'
                  exact shd [0, 3] [] 1 ⟨_, rfl, rfl⟩
    · replace h1' := (ifF hc').symm.trans h1'
      refine exitN ?_
      obtain rfl := Option.some.inj h1'
      refine ⟨_, rfl, fun hr' => ?_⟩
      subst hr'
      exact shd [0] [] 1 ⟨h0', rfl⟩
  · rintro e' ⟨h0', rfl⟩
    unfold impl_PathOk_j1 at h0'
    refine wpV_seq1 ?_
    refine wpV_seq1 ?_
    refine wpV_region ?_
    refine ops H' ?_
    obtain ⟨x43, hy', h0'⟩ := Option.bind_eq_some_iff.1 h0'
    refine callG H' (fun _ => []) (W_impl_inRange _ _ _ _ hy') ?_
    refine ops H' ?_
    refine opsN ?_
    refine wpV_split (fun hc' => ?_) (fun hc' => ?_)
    · replace h0' := (ifT hc').symm.trans h0'
      refine wpV_seq1 ?_
      refine wpV_region ?_
      refine ops H' ?_
      refine opsN ?_
      refine retN ?_
      obtain rfl := Option.some.inj h0'
      exact outG H' rfl rfl
    · replace h0' := (ifF hc').symm.trans h0'
      refine skipN ?_
      refine wpV_seq1 ?_
      refine wpV_region ?_
      refine ops H' ?_
      obtain ⟨x46, hy', h0'⟩ := Option.bind_eq_some_iff.1 h0'
      refine callG H' (fun _ => []) (W_strings_HasPrefix _ _ _ hy') ?_
      refine ops H' ?_
      obtain ⟨b, gh0', h0'⟩ := Option.bind_eq_some_iff.1 h0'
      refine opsV_cut 4 (fun e' => e' = { N := 58, np := 1, nx := 1, sl := [(0, .pl (.one (.v (.sc (.string path))))), (52, .pl (.one (.v (.sc (.bool b)))))], ob := [] }) ?_ ?_
      · simp only [List.take_succ_cons, List.take_zero]
        refine opsV_sp (fun hc' => ?_) (fun hc' => ?_)
        · replace gh0' := (ifT hc').symm.trans gh0'
          refine ops H' ?_
          obtain ⟨x50, hy', gh0'⟩ := Option.bind_eq_some_iff.1 gh0'
          refine callG H' (fun _ => []) (W_strings_HasSuffix _ _ _ hy') ?_
          refine ops H' ?_
          obtain rfl := Option.some.inj gh0'
          refine opsV_nil ?_
          exact ⟨rfl, shd [0, 52] [] 1 rfl⟩
        · replace gh0' := (ifF hc').symm.trans gh0'
          refine ops H' ?_
          obtain rfl := Option.some.inj gh0'
          refine opsV_nil ?_
          exact ⟨rfl, shd [0, 52] [] 1 rfl⟩
      · rintro e' rfl
        simp only [List.drop_succ_cons, List.drop_zero]
        refine ops H' ?_
        obtain ⟨b_1, gh0', h0'⟩ := Option.bind_eq_some_iff.1 h0'
        refine opsV_cut 4 (fun e' => e' = { N := 58, np := 1, nx := 1, sl := [(57, .pl (.one (.v (.sc (.bool b_1)))))], ob := [] }) ?_ ?_
        · simp only [List.take_succ_cons, List.take_zero]
          refine opsV_sp (fun hc' => ?_) (fun hc' => ?_)
          · replace gh0' := (ifT hc').symm.trans gh0'
            refine ops H' ?_
            obtain ⟨x55, hy', gh0'⟩ := Option.bind_eq_some_iff.1 gh0'
            refine callG H' (fun _ => []) (W_strings_Contains _ _ _ hy') ?_
            refine ops H' ?_
            obtain rfl := Option.some.inj gh0'
            refine opsV_nil ?_
            exact ⟨rfl, shd [57] [] 1 rfl⟩
          · replace gh0' := (ifF hc').symm.trans gh0'
            refine ops H' ?_
            obtain rfl := Option.some.inj gh0'
            refine opsV_nil ?_
            exact ⟨rfl, shd [57] [] 1 rfl⟩
        · rintro e' rfl
          simp only [List.drop_succ_cons, List.drop_zero]
          refine ops H' ?_
          refine opsN ?_
          refine retN ?_
          obtain rfl := Option.some.inj h0'
          exact outG H' rfl rfl
theorem W_impl_idAt_c1 (n : T_impl_Name) (c : Int) (r' : Bool) (h0' : impl_idAt_c1 n c = some r') : Fn X 211 [.agg [.sc (.string n.Path), .sc (.int .i64 n.Id), .sc (.int .i64 n.Version)], .one (.box false [.sc (.int .i64 c)])] [.one (.sc (.bool r'))] [] := by
  have H' := And.intro t3 (t88)
  unfold impl_idAt_c1 at h0'
  refine Fn.start (fn := f211) (N := 8) (res := [.tmp 3]) rfl rfl rfl rfl rfl (by simp) ?_
  refine enterG H' ?_
  refine wpV_seq1 ?_
  refine wpV_region ?_
  refine ops H' ?_
  refine opsN ?_
  refine wpV_seq1 ?_
  refine wpV_region ?_
  refine ops H' ?_
  refine opsN ?_
  refine retN ?_
  obtain rfl := Option.some.inj h0'
  exact outG H' rfl rfl
theorem W_slices_IndexFunc_impl_Name_impl_Name__1 (s : List T_impl_Name) (f : T_impl_Name → Option Bool) (f_f : Nat) (f_c0 : V) (f_h : ∀ (z0' : T_impl_Name) r', f z0' = some r' → Fn X f_f [.agg [.sc (.string z0'.Path), .sc (.int .i64 z0'.Id), .sc (.int .i64 z0'.Version)], .one (f_c0)] [.one (.sc (.bool r'))] []) (r' : Int) (h0' : slices_IndexFunc_impl_Name_impl_Name s f = some r') : Fn X 210 [.one (.list false 3 (List.map (r_T_impl_Name false) s)), .one (.fn f_f [f_c0])] [.one (.sc (.int .i64 r'))] [] := by
  have H' := And.intro t3 (And.intro t83 (And.intro t88 (R_T_impl_Name)))
  unfold slices_IndexFunc_impl_Name_impl_Name at h0'
  refine Fn.start (fn := f210) (N := 19) (res := [.tmp 4]) rfl rfl rfl rfl rfl (by simp) ?_
  refine enterG H' ?_
  refine wpV_seq1 ?_
  refine wpV_region ?_
  refine ops H' ?_
  refine opsN ?_
  refine wpV_seqJ (fun e' => slices_IndexFunc_impl_Name_impl_Name_j1 = some r' ∧ e' = { N := 19, np := 2, nx := 2, sl := [], ob := [] }) ?_ ?_
  · refine wpV_seq1 ?_
    refine wpV_region ?_
    refine ops H' ?_
    refine opsN ?_
    obtain ⟨p, hl', h0'⟩ := Option.bind_eq_some_iff.1 h0'
    refine wpV_block ?_
    refine wpV_loopM (fun x8 e' => e' = { N := 19, np := 2, nx := 2, sl := [(0, .pl (.one (.v (.list false 3 (List.map (r_T_impl_Name false) s))))), (1, .pl (.one (.v (.fn f_f [f_c0])))), (7, .pl (.one (.v (.sc (.int .i64 (s.length : Int)))))), (8, .pl (.one (.v (.sc (.int .i64 x8)))))], ob := [] }) hl' (shd [0, 1, 7, 8] [] 2 rfl) ?_
    rintro x8 y1' e' h1' rfl
    replace h1' : slices_IndexFunc_impl_Name_impl_Name_l1 s f x8 = some y1' := h1'
    unfold slices_IndexFunc_impl_Name_impl_Name_l1 at h1'
    refine wpV_seq1 ?_
    refine wpV_region ?_
    refine ops H' ?_
    refine opsN ?_
    refine wpV_seq1 ?_
    refine wpV_split (fun hc' => ?_) (fun hc' => ?_)
    · replace h1' := (ifT hc').symm.trans h1'
      refine skipN ?_
      refine wpV_seq1 ?_
      refine wpV_block ?_
      refine wpV_seq1 ?_
      refine wpV_region ?_
      refine ops H' ?_
      refine opsN ?_
      refine wpV_seq1 ?_
      refine wpV_region ?_
      obtain ⟨x, hv', h1'⟩ := Option.bind_eq_some_iff.1 h1'
      have H' := And.intro (geti_f hv') H'
      refine ops H' ?_
      obtain ⟨x16, hy', h1'⟩ := Option.bind_eq_some_iff.1 h1'
      refine callG H' (fun _ => []) (f_h _ _ hy') ?_
      refine opsN ?_
      refine wpV_split (fun hc' => ?_) (fun hc' => ?_)
      · replace h1' := (ifT hc').symm.trans h1'
        refine wpV_seq1 ?_
        refine wpV_region ?_
        refine ops H' ?_
        refine opsN ?_
        refine retN ?_
        obtain rfl := Option.some.inj h1'
        refine ⟨_, rfl, fun hr' => ?_⟩
        subst hr'
        obtain rfl := Option.some.inj h0'
        exact outG H' rfl rfl
      · replace h1' := (ifF hc').symm.trans h1'
        refine skipN ?_
        refine wpV_region ?_
        refine ops H' ?_
        refine opsN ?_
        obtain rfl := Option.some.inj h1'
        exact shd [0, 1, 7, 8] [] 2 ⟨_, rfl, rfl⟩
    · replace h1' := (ifF hc').symm.trans h1'
      refine exitN ?_
      obtain rfl := Option.some.inj h1'
      refine ⟨_, rfl, fun hr' => ?_⟩
      subst hr'
      exact shd [] [] 2 ⟨h0', rfl⟩
  · rintro e' ⟨h0', rfl⟩
    unfold slices_IndexFunc_impl_Name_impl_Name_j1 at h0'
    refine wpV_seq1 ?_
    refine wpV_region ?_
    refine ops H' ?_
    refine opsN ?_
    refine retN ?_
    obtain rfl := Option.some.inj h0'
    exact outG H' rfl rfl
theorem W_impl_idAt (list_ : List T_impl_Name) (id : Int) (r' : Int) (h0' : impl_idAt list_ id = some r') : Fn X 200 [.one (.list false 3 (List.map (r_T_impl_Name false) list_)), .one (.sc (.int .i64 id))] [.one (.sc (.int .i64 r'))] [] := by
  have H' := R_T_impl_Name
  unfold impl_idAt at h0'
  refine Fn.start (fn := f200) (N := 8) (res := [.tmp 4]) rfl rfl rfl rfl rfl (by simp) ?_
  refine enterG H' ?_
  refine wpV_seq1 ?_
  refine wpV_region ?_
  refine ops H' ?_
  refine opsN ?_
  refine wpV_seq1 ?_
  refine wpV_region ?_
  refine ops H' ?_
  refine opsV_frz H' 2 ?_
  refine opsV_mkF H' ?_
  obtain ⟨x7, hy', h0'⟩ := Option.bind_eq_some_iff.1 h0'
  refine callG H' (fun _ => []) (W_slices_IndexFunc_impl_Name_impl_Name__1 _ (fun z0' => impl_idAt_c1 z0' id) _ _ (fun z0' r' h' => W_impl_idAt_c1 z0' _ r' h') _ hy') ?_
  refine ops H' ?_
  refine opsN ?_
  refine retN ?_
  obtain rfl := Option.some.inj h0'
  exact outG H' rfl rfl
theorem W_impl_NamesOk (list_ : List T_impl_Name) (r' : Bool) (h0' : impl_NamesOk list_ = some r') : Fn X 181 [.one (.list false 3 (List.map (r_T_impl_Name false) list_))] [.one (.sc (.bool r'))] [] := by
  have H' := And.intro t3 (And.intro t9 (And.intro t83 (And.intro t88 (R_T_impl_Name))))
  unfold impl_NamesOk at h0'
  refine Fn.start (fn := f181) (N := 53) (res := [.tmp 2]) rfl rfl rfl rfl rfl (by simp) ?_
  refine enterG H' ?_
  refine wpV_seq1 ?_
  refine wpV_region ?_
  refine ops H' ?_
  refine opsN ?_
  refine wpV_seq1 ?_
  refine wpV_seq1 ?_
  refine wpV_region ?_
  refine ops H' ?_
  refine opsN ?_
  refine wpV_split (fun hc' => ?_) (fun hc' => ?_)
  · replace h0' := (ifT hc').symm.trans h0'
    refine wpV_seq1 ?_
    refine wpV_region ?_
    refine ops H' ?_
    refine opsN ?_
    refine retN ?_
    obtain rfl := Option.some.inj h0'
    exact outG H' rfl rfl
  · replace h0' := (ifF hc').symm.trans h0'
    refine skipN ?_
    refine wpV_seqJ (fun e' => impl_NamesOk_j1 = some r' ∧ e' = { N := 53, np := 1, nx := 1, sl := [], ob := [] }) ?_ ?_
    · refine wpV_seq1 ?_
      refine wpV_region ?_
      refine ops H' ?_
      refine opsN ?_
      obtain ⟨p, hl', h0'⟩ := Option.bind_eq_some_iff.1 h0'
      refine wpV_block ?_
      refine wpV_loopM (fun x10 e' => e' = { N := 53, np := 1, nx := 1, sl := [(0, .pl (.one (.v (.list false 3 (List.map (r_T_impl_Name false) list_))))), (8, .pl (.one (.v (.list false 3 (List.map (r_T_impl_Name false) list_))))), (9, .pl (.one (.v (.sc (.int .i64 (list_.length : Int)))))), (10, .pl (.one (.v (.sc (.int .i64 x10)))))], ob := [] }) hl' (shd [0, 8, 9, 10] [] 1 rfl) ?_
      rintro x10 y1' e' h1' rfl
      replace h1' : impl_NamesOk_l1 list_ x10 = some y1' := h1'
      unfold impl_NamesOk_l1 at h1'
      refine wpV_seq1 ?_
      refine wpV_region ?_
      refine ops H' ?_
      refine opsN ?_
      refine wpV_seq1 ?_
      refine wpV_split (fun hc' => ?_) (fun hc' => ?_)
      · replace h1' := (ifT hc').symm.trans h1'
        refine skipN ?_
        refine wpV_seq1 ?_
        refine wpV_block ?_
        refine wpV_seq1 ?_
        refine wpV_region ?_
        obtain ⟨x, hv', h1'⟩ := Option.bind_eq_some_iff.1 h1'
        have H' := And.intro (geti_f hv') H'
        refine ops H' ?_
        refine opsN ?_
        refine wpV_seq1 ?_
        refine wpV_seq1 ?_
        refine wpV_region ?_
        refine ops H' ?_
        obtain ⟨x17, hy', h1'⟩ := Option.bind_eq_some_iff.1 h1'
        refine callG H' (fun _ => []) (W_impl_PathOk _ _ hy') ?_
        refine ops H' ?_
        obtain ⟨b, gh1', h1'⟩ := Option.bind_eq_some_iff.1 h1'
        refine opsV_cut 5 (fun e' => e' = { N := 53, np := 1, nx := 2, sl := [(0, .pl (.one (.v (.list false 3 (List.map (r_T_impl_Name false) list_))))), (3, .pl (.one (.v (.sc (.int .i64 x10))))), (4, .pl (.one (.ref 1 []))), (8, .pl (.one (.v (.list false 3 (List.map (r_T_impl_Name false) list_))))), (9, .pl (.one (.v (.sc (.int .i64 (list_.length : Int)))))), (10, .pl (.one (.v (.sc (.int .i64 x10))))), (24, .pl (.one (.v (.sc (.bool b)))))], ob := [(1, .box true [.sc (.string x.Path), .sc (.int .i64 x.Id), .sc (.int .i64 x.Version)])] }) ?_ ?_
        · simp only [List.take_succ_cons, List.take_zero]
          refine opsV_sp (fun hc' => ?_) (fun hc' => ?_)
          · replace gh1' := (ifF hc').symm.trans gh1'
            refine ops H' ?_
            obtain ⟨x22, hy', gh1'⟩ := Option.bind_eq_some_iff.1 gh1'
            refine callG H' (fun _ => []) (W_impl_inRange _ _ _ _ hy') ?_
            refine ops H' ?_
            obtain rfl := Option.some.inj gh1'
            refine opsV_nil ?_
            exact ⟨rfl, shd [0, 3, 4, 8, 9, 10, 24] [(1, 1)] 2 rfl⟩
          · replace gh1' := (ifT hc').symm.trans gh1'
            refine ops H' ?_
            obtain rfl := Option.some.inj gh1'
            refine opsV_nil ?_
            exact ⟨rfl, shd [0, 3, 4, 8, 9, 10, 24] [(1, 1)] 2 rfl⟩
        · rintro e' rfl
          simp only [List.drop_succ_cons, List.drop_zero]
          refine ops H' ?_
          obtain ⟨b_1, gh1', h1'⟩ := Option.bind_eq_some_iff.1 h1'
          refine opsV_cut 5 (fun e' => e' = { N := 53, np := 1, nx := 2, sl := [(0, .pl (.one (.v (.list false 3 (List.map (r_T_impl_Name false) list_))))), (3, .pl (.one (.v (.sc (.int .i64 x10))))), (4, .pl (.one (.ref 1 []))), (8, .pl (.one (.v (.list false 3 (List.map (r_T_impl_Name false) list_))))), (9, .pl (.one (.v (.sc (.int .i64 (list_.length : Int)))))), (10, .pl (.one (.v (.sc (.int .i64 x10))))), (30, .pl (.one (.v (.sc (.bool b_1)))))], ob := [(1, .box true [.sc (.string x.Path), .sc (.int .i64 x.Id), .sc (.int .i64 x.Version)])] }) ?_ ?_
          · simp only [List.take_succ_cons, List.take_zero]
            refine opsV_sp (fun hc' => ?_) (fun hc' => ?_)
            · replace gh1' := (ifF hc').symm.trans gh1'
              refine ops H' ?_
              obtain ⟨x28, hy', gh1'⟩ := Option.bind_eq_some_iff.1 gh1'
              refine callG H' (fun _ => []) (W_impl_inRange _ _ _ _ hy') ?_
              refine ops H' ?_
              obtain rfl := Option.some.inj gh1'
              refine opsV_nil ?_
              exact ⟨rfl, shd [0, 3, 4, 8, 9, 10, 30] [(1, 1)] 2 rfl⟩
            · replace gh1' := (ifT hc').symm.trans gh1'
              refine ops H' ?_
              obtain rfl := Option.some.inj gh1'
              refine opsV_nil ?_
              exact ⟨rfl, shd [0, 3, 4, 8, 9, 10, 30] [(1, 1)] 2 rfl⟩
          · rintro e' rfl
            simp only [List.drop_succ_cons, List.drop_zero]
            refine opsN ?_
            refine wpV_split (fun hc' => ?_) (fun hc' => ?_)
            · replace h1' := (ifT hc').symm.trans h1'
              refine wpV_seq1 ?_
              refine wpV_region ?_
              refine ops H' ?_
              refine opsN ?_
              refine retN ?_
              obtain rfl := Option.some.inj h1'
              refine ⟨_, rfl, fun hr' => ?_⟩
              subst hr'
              obtain rfl := Option.some.inj h0'
              exact outG H' rfl rfl
            · replace h1' := (ifF hc').symm.trans h1'
              refine skipN ?_
              refine wpV_seq1 ?_
              refine regQ ?_
              refine ops H' ?_
              obtain ⟨b_2, gh1', h1'⟩ := Option.bind_eq_some_iff.1 h1'
              refine quV_cut 10 (fun e' => e' = { N := 53, np := 1, nx := 2, sl := [(0, .pl (.one (.v (.list false 3 (List.map (r_T_impl_Name false) list_))))), (3, .pl (.one (.v (.sc (.int .i64 x10))))), (4, .pl (.one (.ref 1 []))), (8, .pl (.one (.v (.list false 3 (List.map (r_T_impl_Name false) list_))))), (9, .pl (.one (.v (.sc (.int .i64 (list_.length : Int)))))), (10, .pl (.one (.v (.sc (.int .i64 x10))))), (43, .pl (.one (.v (.sc (.bool b_2)))))], ob := [(1, .box true [.sc (.string x.Path), .sc (.int .i64 x.Id), .sc (.int .i64 x.Version)])] }) ?_ ?_
              · simp only [List.take_succ_cons, List.take_zero]
                refine quV_sp (fun hc' => ?_) (fun hc' => ?_)
                · replace gh1' := (ifT hc').symm.trans gh1'
                  obtain ⟨x_1, hv', gh1'⟩ := Option.bind_eq_some_iff.1 gh1'
                  have H' := And.intro (geti_f hv') H'
                  refine ops H' ?_
                  obtain rfl := Option.some.inj gh1'
                  refine quV_nil ?_
                  exact ⟨rfl, shd [0, 3, 4, 8, 9, 10, 43] [(1, 1)] 2 rfl⟩
                · replace gh1' := (ifF hc').symm.trans gh1'
                  refine ops H' ?_
                  obtain rfl := Option.some.inj gh1'
                  refine quV_nil ?_
                  exact ⟨rfl, shd [0, 3, 4, 8, 9, 10, 43] [(1, 1)] 2 rfl⟩
              · rintro e' rfl
                simp only [List.drop_succ_cons, List.drop_zero]
                refine ops H' ?_
                obtain ⟨b_3, gh1', h1'⟩ := Option.bind_eq_some_iff.1 h1'
                refine quV_cut 7 (fun e' => e' = { N := 53, np := 1, nx := 1, sl := [(0, .pl (.one (.v (.list false 3 (List.map (r_T_impl_Name false) list_))))), (8, .pl (.one (.v (.list false 3 (List.map (r_T_impl_Name false) list_))))), (9, .pl (.one (.v (.sc (.int .i64 (list_.length : Int)))))), (10, .pl (.one (.v (.sc (.int .i64 x10))))), (51, .pl (.one (.v (.sc (.bool b_3)))))], ob := [] }) ?_ ?_
                · simp only [List.take_succ_cons, List.take_zero]
                  refine quV_sp (fun hc' => ?_) (fun hc' => ?_)
                  · replace gh1' := (ifF hc').symm.trans gh1'
                    refine ops H' ?_
                    obtain ⟨x48, hy', gh1'⟩ := Option.bind_eq_some_iff.1 gh1'
                    refine callGQ H' (W_impl_idAt _ _ _ hy') ?_
                    refine ops H' ?_
                    obtain rfl := Option.some.inj gh1'
                    refine quV_nil ?_
                    exact ⟨rfl, shd [0, 8, 9, 10, 51] [] 1 rfl⟩
                  · replace gh1' := (ifT hc').symm.trans gh1'
                    refine ops H' ?_
                    obtain rfl := Option.some.inj gh1'
                    refine quV_nil ?_
                    exact ⟨rfl, shd [0, 8, 9, 10, 51] [] 1 rfl⟩
                · rintro e' rfl
                  simp only [List.drop_succ_cons, List.drop_zero]
                  refine quN ?_
                  refine wpV_split (fun hc' => ?_) (fun hc' => ?_)
                  · replace h1' := (ifT hc').symm.trans h1'
                    refine wpV_seq1 ?_
                    refine wpV_region ?_
                    refine ops H' ?_
                    refine opsN ?_
                    refine retN ?_
                    obtain rfl := Option.some.inj h1'
                    refine ⟨_, rfl, fun hr' => ?_⟩
                    subst hr'
                    obtain rfl := Option.some.inj h0'
                    exact outG H' rfl rfl
                  · replace h1' := (ifF hc').symm.trans h1'
                    refine skipN ?_
                    refine wpV_region ?_
                    refine ops H' ?_
                    refine opsN ?_
                    obtain rfl := Option.some.inj h1'
                    exact shd [0, 8, 9, 10] [] 1 ⟨_, rfl, rfl⟩
      · replace h1' := (ifF hc').symm.trans h1'
        refine exitN ?_
        obtain rfl := Option.some.inj h1'
        refine ⟨_, rfl, fun hr' => ?_⟩
        subst hr'
        exact shd [] [] 1 ⟨h0', rfl⟩
    · rintro e' ⟨h0', rfl⟩
      unfold impl_NamesOk_j1 at h0'
      refine wpV_seq1 ?_
      refine wpV_region ?_
      refine ops H' ?_
      refine opsN ?_
      refine retN ?_
      obtain rfl := Option.some.inj h0'
      exact outG H' rfl rfl
theorem W_impl_CommitsOk (list_ : List T_impl_Commit) (versions : List Int) (r' : Bool) (h0' : impl_CommitsOk list_ versions = some r') : Fn X 117 [.one (.list false 3 (List.map (r_T_impl_Commit false) list_)), .one (.list false 1 (List.map (rK .i64) versions))] [.one (.sc (.bool r'))] [] := by
  have H' := And.intro t3 (And.intro t9 (And.intro t22 (And.intro t44 (And.intro t83 (And.intro t85 (And.intro t88 (And.intro R_Li64 (And.intro R_T_impl_Commit (And.intro R_T_impl_Name (R_i64))))))))))
  unfold impl_CommitsOk at h0'
  refine Fn.start (fn := f117) (N := 75) (res := [.tmp 4]) rfl rfl rfl rfl rfl (by simp) ?_
  refine enterG H' ?_
  refine wpV_seq1 ?_
  refine wpV_region ?_
  refine ops H' ?_
  refine opsN ?_
  refine wpV_seq1 ?_
  refine wpV_seq1 ?_
  refine wpV_region ?_
  refine ops H' ?_
  obtain ⟨b, gh0', h0'⟩ := Option.bind_eq_some_iff.1 h0'
  refine opsV_cut 5 (fun e' => e' = { N := 75, np := 2, nx := 2, sl := [(0, .pl (.one (.v (.list false 3 (List.map (r_T_impl_Commit false) list_))))), (1, .pl (.one (.v (.list false 1 (List.map (rK .i64) versions))))), (19, .pl (.one (.v (.sc (.bool b)))))], ob := [] }) ?_ ?_
  · simp only [List.take_succ_cons, List.take_zero]
    refine opsV_sp (fun hc' => ?_) (fun hc' => ?_)
    · replace gh0' := (ifF hc').symm.trans gh0'
      refine ops H' ?_
      obtain ⟨x16, hy', gh0'⟩ := Option.bind_eq_some_iff.1 gh0'
      refine callGD H' (fun _ => []) (W_impl_graphOf _ _ hy') ?_
      refine ops H' ?_
      obtain ⟨x17, hy', gh0'⟩ := Option.bind_eq_some_iff.1 gh0'
      refine callG H' (fun _ => []) (W_impl_GraphOk _ _ hy') ?_
      refine ops H' ?_
      obtain rfl := Option.some.inj gh0'
      refine opsV_nil ?_
      exact ⟨rfl, shd [0, 1, 19] [] 2 rfl⟩
    · replace gh0' := (ifT hc').symm.trans gh0'
      refine ops H' ?_
      obtain rfl := Option.some.inj gh0'
      refine opsV_nil ?_
      exact ⟨rfl, shd [0, 1, 19] [] 2 rfl⟩
  · rintro e' rfl
    simp only [List.drop_succ_cons, List.drop_zero]
    refine ops H' ?_
    obtain ⟨b_1, gh0', h0'⟩ := Option.bind_eq_some_iff.1 h0'
    refine opsV_cut 4 (fun e' => e' = { N := 75, np := 2, nx := 2, sl := [(0, .pl (.one (.v (.list false 3 (List.map (r_T_impl_Commit false) list_))))), (1, .pl (.one (.v (.list false 1 (List.map (rK .i64) versions))))), (24, .pl (.one (.v (.sc (.bool b_1)))))], ob := [] }) ?_ ?_
    · simp only [List.take_succ_cons, List.take_zero]
      refine opsV_sp (fun hc' => ?_) (fun hc' => ?_)
      · replace gh0' := (ifF hc').symm.trans gh0'
        refine ops H' ?_
        obtain rfl := Option.some.inj gh0'
        refine opsV_nil ?_
        exact ⟨rfl, shd [0, 1, 24] [] 2 rfl⟩
      · replace gh0' := (ifT hc').symm.trans gh0'
        refine ops H' ?_
        obtain rfl := Option.some.inj gh0'
        refine opsV_nil ?_
        exact ⟨rfl, shd [0, 1, 24] [] 2 rfl⟩
    · rintro e' rfl
      simp only [List.drop_succ_cons, List.drop_zero]
      refine opsN ?_
      refine wpV_split (fun hc' => ?_) (fun hc' => ?_)
      · replace h0' := (ifT hc').symm.trans h0'
        refine wpV_seq1 ?_
        refine wpV_region ?_
        refine ops H' ?_
        refine opsN ?_
        refine retN ?_
        obtain rfl := Option.some.inj h0'
        exact outG H' rfl rfl
      · replace h0' := (ifF hc').symm.trans h0'
        refine skipN ?_
        refine wpV_seqJ (fun e' => impl_CommitsOk_j1 list_ versions = some r' ∧ e' = { N := 75, np := 2, nx := 2, sl := [(0, .pl (.one (.v (.list false 3 (List.map (r_T_impl_Commit false) list_))))), (1, .pl (.one (.v (.list false 1 (List.map (rK .i64) versions)))))], ob := [] }) ?_ ?_
        · refine wpV_seq1 ?_
          refine wpV_region ?_
          refine ops H' ?_
          refine opsN ?_
          obtain ⟨p_2, hl', h0'⟩ := Option.bind_eq_some_iff.1 h0'
          refine wpV_block ?_
          refine wpV_loopM (fun x27 e' => e' = { N := 75, np := 2, nx := 2, sl := [(0, .pl (.one (.v (.list false 3 (List.map (r_T_impl_Commit false) list_))))), (1, .pl (.one (.v (.list false 1 (List.map (rK .i64) versions))))), (25, .pl (.one (.v (.list false 1 (List.map (rK .i64) versions))))), (26, .pl (.one (.v (.sc (.int .i64 (versions.length : Int)))))), (27, .pl (.one (.v (.sc (.int .i64 x27)))))], ob := [] }) hl' (shd [0, 1, 25, 26, 27] [] 2 rfl) ?_
          rintro x27 y1' e' h1' rfl
          replace h1' : impl_CommitsOk_l3 versions x27 = some y1' := h1'
          unfold impl_CommitsOk_l3 at h1'
          refine wpV_seq1 ?_
          refine wpV_region ?_
          refine ops H' ?_
          refine opsN ?_
          refine wpV_seq1 ?_
          refine wpV_split (fun hc' => ?_) (fun hc' => ?_)
          · replace h1' := (ifT hc').symm.trans h1'
            refine skipN ?_
            refine wpV_seq1 ?_
            refine wpV_block ?_
            refine wpV_seq1 ?_
            refine wpV_region ?_
            obtain ⟨x_3, hv', h1'⟩ := Option.bind_eq_some_iff.1 h1'
            have H' := And.intro (geti_f hv') H'
            refine ops H' ?_
            refine opsN ?_
            refine wpV_seq1 ?_
            refine wpV_region ?_
            refine ops H' ?_
            obtain ⟨x32, hy', h1'⟩ := Option.bind_eq_some_iff.1 h1'
            refine callG H' (fun _ => []) (W_impl_inRange _ _ _ _ hy') ?_
            refine ops H' ?_
            refine opsN ?_
            refine wpV_split (fun hc' => ?_) (fun hc' => ?_)
            · replace h1' := (ifT hc').symm.trans h1'
              refine wpV_seq1 ?_
              refine wpV_region ?_
              refine ops H' ?_
              refine opsN ?_
              refine retN ?_
              obtain rfl := Option.some.inj h1'
              refine ⟨_, rfl, fun hr' => ?_⟩
              subst hr'
              obtain rfl := Option.some.inj h0'
              exact outG H' rfl rfl
            · replace h1' := (ifF hc').symm.trans h1'
              refine skipN ?_
              refine wpV_region ?_
              refine ops H' ?_
              refine opsN ?_
              obtain rfl := Option.some.inj h1'
              exact shd [0, 1, 25, 26, 27] [] 2 ⟨_, rfl, rfl⟩
          · replace h1' := (ifF hc').symm.trans h1'
            refine exitN ?_
            obtain rfl := Option.some.inj h1'
            refine ⟨_, rfl, fun hr' => ?_⟩
            subst hr'
            exact shd [0, 1] [] 2 ⟨h0', rfl⟩
        · rintro e' ⟨h0', rfl⟩
          unfold impl_CommitsOk_j1 at h0'
          refine wpV_seqJ (fun e' => impl_CommitsOk_j2 = some r' ∧ e' = { N := 75, np := 2, nx := 2, sl := [], ob := [] }) ?_ ?_
          · refine wpV_seq1 ?_
            refine wpV_region ?_
            refine ops H' ?_
            refine opsN ?_
            obtain ⟨p, hl', h0'⟩ := Option.bind_eq_some_iff.1 h0'
            refine wpV_block ?_
            refine wpV_loopM (fun x37 e' => e' = { N := 75, np := 2, nx := 2, sl := [(1, .pl (.one (.v (.list false 1 (List.map (rK .i64) versions))))), (35, .pl (.one (.v (.list false 3 (List.map (r_T_impl_Commit false) list_))))), (36, .pl (.one (.v (.sc (.int .i64 (list_.length : Int)))))), (37, .pl (.one (.v (.sc (.int .i64 x37)))))], ob := [] }) hl' (shd [1, 35, 36, 37] [] 2 rfl) ?_
            rintro x37 y1' e' h1' rfl
            replace h1' : impl_CommitsOk_l1 list_ versions x37 = some y1' := h1'
            unfold impl_CommitsOk_l1 at h1'
            refine wpV_seq1 ?_
            refine wpV_region ?_
            refine ops H' ?_
            refine opsN ?_
            refine wpV_seq1 ?_
            refine wpV_split (fun hc' => ?_) (fun hc' => ?_)
            · replace h1' := (ifT hc').symm.trans h1'
              refine skipN ?_
              refine wpV_seqJ (fun e' => impl_CommitsOk_j3 x37 = some y1' ∧ e' = { N := 75, np := 2, nx := 2, sl := [(1, .pl (.one (.v (.list false 1 (List.map (rK .i64) versions))))), (35, .pl (.one (.v (.list false 3 (List.map (r_T_impl_Commit false) list_))))), (36, .pl (.one (.v (.sc (.int .i64 (list_.length : Int)))))), (37, .pl (.one (.v (.sc (.int .i64 x37)))))], ob := [] }) ?_ ?_
              · refine wpV_block ?_
                refine wpV_seq1 ?_
                refine wpV_region ?_
                obtain ⟨x, hv', h1'⟩ := Option.bind_eq_some_iff.1 h1'
                have H' := And.intro (geti_f hv') H'
                refine ops H' ?_
                refine opsN ?_
                refine wpV_seq1 ?_
                refine wpV_seq1 ?_
                refine wpV_region ?_
                refine ops H' ?_
                obtain ⟨x43, hy', h1'⟩ := Option.bind_eq_some_iff.1 h1'
                refine callG H' (fun _ => []) (W_impl_NoteOk _ _ hy') ?_
                refine ops H' ?_
                obtain ⟨b_2, gh1', h1'⟩ := Option.bind_eq_some_iff.1 h1'
                refine opsV_cut 5 (fun e' => e' = { N := 75, np := 2, nx := 3, sl := [(1, .pl (.one (.v (.list false 1 (List.map (rK .i64) versions))))), (8, .pl (.one (.ref 2 []))), (35, .pl (.one (.v (.list false 3 (List.map (r_T_impl_Commit false) list_))))), (36, .pl (.one (.v (.sc (.int .i64 (list_.length : Int)))))), (37, .pl (.one (.v (.sc (.int .i64 x37))))), (50, .pl (.one (.v (.sc (.bool b_2)))))], ob := [(2, .box true [.list false 1 (List.map (rK .i64) x.Parents), .sc (.string x.Note), .list false 3 (List.map (r_T_impl_Name false) x.Names)])] }) ?_ ?_
                · simp only [List.take_succ_cons, List.take_zero]
                  refine opsV_sp (fun hc' => ?_) (fun hc' => ?_)
                  · replace gh1' := (ifF hc').symm.trans gh1'
                    refine ops H' ?_
                    obtain ⟨x48, hy', gh1'⟩ := Option.bind_eq_some_iff.1 gh1'
                    refine callG H' (fun _ => []) (W_impl_NamesOk _ _ hy') ?_
                    refine ops H' ?_
                    obtain rfl := Option.some.inj gh1'
                    refine opsV_nil ?_
                    exact ⟨rfl, shd [1, 8, 35, 36, 37, 50] [(2, 2)] 3 rfl⟩
                  · replace gh1' := (ifT hc').symm.trans gh1'
                    refine ops H' ?_
                    obtain rfl := Option.some.inj gh1'
                    refine opsV_nil ?_
                    exact ⟨rfl, shd [1, 8, 35, 36, 37, 50] [(2, 2)] 3 rfl⟩
                · rintro e' rfl
                  simp only [List.drop_succ_cons, List.drop_zero]
                  refine opsN ?_
                  refine wpV_split (fun hc' => ?_) (fun hc' => ?_)
                  · replace h1' := (ifT hc').symm.trans h1'
                    refine wpV_seq1 ?_
                    refine wpV_region ?_
                    refine ops H' ?_
                    refine opsN ?_
                    refine retN ?_
                    obtain rfl := Option.some.inj h1'
                    refine ⟨_, rfl, fun hr' => ?_⟩
                    subst hr'
                    obtain rfl := Option.some.inj h0'
                    exact outG H' rfl rfl
                  · replace h1' := (ifF hc').symm.trans h1'
                    refine skipN ?_
                    refine wpV_seq1 ?_
                    refine wpV_region ?_
                    refine ops H' ?_
                    refine opsN ?_
                    obtain ⟨p_1, hl', h1'⟩ := Option.bind_eq_some_iff.1 h1'
                    refine wpV_block ?_
                    refine wpV_loopM (fun x54 e' => e' = { N := 75, np := 2, nx := 2, sl := [(1, .pl (.one (.v (.list false 1 (List.map (rK .i64) versions))))), (35, .pl (.one (.v (.list false 3 (List.map (r_T_impl_Commit false) list_))))), (36, .pl (.one (.v (.sc (.int .i64 (list_.length : Int)))))), (37, .pl (.one (.v (.sc (.int .i64 x37))))), (52, .pl (.one (.v (.list false 3 (List.map (r_T_impl_Name false) x.Names))))), (53, .pl (.one (.v (.sc (.int .i64 (x.Names.length : Int)))))), (54, .pl (.one (.v (.sc (.int .i64 x54)))))], ob := [] }) hl' (shd [1, 35, 36, 37, 52, 53, 54] [] 2 rfl) ?_
                    rintro x54 y2' e' h2' rfl
                    replace h2' : impl_CommitsOk_l2 versions x x54 = some y2' := h2'
                    unfold impl_CommitsOk_l2 at h2'
                    refine wpV_seq1 ?_
                    refine wpV_region ?_
                    refine ops H' ?_
                    refine opsN ?_
                    refine wpV_seq1 ?_
                    refine wpV_split (fun hc' => ?_) (fun hc' => ?_)
                    · replace h2' := (ifT hc').symm.trans h2'
                      refine skipN ?_
                      refine wpV_seq1 ?_
                      refine wpV_block ?_
                      refine wpV_seq1 ?_
                      refine wpV_region ?_
                      obtain ⟨x_1, hv', h2'⟩ := Option.bind_eq_some_iff.1 h2'
                      have H' := And.intro (geti_f hv') H'
                      refine ops H' ?_
                      refine opsN ?_
                      refine wpV_seq1 ?_
                      refine regQ ?_
                      refine ops H' ?_
                      obtain ⟨b_3, gh2', h2'⟩ := Option.bind_eq_some_iff.1 h2'
                      refine quV_cut 9 (fun e' => e' = { N := 75, np := 2, nx := 2, sl := [(1, .pl (.one (.v (.list false 1 (List.map (rK .i64) versions))))), (35, .pl (.one (.v (.list false 3 (List.map (r_T_impl_Commit false) list_))))), (36, .pl (.one (.v (.sc (.int .i64 (list_.length : Int)))))), (37, .pl (.one (.v (.sc (.int .i64 x37))))), (52, .pl (.one (.v (.list false 3 (List.map (r_T_impl_Name false) x.Names))))), (53, .pl (.one (.v (.sc (.int .i64 (x.Names.length : Int)))))), (54, .pl (.one (.v (.sc (.int .i64 x54))))), (72, .pl (.one (.v (.sc (.bool b_3)))))], ob := [] }) ?_ ?_
                      · simp only [List.take_succ_cons, List.take_zero]
                        refine quV_sp (fun hc' => ?_) (fun hc' => ?_)
                        · replace gh2' := (ifF hc').symm.trans gh2'
                          obtain ⟨x_2, hv', gh2'⟩ := Option.bind_eq_some_iff.1 gh2'
                          have H' := And.intro (geti_f hv') H'
                          refine ops H' ?_
                          obtain rfl := Option.some.inj gh2'
                          refine quV_nil ?_
                          exact ⟨rfl, shd [1, 35, 36, 37, 52, 53, 54, 72] [] 2 rfl⟩
                        · replace gh2' := (ifT hc').symm.trans gh2'
                          refine ops H' ?_
                          obtain rfl := Option.some.inj gh2'
                          refine quV_nil ?_
                          exact ⟨rfl, shd [1, 35, 36, 37, 52, 53, 54, 72] [] 2 rfl⟩
                      · rintro e' rfl
                        simp only [List.drop_succ_cons, List.drop_zero]
                        refine quN ?_
                        refine wpV_split (fun hc' => ?_) (fun hc' => ?_)
                        · replace h2' := (ifT hc').symm.trans h2'
                          refine wpV_seq1 ?_
                          refine wpV_region ?_
                          refine ops H' ?_
                          refine opsN ?_
                          refine retN ?_
                          obtain rfl := Option.some.inj h2'
                          refine ⟨_, rfl, fun hr' => ?_⟩
                          subst hr'
                          obtain rfl := Option.some.inj h1'
                          refine ⟨_, rfl, fun hr' => ?_⟩
                          subst hr'
                          obtain rfl := Option.some.inj h0'
                          exact outG H' rfl rfl
                        · replace h2' := (ifF hc').symm.trans h2'
                          refine skipN ?_
                          refine wpV_region ?_
                          refine ops H' ?_
                          refine opsN ?_
                          obtain rfl := Option.some.inj h2'
                          exact shd [1, 35, 36, 37, 52, 53, 54] [] 2 ⟨_, rfl, rfl⟩
                    · replace h2' := (ifF hc').symm.trans h2'
                      refine exitN ?_
                      obtain rfl := Option.some.inj h2'
                      refine ⟨_, rfl, fun hr' => ?_⟩
                      subst hr'
                      exact shd [1, 35, 36, 37] [] 2 ⟨h1', rfl⟩
              · rintro e' ⟨h1', rfl⟩
                unfold impl_CommitsOk_j3 at h1'
                refine wpV_region ?_
                refine ops H' ?_
                refine opsN ?_
                obtain rfl := Option.some.inj h1'
                exact shd [1, 35, 36, 37] [] 2 ⟨_, rfl, rfl⟩
            · replace h1' := (ifF hc').symm.trans h1'
              refine exitN ?_
              obtain rfl := Option.some.inj h1'
              refine ⟨_, rfl, fun hr' => ?_⟩
              subst hr'
              exact shd [] [] 2 ⟨h0', rfl⟩
          · rintro e' ⟨h0', rfl⟩
            unfold impl_CommitsOk_j2 at h0'
            refine wpV_seq1 ?_
            refine wpV_region ?_
            refine ops H' ?_
            refine opsN ?_
            refine retN ?_
            obtain rfl := Option.some.inj h0'
            exact outG H' rfl rfl
theorem W_impl_unionOf (closed : List Int) (list_ : List Int) (r' : Int) (h0' : impl_unionOf closed list_ = some r') : Fn X 122 [.one (.list false 1 (List.map (rK .u64) closed)), .one (.list false 1 (List.map (rK .i64) list_))] [.one (.sc (.int .u64 r'))] [] := by
  have H' := And.intro t3 (And.intro t44 (And.intro t133 (And.intro t137 (And.intro R_i64 (R_u64)))))
  unfold impl_unionOf at h0'
  refine Fn.start (fn := f122) (N := 22) (res := [.tmp 4]) rfl rfl rfl rfl rfl (by simp) ?_
  refine enterG H' ?_
  refine wpV_seq1 ?_
  refine wpV_region ?_
  refine ops H' ?_
  refine opsN ?_
  refine wpV_seq1 ?_
  refine wpV_region ?_
  refine ops H' ?_
  refine opsN ?_
  refine wpV_seqJ (fun e' => ∃ s, impl_unionOf_j1 s = some r' ∧ e' = { N := 22, np := 2, nx := 2, sl := [(5, .pl (.one (.v (.sc (.int .u64 s)))))], ob := [] }) ?_ ?_
  · refine wpV_seq1 ?_
    refine wpV_region ?_
    refine ops H' ?_
    refine opsN ?_
    obtain ⟨p, hl', h0'⟩ := Option.bind_eq_some_iff.1 h0'
    refine wpV_block ?_
    refine wpV_loopM (fun s' e' => ∃ s_1 x10, s' = (s_1, x10) ∧ e' = { N := 22, np := 2, nx := 2, sl := [(0, .pl (.one (.v (.list false 1 (List.map (rK .u64) closed))))), (5, .pl (.one (.v (.sc (.int .u64 s_1))))), (8, .pl (.one (.v (.list false 1 (List.map (rK .i64) list_))))), (9, .pl (.one (.v (.sc (.int .i64 (list_.length : Int)))))), (10, .pl (.one (.v (.sc (.int .i64 x10)))))], ob := [] }) hl' (shd [0, 5, 8, 9, 10] [] 2 ⟨_, _, rfl, rfl⟩) ?_
    rintro s' y1' e' h1' ⟨s_1, x10, rfl, rfl⟩
    replace h1' : impl_unionOf_l1 closed list_ s_1 x10 = some y1' := h1'
    unfold impl_unionOf_l1 at h1'
    refine wpV_seq1 ?_
    refine wpV_region ?_
    refine ops H' ?_
    refine opsN ?_
    refine wpV_seq1 ?_
    refine wpV_split (fun hc' => ?_) (fun hc' => ?_)
    · replace h1' := (ifT hc').symm.trans h1'
      refine skipN ?_
      refine wpV_seq1 ?_
      refine wpV_block ?_
      refine wpV_seq1 ?_
      refine wpV_region ?_
      obtain ⟨x, hv', h1'⟩ := Option.bind_eq_some_iff.1 h1'
      have H' := And.intro (geti_f hv') H'
      refine ops H' ?_
      refine opsN ?_
      refine wpV_region ?_
      obtain ⟨x_1, hv', h1'⟩ := Option.bind_eq_some_iff.1 h1'
      have H' := And.intro (geti_f hv') H'
      refine ops H' ?_
      refine opsN ?_
      refine wpV_region ?_
      refine ops H' ?_
      refine opsN ?_
      obtain rfl := Option.some.inj h1'
      exact shd [0, 5, 8, 9, 10] [] 2 ⟨_, rfl, _, _, rfl, rfl⟩
    · replace h1' := (ifF hc').symm.trans h1'
      refine exitN ?_
      obtain rfl := Option.some.inj h1'
      refine ⟨_, rfl, fun hr' => ?_⟩
      subst hr'
      exact shd [5] [] 2 ⟨_, h0', rfl⟩
  · rintro e' ⟨s, h0', rfl⟩
    unfold impl_unionOf_j1 at h0'
    refine wpV_seq1 ?_
    refine wpV_region ?_
    refine ops H' ?_
    refine opsN ?_
    refine retN ?_
    obtain rfl := Option.some.inj h0'
    exact outG H' rfl rfl
end Go.TV.KFnExactLogOf
