/- Walks. -/
import Derived.Test.YthfhiepgdeghpaaKFnExactLogOfE
import Derived.Test.YthfhiepgdeghpaaKFnExactLogOfW0
import Derived.Test.YthfhiepgdeghpaaKFnExactLogOfW1
set_option linter.unusedVariables false
set_option linter.unusedSimpArgs false
set_option maxHeartbeats 8000000
set_option maxRecDepth 100000
namespace Go.TV.KFnExactLogOf
attribute [local irreducible] anyV wpV opsV Does thenV blockV RetL quV seqV
open Go.Proofs.Try Go.TV.F
theorem W_impl_closures (parents : List (List Int)) (r' : (List Int)) (h0' : impl_closures parents = some r') : Fn X 96 [.one (.list false 1 (List.map (rL false 1 (rK .i64)) parents))] [.one (.list true 1 (List.map (rK .u64) r'))] [] := by
  have H' := And.intro t3 (And.intro t38 (And.intro t44 (And.intro t133 (And.intro t137 (And.intro t199 (And.intro R_Li64 (And.intro R_i64 (R_u64))))))))
  unfold impl_closures at h0'
  refine Fn.start (fn := f96) (N := 28) (res := [.tmp 2]) rfl rfl rfl rfl rfl (by simp) ?_
  refine enterG H' ?_
  refine wpV_seq1 ?_
  refine wpV_region ?_
  refine ops H' ?_
  refine opsN ?_
  refine wpV_seq1 ?_
  refine wpV_region ?_
  obtain ⟨x8, hv', h0'⟩ := Option.bind_eq_some_iff.1 h0'
  have H' := And.intro (mkl_f hv') H'
  refine ops H' ?_
  refine opsN ?_
  refine wpV_seqJ (fun e' => ∃ out_, impl_closures_j1 out_ = some r' ∧ e' = { N := 28, np := 1, nx := 2, sl := [(3, .pl (.one (.ref 1 [])))], ob := [(1, .list true 1 (List.map (rK .u64) out_))] }) ?_ ?_
  · refine wpV_seq1 ?_
    refine wpV_region ?_
    refine ops H' ?_
    refine opsN ?_
    obtain ⟨p, hl', h0'⟩ := Option.bind_eq_some_iff.1 h0'
    refine wpV_block ?_
    refine wpV_loopM (fun s' e' => ∃ x11 out__1, s' = (x11, out__1) ∧ e' = { N := 28, np := 1, nx := 2, sl := [(3, .pl (.one (.ref 1 []))), (9, .pl (.one (.v (.list false 1 (List.map (rL false 1 (rK .i64)) parents))))), (10, .pl (.one (.v (.sc (.int .i64 (parents.length : Int)))))), (11, .pl (.one (.v (.sc (.int .i64 x11)))))], ob := [(1, .list true 1 (List.map (rK .u64) out__1))] }) hl' (shd [3, 9, 10, 11] [(2, 1)] 2 ⟨_, _, rfl, rfl⟩) ?_
    rintro s' y1' e' h1' ⟨x11, out__1, rfl, rfl⟩
    replace h1' : impl_closures_l1 parents x11 out__1 = some y1' := h1'
    unfold impl_closures_l1 at h1'
    refine wpV_seq1 ?_
    refine wpV_region ?_
    refine ops H' ?_
    refine opsN ?_
    refine wpV_seq1 ?_
    refine wpV_split (fun hc' => ?_) (fun hc' => ?_)
    · replace h1' := (ifT hc').symm.trans h1'
      refine skipN ?_
      refine wpV_seq1 ?_
      refine wpV_block ?_
      refine wpV_seq1 ?_
      refine wpV_region ?_
      obtain ⟨x, hv', h1'⟩ := Option.bind_eq_some_iff.1 h1'
      have H' := And.intro (geti_f hv') H'
      refine ops H' ?_
      refine opsN ?_
      refine wpV_region ?_
      refine ops H' ?_
      obtain ⟨x20, hy', h1'⟩ := Option.bind_eq_some_iff.1 h1'
      refine callG H' (fun _ => []) (W_impl_unionOf _ _ _ hy') ?_
      obtain ⟨u, hv', h1'⟩ := Option.bind_eq_some_iff.1 h1'
      have H' := And.intro (chkF hv') H'
      obtain ⟨x_1, hv', h1'⟩ := Option.bind_eq_some_iff.1 h1'
      have H' := And.intro (geti_f hv') H'
      refine ops H' ?_
      refine opsN ?_
      refine wpV_region ?_
      refine ops H' ?_
      refine opsN ?_
      obtain rfl := Option.some.inj h1'
      exact shd [3, 9, 10, 11] [(1, 1)] 2 ⟨_, rfl, _, _, rfl, rfl⟩
    · replace h1' := (ifF hc').symm.trans h1'
      refine exitN ?_
      obtain rfl := Option.some.inj h1'
      refine ⟨_, rfl, fun hr' => ?_⟩
      subst hr'
      exact shd [3] [(1, 1)] 2 ⟨_, h0', rfl⟩
  · rintro e' ⟨out_, h0', rfl⟩
    unfold impl_closures_j1 at h0'
    refine wpV_seq1 ?_
    refine wpV_region ?_
    refine ops H' ?_
    refine opsN ?_
    refine retN ?_
    obtain rfl := Option.some.inj h0'
    exact outG H' rfl rfl
theorem W_impl_set_has (s : Int) (v : Int) (r' : Bool) (h0' : impl_set_has s v = some r') : Fn X 168 [.one (.sc (.int .u64 s)), .one (.sc (.int .i64 v))] [.one (.sc (.bool r'))] [] := by
  have H' := And.intro t3 (And.intro t133 (t199))
  unfold impl_set_has at h0'
  refine Fn.start (fn := f168) (N := 15) (res := [.tmp 4]) rfl rfl rfl rfl rfl (by simp) ?_
  refine enterG H' ?_
  refine wpV_seq1 ?_
  refine wpV_region ?_
  refine ops H' ?_
  refine opsN ?_
  refine wpV_seq1 ?_
  refine wpV_region ?_
  refine ops H' ?_
  obtain ⟨x6, hy', h0'⟩ := Option.bind_eq_some_iff.1 h0'
  refine callG H' (fun _ => []) (W_impl_inRange _ _ _ _ hy') ?_
  refine ops H' ?_
  obtain ⟨b, gh0', h0'⟩ := Option.bind_eq_some_iff.1 h0'
  refine opsV_cut 7 (fun e' => e' = { N := 15, np := 2, nx := 2, sl := [(14, .pl (.one (.v (.sc (.bool b)))))], ob := [] }) ?_ ?_
  · simp only [List.take_succ_cons, List.take_zero]
    refine opsV_sp (fun hc' => ?_) (fun hc' => ?_)
    · replace gh0' := (ifT hc').symm.trans gh0'
      obtain ⟨u, hv', gh0'⟩ := Option.bind_eq_some_iff.1 gh0'
      have H' := And.intro (chkF hv') H'
      refine ops H' ?_
      obtain rfl := Option.some.inj gh0'
      refine opsV_nil ?_
      exact ⟨rfl, shd [14] [] 2 rfl⟩
    · replace gh0' := (ifF hc').symm.trans gh0'
      refine ops H' ?_
      obtain rfl := Option.some.inj gh0'
      refine opsV_nil ?_
      exact ⟨rfl, shd [14] [] 2 rfl⟩
  · rintro e' rfl
    simp only [List.drop_succ_cons, List.drop_zero]
    refine ops H' ?_
    refine opsN ?_
    refine retN ?_
    obtain rfl := Option.some.inj h0'
    exact outG H' rfl rfl
theorem W_impl_set_list (s : Int) (r' : (List Int)) (h0' : impl_set_list s = some r') : Fn X 97 [.one (.sc (.int .u64 s))] [.one (.list true 1 (List.map (rK .i64) r'))] [] := by
  have H' := And.intro t3 (And.intro t44 (R_i64))
  unfold impl_set_list at h0'
  refine Fn.start (fn := f97) (N := 17) (res := [.tmp 2]) rfl rfl rfl rfl rfl (by simp) ?_
  refine enterG H' ?_
  refine wpV_seq1 ?_
  refine wpV_region ?_
  refine ops H' ?_
  refine opsN ?_
  refine wpV_seq1 ?_
  refine wpV_region ?_
  refine ops H' ?_
  refine opsN ?_
  refine wpV_seqJ (fun e' => ∃ out_, impl_set_list_j1 out_ = some r' ∧ e' = { N := 17, np := 1, nx := 2, sl := [(3, .pl (.one (.ref 1 [])))], ob := [(1, .list true 1 (List.map (rK .i64) out_))] }) ?_ ?_
  · refine wpV_seq1 ?_
    refine wpV_region ?_
    refine ops H' ?_
    refine opsN ?_
    obtain ⟨p, hl', h0'⟩ := Option.bind_eq_some_iff.1 h0'
    refine wpV_block ?_
    refine wpV_loopM (fun s' e' => ∃ x5 out__1, s' = (x5, out__1) ∧ e' = { N := 17, np := 1, nx := 2, sl := [(0, .pl (.one (.v (.sc (.int .u64 s))))), (3, .pl (.one (.ref 1 []))), (5, .pl (.one (.v (.sc (.int .i64 x5)))))], ob := [(1, .list true 1 (List.map (rK .i64) out__1))] }) hl' (shd [0, 3, 5] [(2, 1)] 2 ⟨_, _, rfl, rfl⟩) ?_
    rintro s' y1' e' h1' ⟨x5, out__1, rfl, rfl⟩
    replace h1' : impl_set_list_l1 s x5 out__1 = some y1' := h1'
    unfold impl_set_list_l1 at h1'
    refine wpV_seq1 ?_
    refine wpV_region ?_
    refine ops H' ?_
    refine opsN ?_
    refine wpV_seq1 ?_
    refine wpV_split (fun hc' => ?_) (fun hc' => ?_)
    · replace h1' := (ifT hc').symm.trans h1'
      refine skipN ?_
      refine wpV_seq1 ?_
      refine wpV_block ?_
      refine wpV_seq1 ?_
      refine wpV_region ?_
      refine ops H' ?_
      refine opsN ?_
      refine wpV_seq1 ?_
      refine wpV_region ?_
      refine ops H' ?_
      obtain ⟨x10, hy', h1'⟩ := Option.bind_eq_some_iff.1 h1'
      refine callG H' (fun _ => []) (W_impl_set_has _ _ _ hy') ?_
      refine opsN ?_
      refine wpV_split (fun hc' => ?_) (fun hc' => ?_)
      · replace h1' := (ifT hc').symm.trans h1'
        refine wpV_region ?_
        obtain ⟨l, hv', h1'⟩ := Option.bind_eq_some_iff.1 h1'
        have H' := And.intro (app1_f hv') H'
        refine ops H' ?_
        refine opsN ?_
        refine wpV_region ?_
        refine ops H' ?_
        refine opsN ?_
        obtain rfl := Option.some.inj h1'
        exact shd [0, 3, 5] [(1, 1)] 2 ⟨_, rfl, _, _, rfl, rfl⟩
      · replace h1' := (ifF hc').symm.trans h1'
        refine skipN ?_
        refine wpV_region ?_
        refine ops H' ?_
        refine opsN ?_
        obtain rfl := Option.some.inj h1'
        exact shd [0, 3, 5] [(1, 1)] 2 ⟨_, rfl, _, _, rfl, rfl⟩
    · replace h1' := (ifF hc').symm.trans h1'
      refine exitN ?_
      obtain rfl := Option.some.inj h1'
      refine ⟨_, rfl, fun hr' => ?_⟩
      subst hr'
      exact shd [3] [(1, 1)] 2 ⟨_, h0', rfl⟩
  · rintro e' ⟨out_, h0', rfl⟩
    unfold impl_set_list_j1 at h0'
    refine wpV_seq1 ?_
    refine wpV_region ?_
    refine ops H' ?_
    refine opsN ?_
    refine retN ?_
    obtain rfl := Option.some.inj h0'
    exact outG H' rfl rfl
theorem W_slices_Reverse_int_int (s : List Int) (r' : (List Int)) (h0' : slices_Reverse_int_int s = some r') : Fn X 119 [.one (.list true 1 (List.map (rK .i64) s))] [] [(0, .list true 1 (List.map (rK .i64) r'))] := by
  have H' := And.intro t3 (And.intro t44 (R_i64))
  unfold slices_Reverse_int_int at h0'
  refine Fn.start (fn := f119) (N := 28) (res := []) rfl rfl rfl rfl rfl (by simp) ?_
  refine enterG H' ?_
  refine wpV_seq1 ?_
  refine wpV_region ?_
  refine ops H' ?_
  refine opsN ?_
  obtain ⟨p, hl', h0'⟩ := Option.bind_eq_some_iff.1 h0'
  refine wpV_block ?_
  refine wpV_loopM (fun s' e' => ∃ i j s_1, s' = (i, j, s_1) ∧ e' = { N := 28, np := 1, nx := 1, sl := [(0, .pl (.one (.ref 0 []))), (2, .pl (.one (.v (.sc (.int .i64 i))))), (3, .pl (.one (.v (.sc (.int .i64 j)))))], ob := [(0, .list true 1 (List.map (rK .i64) s_1))] }) hl' (shd [0, 2, 3] [(0, 0)] 1 ⟨_, _, _, rfl, rfl⟩) ?_
  rintro s' y1' e' h1' ⟨i, j, s_1, rfl, rfl⟩
  replace h1' : slices_Reverse_int_int_l1 i j s_1 = some y1' := h1'
  unfold slices_Reverse_int_int_l1 at h1'
  refine wpV_seq1 ?_
  refine wpV_seq1 ?_
  refine wpV_region ?_
  refine ops H' ?_
  refine opsN ?_
  refine wpV_split (fun hc' => ?_) (fun hc' => ?_)
  · replace h1' := (ifT hc').symm.trans h1'
    refine skipN ?_
    refine wpV_seq1 ?_
    refine wpV_block ?_
    obtain ⟨x, hv', h1'⟩ := Option.bind_eq_some_iff.1 h1'
    have H' := And.intro (geti_f hv') H'
    obtain ⟨x_1, hv', h1'⟩ := Option.bind_eq_some_iff.1 h1'
    have H' := And.intro (geti_f hv') H'
    obtain ⟨x_2, hv', h1'⟩ := Option.bind_eq_some_iff.1 h1'
    have H' := And.intro (geti_f hv') H'
    refine wpV_J (fun e' => e' = { N := 28, np := 1, nx := 1, sl := [(0, .pl (.one (.ref 0 []))), (2, .pl (.one (.v (.sc (.int .i64 i))))), (3, .pl (.one (.v (.sc (.int .i64 j)))))], ob := [(0, .list true 1 (List.map (rK .i64) ((s_1.set i.toNat x).set j.toNat x_1)))] }) ?_ ?_
    · refine regAnyF [(7, 21, .pl (.one (.v (.sc (.int .i64 x))))), (11, 25, .pl (.one (.v (.sc (.int .i64 x_1)))))] ?_
      refine (?_ : anyF X ?ops3_0_0 _ _ ?P3_0_0 _)
      have d3_0_0_0' : anyF X ?ops3_0_0 [0, 1, 2, 3, 4, 5, 6, 7, 8, 9, 10, 11, 12, 13, 14, 15] [] ?P3_0_0 { N := 28, np := 1, nx := 1, sl := [(0, .pl (.one (.ref 0 []))), (2, .pl (.one (.v (.sc (.int .i64 i))))), (3, .pl (.one (.v (.sc (.int .i64 j)))))], ob := [(0, .list true 1 (List.map (rK .i64) ((s_1.set i.toNat x).set j.toNat x_1)))] } := by
        refine fend (e2 := { N := 28, np := 1, nx := 1, sl := [(0, .pl (.one (.ref 0 []))), (2, .pl (.one (.v (.sc (.int .i64 i))))), (3, .pl (.one (.v (.sc (.int .i64 j)))))], ob := [(0, .list true 1 (List.map (rK .i64) ((s_1.set i.toNat x).set j.toNat x_1)))] }) [] [] [] [] trivial ⟨rfl, shd [0, 2, 3] [(0, 0)] 1 rfl⟩
      have d3_0_0_1' : anyF X ?ops3_0_0 [0, 1, 2, 3, 4, 5, 6, 7, 8, 9, 10, 11, 12, 13, 14] [] ?P3_0_0 { N := 28, np := 1, nx := 1, sl := [(0, .pl (.one (.ref 0 []))), (2, .pl (.one (.v (.sc (.int .i64 i))))), (3, .pl (.one (.v (.sc (.int .i64 j))))), (25, .pl (.one (.v (.sc (.int .i64 x_1))))), (27, .pl (.one (.addr 0 [] 1 j.toNat 0)))], ob := [(0, .list true 1 (List.map (rK .i64) (s_1.set i.toNat x)))] } := by
        refine fnode [] [.m 15 [] [0, 1, 2, 3, 4, 5, 6, 7, 8, 9, 10, 11, 12, 13, 14, 15] []] [] [(15, false, [], [0, 1, 2, 3, 4, 5, 6, 7, 8, 9, 10, 11, 12, 13, 14, 15])] ⟨?_, trivial⟩
        · refine obM ?_
          refine ops H' ?_
          refine opsV_nil ⟨rfl, .inl ⟨rfl, ?_⟩⟩
          exact anyFShd [0, 2, 3] [(0, 0)] 1 d3_0_0_0'
      have d3_0_0_2' : anyF X ?ops3_0_0 [0, 1, 2, 3, 4, 5, 6, 7, 8, 9, 10, 11, 12, 13] [] ?P3_0_0 { N := 28, np := 1, nx := 1, sl := [(0, .pl (.one (.ref 0 []))), (2, .pl (.one (.v (.sc (.int .i64 i))))), (3, .pl (.one (.v (.sc (.int .i64 j))))), (16, .pl (.one (.ref 0 []))), (17, .pl (.one (.v (.sc (.int .i64 j))))), (25, .pl (.one (.v (.sc (.int .i64 x_1)))))], ob := [(0, .list true 1 (List.map (rK .i64) (s_1.set i.toNat x)))] } := by
        refine fnode [] [.m 14 [] [0, 1, 2, 3, 4, 5, 6, 7, 8, 9, 10, 11, 12, 13, 14] []] [] [(14, false, [], [0, 1, 2, 3, 4, 5, 6, 7, 8, 9, 10, 11, 12, 13, 14])] ⟨?_, trivial⟩
        · refine obM ?_
          refine ops H' ?_
          refine opsV_nil ⟨rfl, .inl ⟨rfl, ?_⟩⟩
          exact anyFShd [0, 2, 3, 25, 27] [(0, 0)] 1 d3_0_0_1'
      have d3_0_0_3' : anyF X ?ops3_0_0 [0, 1, 2, 3, 4, 5, 6, 7, 8, 9, 10, 11, 12] [] ?P3_0_0 { N := 28, np := 1, nx := 1, sl := [(0, .pl (.one (.ref 0 []))), (2, .pl (.one (.v (.sc (.int .i64 i))))), (3, .pl (.one (.v (.sc (.int .i64 j))))), (16, .pl (.one (.ref 0 []))), (17, .pl (.one (.v (.sc (.int .i64 j))))), (21, .pl (.one (.v (.sc (.int .i64 x))))), (25, .pl (.one (.v (.sc (.int .i64 x_1))))), (26, .pl (.one (.addr 0 [] 1 i.toNat 0)))], ob := [(0, .list true 1 (List.map (rK .i64) s_1))] } := by
        refine fnode [] [.m 13 [] [0, 1, 2, 3, 4, 5, 6, 7, 8, 9, 10, 11, 12, 13] []] [] [(13, false, [], [0, 1, 2, 3, 4, 5, 6, 7, 8, 9, 10, 11, 12, 13])] ⟨?_, trivial⟩
        · refine obM ?_
          refine ops H' ?_
          refine opsV_nil ⟨rfl, .inl ⟨rfl, ?_⟩⟩
          exact anyFShd [0, 2, 3, 16, 17, 25] [(0, 0)] 1 d3_0_0_2'
      have d3_0_0_4' : anyF X ?ops3_0_0 [0, 1, 2, 3, 4, 5, 6, 8, 9, 10] [(7, 21, .pl (.one (.v (.sc (.int .i64 x))))), (11, 25, .pl (.one (.v (.sc (.int .i64 x_1)))))] ?P3_0_0 { N := 28, np := 1, nx := 1, sl := [(0, .pl (.one (.ref 0 []))), (2, .pl (.one (.v (.sc (.int .i64 i))))), (3, .pl (.one (.v (.sc (.int .i64 j))))), (14, .pl (.one (.ref 0 []))), (15, .pl (.one (.v (.sc (.int .i64 i))))), (16, .pl (.one (.ref 0 []))), (17, .pl (.one (.v (.sc (.int .i64 j))))), (20, .pl (.one (.addr 0 [] 1 j.toNat 0))), (24, .pl (.one (.addr 0 [] 1 i.toNat 0)))], ob := [(0, .list true 1 (List.map (rK .i64) s_1))] } := by
        refine fnode [7, 11] [.q 7 21 (.pl (.one (.v (.sc (.int .i64 x))))) [], .q 11 25 (.pl (.one (.v (.sc (.int .i64 x_1))))) [], .m 12 [7, 11] [0, 1, 2, 3, 4, 5, 6, 7, 8, 9, 10, 11, 12] []] [(7, 21), (11, 25)] [(7, true, [], []), (11, true, [], []), (12, false, [7, 11], [0, 1, 2, 3, 4, 5, 6, 7, 8, 9, 10, 11, 12])] ⟨?_, ?_, ?_, trivial⟩
        · refine obQ 0 ?_
          refine ops H' ?_
          refine opsV_nil ⟨rfl, shd [21, 0, 2, 3, 14, 15, 16, 17, 20, 24] [(0, 0)] 1 rfl⟩
        · refine obQ 1 ?_
          refine ops H' ?_
          refine opsV_nil ⟨rfl, shd [25, 0, 2, 3, 14, 15, 16, 17, 20, 24] [(0, 0)] 1 rfl⟩
        · refine obM ?_
          refine ops H' ?_
          refine opsV_nil ⟨rfl, .inl ⟨rfl, ?_⟩⟩
          exact anyFShd [0, 2, 3, 16, 17, 21, 25, 26] [(0, 0)] 1 d3_0_0_3'
      refine fpure H' 0 [0] [(7, 21), (11, 25)] ?_
      refine fpure H' 1 [0, 1] [(7, 21), (11, 25)] ?_
      refine fpure H' 2 [0, 1, 2] [(7, 21), (11, 25)] ?_
      refine fpure H' 3 [0, 1, 2, 3] [(7, 21), (11, 25)] ?_
      refine fpure H' 4 [0, 1, 2, 3, 4] [(7, 21), (11, 25)] ?_
      refine fpure H' 5 [0, 1, 2, 3, 4, 5] [(7, 21), (11, 25)] ?_
      refine fpure H' 6 [0, 1, 2, 3, 4, 5, 6] [(7, 21), (11, 25)] ?_
      refine fpure H' 8 [0, 1, 2, 3, 4, 5, 6, 8] [(7, 21), (11, 25)] ?_
      refine fpure H' 9 [0, 1, 2, 3, 4, 5, 6, 8, 9] [(7, 21), (11, 25)] ?_
      refine fpure H' 10 [0, 1, 2, 3, 4, 5, 6, 8, 9, 10] [(7, 21), (11, 25)] ?_
      exact anyFShd [0, 2, 3, 14, 15, 16, 17, 20, 24] [(0, 0)] 1 d3_0_0_4'
    · rintro e' rfl
      refine contN ?_
      refine wpV_region ?_
      refine ops H' ?_
      refine opsN ?_
      obtain rfl := Option.some.inj h1'
      exact shd [0, 2, 3] [(0, 0)] 1 ⟨_, rfl, _, _, _, rfl, rfl⟩
  · replace h1' := (ifF hc').symm.trans h1'
    refine exitN ?_
    obtain rfl := Option.some.inj h1'
    refine ⟨_, rfl, fun hr' => ?_⟩
    subst hr'
    obtain rfl := Option.some.inj h0'
    exact outN H' rfl rfl
theorem W_impl_LogOf (list_ : List T_impl_Commit) (versions : List Int) (c : Int) (r' : (List Int)) (h0' : impl_LogOf list_ versions c = some r') : Fn X 45 [.one (.list false 3 (List.map (r_T_impl_Commit false) list_)), .one (.list false 1 (List.map (rK .i64) versions)), .one (.sc (.int .i64 c))] [.one (.list true 1 (List.map (rK .i64) r'))] [] := by
  have H' := And.intro t22 (And.intro t133 (And.intro t137 (And.intro R_Li64 (And.intro R_T_impl_Commit (And.intro R_T_impl_Name (And.intro R_i64 (R_u64)))))))
  unfold impl_LogOf at h0'
  refine Fn.start (fn := f45) (N := 29) (res := [.tmp 6]) rfl rfl rfl rfl rfl (by simp) ?_
  refine enterG H' ?_
  refine wpV_seq1 ?_
  refine wpV_region ?_
  refine ops H' ?_
  refine opsN ?_
  refine wpV_seq1 ?_
  refine wpV_seq1 ?_
  refine wpV_region ?_
  refine ops H' ?_
  obtain ⟨x11, hy', h0'⟩ := Option.bind_eq_some_iff.1 h0'
  refine callG H' (fun _ => []) (W_impl_isPlace _ _ _ hy') ?_
  refine ops H' ?_
  obtain ⟨b, gh0', h0'⟩ := Option.bind_eq_some_iff.1 h0'
  refine opsV_cut 5 (fun e' => e' = { N := 29, np := 3, nx := 3, sl := [(0, .pl (.one (.v (.list false 3 (List.map (r_T_impl_Commit false) list_))))), (2, .pl (.one (.v (.sc (.int .i64 c))))), (18, .pl (.one (.v (.sc (.bool b)))))], ob := [] }) ?_ ?_
  · simp only [List.take_succ_cons, List.take_zero]
    refine opsV_sp (fun hc' => ?_) (fun hc' => ?_)
    · replace gh0' := (ifF hc').symm.trans gh0'
      refine ops H' ?_
      obtain ⟨x16, hy', gh0'⟩ := Option.bind_eq_some_iff.1 gh0'
      refine callG H' (fun _ => []) (W_impl_CommitsOk _ _ _ hy') ?_
      refine ops H' ?_
      obtain rfl := Option.some.inj gh0'
      refine opsV_nil ?_
      exact ⟨rfl, shd [0, 2, 18] [] 3 rfl⟩
    · replace gh0' := (ifT hc').symm.trans gh0'
      refine ops H' ?_
      obtain rfl := Option.some.inj gh0'
      refine opsV_nil ?_
      exact ⟨rfl, shd [0, 2, 18] [] 3 rfl⟩
  · rintro e' rfl
    simp only [List.drop_succ_cons, List.drop_zero]
    refine opsN ?_
    refine wpV_split (fun hc' => ?_) (fun hc' => ?_)
    · replace h0' := (ifT hc').symm.trans h0'
      refine wpV_seq1 ?_
      refine wpV_region ?_
      refine ops H' ?_
      refine opsN ?_
      refine retN ?_
      obtain rfl := Option.some.inj h0'
      exact outG H' rfl rfl
    · replace h0' := (ifF hc').symm.trans h0'
      refine skipN ?_
      refine wpV_seq1 ?_
      refine wpV_region ?_
      refine ops H' ?_
      obtain ⟨x20, hy', h0'⟩ := Option.bind_eq_some_iff.1 h0'
      refine callGD H' (fun _ => []) (W_impl_graphOf _ _ hy') ?_
      obtain ⟨x21, hy', h0'⟩ := Option.bind_eq_some_iff.1 h0'
      refine callG H' (fun _ => []) (W_impl_closures _ _ hy') ?_
      obtain ⟨x, hv', h0'⟩ := Option.bind_eq_some_iff.1 h0'
      have H' := And.intro (geti_f hv') H'
      refine ops H' ?_
      obtain ⟨x25, hy', h0'⟩ := Option.bind_eq_some_iff.1 h0'
      refine callG H' (fun _ => []) (W_impl_set_list _ _ hy') ?_
      refine ops H' ?_
      refine opsN ?_
      refine wpV_seq1 ?_
      refine wpV_region ?_
      refine ops H' ?_
      obtain ⟨x27, hy', h0'⟩ := Option.bind_eq_some_iff.1 h0'
      refine callG H' (fun _ => [0]) (W_slices_Reverse_int_int _ _ hy') ?_
      refine opsN ?_
      refine wpV_seq1 ?_
      refine wpV_region ?_
      refine ops H' ?_
      refine opsN ?_
      refine retN ?_
      obtain rfl := Option.some.inj h0'
      exact outG H' rfl rfl
theorem W_laws_eqIntS (a : List Int) (b : List Int) (r' : Bool) (h0' : laws_eqIntS a b = some r') : Fn X 37 [.one (.list false 1 (List.map (rK .i64) a)), .one (.list false 1 (List.map (rK .i64) b))] [.one (.sc (.bool r'))] [] := by
  have H' := And.intro t3 (And.intro t44 (R_i64))
  unfold laws_eqIntS at h0'
  refine Fn.start (fn := f37) (N := 26) (res := [.tmp 4]) rfl rfl rfl rfl rfl (by simp) ?_
  refine enterG H' ?_
  refine wpV_seq1 ?_
  refine wpV_region ?_
  refine ops H' ?_
  refine opsN ?_
  refine wpV_seq1 ?_
  refine wpV_seq1 ?_
  refine wpV_region ?_
  refine ops H' ?_
  refine opsN ?_
  refine wpV_split (fun hc' => ?_) (fun hc' => ?_)
  · replace h0' := (ifT hc').symm.trans h0'
    refine wpV_seq1 ?_
    refine wpV_region ?_
    refine ops H' ?_
    refine opsN ?_
    refine retN ?_
    obtain rfl := Option.some.inj h0'
    exact outG H' rfl rfl
  · replace h0' := (ifF hc').symm.trans h0'
    refine skipN ?_
    refine wpV_seqJ (fun e' => laws_eqIntS_j1 = some r' ∧ e' = { N := 26, np := 2, nx := 2, sl := [], ob := [] }) ?_ ?_
    · refine wpV_seq1 ?_
      refine wpV_region ?_
      refine ops H' ?_
      refine opsN ?_
      obtain ⟨p, hl', h0'⟩ := Option.bind_eq_some_iff.1 h0'
      refine wpV_block ?_
      refine wpV_loopM (fun i e' => e' = { N := 26, np := 2, nx := 2, sl := [(0, .pl (.one (.v (.list false 1 (List.map (rK .i64) a))))), (1, .pl (.one (.v (.list false 1 (List.map (rK .i64) b))))), (5, .pl (.one (.v (.sc (.int .i64 i)))))], ob := [] }) hl' (shd [0, 1, 5] [] 2 rfl) ?_
      rintro i y1' e' h1' rfl
      replace h1' : laws_eqIntS_l1 a b i = some y1' := h1'
      unfold laws_eqIntS_l1 at h1'
      refine wpV_seq1 ?_
      refine wpV_seq1 ?_
      refine wpV_region ?_
      refine ops H' ?_
      refine opsN ?_
      refine wpV_split (fun hc' => ?_) (fun hc' => ?_)
      · replace h1' := (ifT hc').symm.trans h1'
        refine skipN ?_
        refine wpV_seq1 ?_
        refine wpV_block ?_
        refine wpV_seq1 ?_
        refine regQ ?_
        obtain ⟨x, hv', h1'⟩ := Option.bind_eq_some_iff.1 h1'
        have H' := And.intro (geti_f hv') H'
        obtain ⟨x_1, hv', h1'⟩ := Option.bind_eq_some_iff.1 h1'
        have H' := And.intro (geti_f hv') H'
        refine ops H' ?_
        refine quN ?_
        refine wpV_split (fun hc' => ?_) (fun hc' => ?_)
        · replace h1' := (ifT hc').symm.trans h1'
          refine wpV_seq1 ?_
          refine wpV_region ?_
          refine ops H' ?_
          refine opsN ?_
          refine retN ?_
          obtain rfl := Option.some.inj h1'
          refine ⟨_, rfl, fun hr' => ?_⟩
          subst hr'
          obtain rfl := Option.some.inj h0'
          exact outG H' rfl rfl
        · replace h1' := (ifF hc').symm.trans h1'
          refine skipN ?_
          refine wpV_region ?_
          refine ops H' ?_
          refine opsN ?_
          obtain rfl := Option.some.inj h1'
          exact shd [0, 1, 5] [] 2 ⟨_, rfl, rfl⟩
      · replace h1' := (ifF hc').symm.trans h1'
        refine exitN ?_
        obtain rfl := Option.some.inj h1'
        refine ⟨_, rfl, fun hr' => ?_⟩
        subst hr'
        exact shd [] [] 2 ⟨h0', rfl⟩
    · rintro e' ⟨h0', rfl⟩
      unfold laws_eqIntS_j1 at h0'
      refine wpV_seq1 ?_
      refine wpV_region ?_
      refine ops H' ?_
      refine opsN ?_
      refine retN ?_
      obtain rfl := Option.some.inj h0'
      exact outG H' rfl rfl
theorem W_laws_eqName (a : T_impl_Name) (b : T_impl_Name) (r' : Bool) (h0' : laws_eqName a b = some r') : Fn X 185 [.agg [.sc (.string a.Path), .sc (.int .i64 a.Id), .sc (.int .i64 a.Version)], .agg [.sc (.string b.Path), .sc (.int .i64 b.Id), .sc (.int .i64 b.Version)]] [.one (.sc (.bool r'))] [] := by
  have H' := And.intro t3 (And.intro t9 (t88))
  unfold laws_eqName at h0'
  refine Fn.start (fn := f185) (N := 20) (res := [.tmp 4]) rfl rfl rfl rfl rfl (by simp) ?_
  refine enterG H' ?_
  refine wpV_seq1 ?_
  refine wpV_region ?_
  refine ops H' ?_
  refine opsN ?_
  refine wpV_seq1 ?_
  refine wpV_seq1 ?_
  refine wpV_region ?_
  refine ops H' ?_
  refine opsN ?_
  refine wpV_split (fun hc' => ?_) (fun hc' => ?_)
  · replace h0' := (ifT hc').symm.trans h0'
    refine wpV_seq1 ?_
    refine wpV_region ?_
    refine ops H' ?_
    refine opsN ?_
    refine retN ?_
    obtain rfl := Option.some.inj h0'
    exact outG H' rfl rfl
  · replace h0' := (ifF hc').symm.trans h0'
    refine skipN ?_
    refine wpV_seq1 ?_
    refine wpV_seq1 ?_
    refine wpV_region ?_
    refine ops H' ?_
    refine opsN ?_
    refine wpV_split (fun hc' => ?_) (fun hc' => ?_)
    · replace h0' := (ifT hc').symm.trans h0'
      refine wpV_seq1 ?_
      refine wpV_region ?_
      refine ops H' ?_
      refine opsN ?_
      refine retN ?_
      obtain rfl := Option.some.inj h0'
      exact outG H' rfl rfl
    · replace h0' := (ifF hc').symm.trans h0'
      refine skipN ?_
      refine wpV_seq1 ?_
      refine wpV_seq1 ?_
      refine wpV_region ?_
      refine ops H' ?_
      refine opsN ?_
      refine wpV_split (fun hc' => ?_) (fun hc' => ?_)
      · replace h0' := (ifT hc').symm.trans h0'
        refine wpV_seq1 ?_
        refine wpV_region ?_
        refine ops H' ?_
        refine opsN ?_
        refine retN ?_
        obtain rfl := Option.some.inj h0'
        exact outG H' rfl rfl
      · replace h0' := (ifF hc').symm.trans h0'
        refine skipN ?_
        refine wpV_seq1 ?_
        refine wpV_region ?_
        refine ops H' ?_
        refine opsN ?_
        refine retN ?_
        obtain rfl := Option.some.inj h0'
        exact outG H' rfl rfl
theorem W_laws_eqNameS (a : List T_impl_Name) (b : List T_impl_Name) (r' : Bool) (h0' : laws_eqNameS a b = some r') : Fn X 148 [.one (.list false 3 (List.map (r_T_impl_Name false) a)), .one (.list false 3 (List.map (r_T_impl_Name false) b))] [.one (.sc (.bool r'))] [] := by
  have H' := And.intro t3 (And.intro t83 (And.intro t88 (R_T_impl_Name)))
  unfold laws_eqNameS at h0'
  refine Fn.start (fn := f148) (N := 27) (res := [.tmp 4]) rfl rfl rfl rfl rfl (by simp) ?_
  refine enterG H' ?_
  refine wpV_seq1 ?_
  refine wpV_region ?_
  refine ops H' ?_
  refine opsN ?_
  refine wpV_seq1 ?_
  refine wpV_seq1 ?_
  refine wpV_region ?_
  refine ops H' ?_
  refine opsN ?_
  refine wpV_split (fun hc' => ?_) (fun hc' => ?_)
  · replace h0' := (ifT hc').symm.trans h0'
    refine wpV_seq1 ?_
    refine wpV_region ?_
    refine ops H' ?_
    refine opsN ?_
    refine retN ?_
    obtain rfl := Option.some.inj h0'
    exact outG H' rfl rfl
  · replace h0' := (ifF hc').symm.trans h0'
    refine skipN ?_
    refine wpV_seqJ (fun e' => laws_eqNameS_j1 = some r' ∧ e' = { N := 27, np := 2, nx := 2, sl := [], ob := [] }) ?_ ?_
    · refine wpV_seq1 ?_
      refine wpV_region ?_
      refine ops H' ?_
      refine opsN ?_
      obtain ⟨p, hl', h0'⟩ := Option.bind_eq_some_iff.1 h0'
      refine wpV_block ?_
      refine wpV_loopM (fun i e' => e' = { N := 27, np := 2, nx := 2, sl := [(0, .pl (.one (.v (.list false 3 (List.map (r_T_impl_Name false) a))))), (1, .pl (.one (.v (.list false 3 (List.map (r_T_impl_Name false) b))))), (5, .pl (.one (.v (.sc (.int .i64 i)))))], ob := [] }) hl' (shd [0, 1, 5] [] 2 rfl) ?_
      rintro i y1' e' h1' rfl
      replace h1' : laws_eqNameS_l1 a b i = some y1' := h1'
      unfold laws_eqNameS_l1 at h1'
      refine wpV_seq1 ?_
      refine wpV_seq1 ?_
      refine wpV_region ?_
      refine ops H' ?_
      refine opsN ?_
      refine wpV_split (fun hc' => ?_) (fun hc' => ?_)
      · replace h1' := (ifT hc').symm.trans h1'
        refine skipN ?_
        refine wpV_seq1 ?_
        refine wpV_block ?_
        refine wpV_seq1 ?_
        refine regQ ?_
        obtain ⟨x, hv', h1'⟩ := Option.bind_eq_some_iff.1 h1'
        have H' := And.intro (geti_f hv') H'
        obtain ⟨x_1, hv', h1'⟩ := Option.bind_eq_some_iff.1 h1'
        have H' := And.intro (geti_f hv') H'
        refine ops H' ?_
        obtain ⟨x25, hy', h1'⟩ := Option.bind_eq_some_iff.1 h1'
        refine callGQ H' (W_laws_eqName _ _ _ hy') ?_
        refine ops H' ?_
        refine quN ?_
        refine wpV_split (fun hc' => ?_) (fun hc' => ?_)
        · replace h1' := (ifT hc').symm.trans h1'
          refine wpV_seq1 ?_
          refine wpV_region ?_
          refine ops H' ?_
          refine opsN ?_
          refine retN ?_
          obtain rfl := Option.some.inj h1'
          refine ⟨_, rfl, fun hr' => ?_⟩
          subst hr'
          obtain rfl := Option.some.inj h0'
          exact outG H' rfl rfl
        · replace h1' := (ifF hc').symm.trans h1'
          refine skipN ?_
          refine wpV_region ?_
          refine ops H' ?_
          refine opsN ?_
          obtain rfl := Option.some.inj h1'
          exact shd [0, 1, 5] [] 2 ⟨_, rfl, rfl⟩
      · replace h1' := (ifF hc').symm.trans h1'
        refine exitN ?_
        obtain rfl := Option.some.inj h1'
        refine ⟨_, rfl, fun hr' => ?_⟩
        subst hr'
        exact shd [] [] 2 ⟨h0', rfl⟩
    · rintro e' ⟨h0', rfl⟩
      unfold laws_eqNameS_j1 at h0'
      refine wpV_seq1 ?_
      refine wpV_region ?_
      refine ops H' ?_
      refine opsN ?_
      refine retN ?_
      obtain rfl := Option.some.inj h0'
      exact outG H' rfl rfl
theorem W_laws_eqCommit (a : T_impl_Commit) (b : T_impl_Commit) (r' : Bool) (h0' : laws_eqCommit a b = some r') : Fn X 65 [.agg [.list false 1 (List.map (rK .i64) a.Parents), .sc (.string a.Note), .list false 3 (List.map (r_T_impl_Name false) a.Names)], .agg [.list false 1 (List.map (rK .i64) b.Parents), .sc (.string b.Note), .list false 3 (List.map (r_T_impl_Name false) b.Names)]] [.one (.sc (.bool r'))] [] := by
  have H' := And.intro t9 (And.intro t44 (And.intro t83 (And.intro t85 (And.intro R_T_impl_Name (R_i64)))))
  unfold laws_eqCommit at h0'
  refine Fn.start (fn := f65) (N := 22) (res := [.tmp 4]) rfl rfl rfl rfl rfl (by simp) ?_
  refine enterG H' ?_
  refine wpV_seq1 ?_
  refine wpV_region ?_
  refine ops H' ?_
  refine opsN ?_
  refine wpV_seq1 ?_
  refine wpV_seq1 ?_
  refine wpV_region ?_
  refine ops H' ?_
  obtain ⟨x9, hy', h0'⟩ := Option.bind_eq_some_iff.1 h0'
  refine callG H' (fun _ => []) (W_laws_eqIntS _ _ _ hy') ?_
  refine ops H' ?_
  refine opsN ?_
  refine wpV_split (fun hc' => ?_) (fun hc' => ?_)
  · replace h0' := (ifT hc').symm.trans h0'
    refine wpV_seq1 ?_
    refine wpV_region ?_
    refine ops H' ?_
    refine opsN ?_
    refine retN ?_
    obtain rfl := Option.some.inj h0'
    exact outG H' rfl rfl
  · replace h0' := (ifF hc').symm.trans h0'
    refine skipN ?_
    refine wpV_seq1 ?_
    refine wpV_seq1 ?_
    refine wpV_region ?_
    refine ops H' ?_
    refine opsN ?_
    refine wpV_split (fun hc' => ?_) (fun hc' => ?_)
    · replace h0' := (ifT hc').symm.trans h0'
      refine wpV_seq1 ?_
      refine wpV_region ?_
      refine ops H' ?_
      refine opsN ?_
      refine retN ?_
      obtain rfl := Option.some.inj h0'
      exact outG H' rfl rfl
    · replace h0' := (ifF hc').symm.trans h0'
      refine skipN ?_
      refine wpV_seq1 ?_
      refine wpV_seq1 ?_
      refine wpV_region ?_
      refine ops H' ?_
      obtain ⟨x20, hy', h0'⟩ := Option.bind_eq_some_iff.1 h0'
      refine callG H' (fun _ => []) (W_laws_eqNameS _ _ _ hy') ?_
      refine ops H' ?_
      refine opsN ?_
      refine wpV_split (fun hc' => ?_) (fun hc' => ?_)
      · replace h0' := (ifT hc').symm.trans h0'
        refine wpV_seq1 ?_
        refine wpV_region ?_
        refine ops H' ?_
        refine opsN ?_
        refine retN ?_
        obtain rfl := Option.some.inj h0'
        exact outG H' rfl rfl
      · replace h0' := (ifF hc').symm.trans h0'
        refine skipN ?_
        refine wpV_seq1 ?_
        refine wpV_region ?_
        refine ops H' ?_
        refine opsN ?_
        refine retN ?_
        obtain rfl := Option.some.inj h0'
        exact outG H' rfl rfl
theorem W_laws_eqCommitS (a : List T_impl_Commit) (b : List T_impl_Commit) (r' : Bool) (h0' : laws_eqCommitS a b = some r') : Fn X 14 [.one (.list false 3 (List.map (r_T_impl_Commit false) a)), .one (.list false 3 (List.map (r_T_impl_Commit false) b))] [.one (.sc (.bool r'))] [] := by
  have H' := And.intro t3 (And.intro t22 (And.intro t85 (And.intro R_T_impl_Commit (And.intro R_T_impl_Name (R_i64)))))
  unfold laws_eqCommitS at h0'
  refine Fn.start (fn := f14) (N := 27) (res := [.tmp 4]) rfl rfl rfl rfl rfl (by simp) ?_
  refine enterG H' ?_
  refine wpV_seq1 ?_
  refine wpV_region ?_
  refine ops H' ?_
  refine opsN ?_
  refine wpV_seq1 ?_
  refine wpV_seq1 ?_
  refine wpV_region ?_
  refine ops H' ?_
  refine opsN ?_
  refine wpV_split (fun hc' => ?_) (fun hc' => ?_)
  · replace h0' := (ifT hc').symm.trans h0'
    refine wpV_seq1 ?_
    refine wpV_region ?_
    refine ops H' ?_
    refine opsN ?_
    refine retN ?_
    obtain rfl := Option.some.inj h0'
    exact outG H' rfl rfl
  · replace h0' := (ifF hc').symm.trans h0'
    refine skipN ?_
    refine wpV_seqJ (fun e' => laws_eqCommitS_j1 = some r' ∧ e' = { N := 27, np := 2, nx := 2, sl := [], ob := [] }) ?_ ?_
    · refine wpV_seq1 ?_
      refine wpV_region ?_
      refine ops H' ?_
      refine opsN ?_
      obtain ⟨p, hl', h0'⟩ := Option.bind_eq_some_iff.1 h0'
      refine wpV_block ?_
      refine wpV_loopM (fun i e' => e' = { N := 27, np := 2, nx := 2, sl := [(0, .pl (.one (.v (.list false 3 (List.map (r_T_impl_Commit false) a))))), (1, .pl (.one (.v (.list false 3 (List.map (r_T_impl_Commit false) b))))), (5, .pl (.one (.v (.sc (.int .i64 i)))))], ob := [] }) hl' (shd [0, 1, 5] [] 2 rfl) ?_
      rintro i y1' e' h1' rfl
      replace h1' : laws_eqCommitS_l1 a b i = some y1' := h1'
      unfold laws_eqCommitS_l1 at h1'
      refine wpV_seq1 ?_
      refine wpV_seq1 ?_
      refine wpV_region ?_
      refine ops H' ?_
      refine opsN ?_
      refine wpV_split (fun hc' => ?_) (fun hc' => ?_)
      · replace h1' := (ifT hc').symm.trans h1'
        refine skipN ?_
        refine wpV_seq1 ?_
        refine wpV_block ?_
        refine wpV_seq1 ?_
        refine regQ ?_
        obtain ⟨x, hv', h1'⟩ := Option.bind_eq_some_iff.1 h1'
        have H' := And.intro (geti_f hv') H'
        obtain ⟨x_1, hv', h1'⟩ := Option.bind_eq_some_iff.1 h1'
        have H' := And.intro (geti_f hv') H'
        refine ops H' ?_
        obtain ⟨x25, hy', h1'⟩ := Option.bind_eq_some_iff.1 h1'
        refine callGQ H' (W_laws_eqCommit _ _ _ hy') ?_
        refine ops H' ?_
        refine quN ?_
        refine wpV_split (fun hc' => ?_) (fun hc' => ?_)
        · replace h1' := (ifT hc').symm.trans h1'
          refine wpV_seq1 ?_
          refine wpV_region ?_
          refine ops H' ?_
          refine opsN ?_
          refine retN ?_
          obtain rfl := Option.some.inj h1'
          refine ⟨_, rfl, fun hr' => ?_⟩
          subst hr'
          obtain rfl := Option.some.inj h0'
          exact outG H' rfl rfl
        · replace h1' := (ifF hc').symm.trans h1'
          refine skipN ?_
          refine wpV_region ?_
          refine ops H' ?_
          refine opsN ?_
          obtain rfl := Option.some.inj h1'
          exact shd [0, 1, 5] [] 2 ⟨_, rfl, rfl⟩
      · replace h1' := (ifF hc').symm.trans h1'
        refine exitN ?_
        obtain rfl := Option.some.inj h1'
        refine ⟨_, rfl, fun hr' => ?_⟩
        subst hr'
        exact shd [] [] 2 ⟨h0', rfl⟩
    · rintro e' ⟨h0', rfl⟩
      unfold laws_eqCommitS_j1 at h0'
      refine wpV_seq1 ?_
      refine wpV_region ?_
      refine ops H' ?_
      refine opsN ?_
      refine retN ?_
      obtain rfl := Option.some.inj h0'
      exact outG H' rfl rfl
theorem W_laws_markIntS (a : List Int) (k : Int) (r' : Int × (List Int)) (h0' : laws_markIntS a k = some r') : Fn X 39 [.one (.list true 1 (List.map (rK .i64) a)), .one (.sc (.int .i64 k))] [.one (.sc (.int .i64 r'.1))] [(0, .list true 1 (List.map (rK .i64) r'.2))] := by
  have H' := And.intro t3 (And.intro t44 (R_i64))
  unfold laws_markIntS at h0'
  refine Fn.start (fn := f39) (N := 19) (res := [.tmp 4]) rfl rfl rfl rfl rfl (by simp) ?_
  refine enterG H' ?_
  refine wpV_seq1 ?_
  refine wpV_region ?_
  refine ops H' ?_
  refine opsN ?_
  refine wpV_seqJ (fun e' => ∃ k_1 a_1, laws_markIntS_j1 k_1 a_1 = some r' ∧ e' = { N := 19, np := 2, nx := 2, sl := [(1, .pl (.one (.v (.sc (.int .i64 k_1)))))], ob := [(0, .list true 1 (List.map (rK .i64) a_1))] }) ?_ ?_
  · refine wpV_seq1 ?_
    refine wpV_region ?_
    refine ops H' ?_
    refine opsN ?_
    obtain ⟨p, hl', h0'⟩ := Option.bind_eq_some_iff.1 h0'
    refine wpV_block ?_
    refine wpV_loopM (fun s' e' => ∃ k_2 i a_2, s' = (k_2, i, a_2) ∧ e' = { N := 19, np := 2, nx := 2, sl := [(0, .pl (.one (.ref 0 []))), (1, .pl (.one (.v (.sc (.int .i64 k_2))))), (5, .pl (.one (.v (.sc (.int .i64 i)))))], ob := [(0, .list true 1 (List.map (rK .i64) a_2))] }) hl' (shd [0, 1, 5] [(0, 0)] 2 ⟨_, _, _, rfl, rfl⟩) ?_
    rintro s' y1' e' h1' ⟨k_2, i, a_2, rfl, rfl⟩
    replace h1' : laws_markIntS_l1 k_2 i a_2 = some y1' := h1'
    unfold laws_markIntS_l1 at h1'
    refine wpV_seq1 ?_
    refine wpV_seq1 ?_
    refine wpV_region ?_
    refine ops H' ?_
    refine opsN ?_
    refine wpV_split (fun hc' => ?_) (fun hc' => ?_)
    · replace h1' := (ifT hc').symm.trans h1'
      refine skipN ?_
      refine wpV_seq1 ?_
      refine wpV_block ?_
      refine wpV_seq1 ?_
      refine wpV_region ?_
      obtain ⟨x, hv', h1'⟩ := Option.bind_eq_some_iff.1 h1'
      have H' := And.intro (geti_f hv') H'
      refine ops H' ?_
      refine opsN ?_
      refine wpV_region ?_
      refine ops H' ?_
      refine opsN ?_
      refine wpV_region ?_
      refine ops H' ?_
      refine opsN ?_
      obtain rfl := Option.some.inj h1'
      exact shd [0, 1, 5] [(0, 0)] 2 ⟨_, rfl, _, _, _, rfl, rfl⟩
    · replace h1' := (ifF hc').symm.trans h1'
      refine exitN ?_
      obtain rfl := Option.some.inj h1'
      refine ⟨_, rfl, fun hr' => ?_⟩
      subst hr'
      exact shd [1] [(0, 0)] 2 ⟨_, _, h0', rfl⟩
  · rintro e' ⟨k_1, a_1, h0', rfl⟩
    unfold laws_markIntS_j1 at h0'
    refine wpV_seq1 ?_
    refine wpV_region ?_
    refine ops H' ?_
    refine opsN ?_
    refine retN ?_
    obtain rfl := Option.some.inj h0'
    exact outG H' rfl rfl
theorem W_laws_markText (k : Int) (r' : ByteArray) (h0' : laws_markText k = some r') : Fn X 66 [.one (.sc (.int .i64 k))] [.one (.sc (.string r'))] [] := by
  have H' := And.intro t3 (And.intro t5 (And.intro t9 (t36)))
  unfold laws_markText at h0'
  refine Fn.start (fn := f66) (N := 20) (res := [.tmp 2]) rfl rfl rfl rfl rfl (by simp) ?_
  refine enterG H' ?_
  refine wpV_seq1 ?_
  refine wpV_region ?_
  refine ops H' ?_
  refine opsN ?_
  refine wpV_seq1 ?_
  refine wpV_seq1 ?_
  refine wpV_region ?_
  refine ops H' ?_
  refine opsN ?_
  refine wpV_split (fun hc' => ?_) (fun hc' => ?_)
  · replace h0' := (ifT hc').symm.trans h0'
    refine wpV_seq1 ?_
    refine wpV_region ?_
    refine ops H' ?_
    refine opsN ?_
    refine retN ?_
    obtain rfl := Option.some.inj h0'
    exact outG H' rfl rfl
  · replace h0' := (ifF hc').symm.trans h0'
    refine skipN ?_
    refine wpV_seq1 ?_
    refine wpV_region ?_
    refine ops H' ?_
    refine opsN ?_
    refine wpV_seqJ (fun e' => ∃ out_, laws_markText_j1 out_ = some r' ∧ e' = { N := 20, np := 1, nx := 1, sl := [(3, .pl (.one (.v (.sc (.string out_)))))], ob := [] }) ?_ ?_
    · obtain ⟨p, hl', h0'⟩ := Option.bind_eq_some_iff.1 h0'
      refine wpV_block ?_
      refine wpV_loopM (fun s' e' => ∃ k_1 out__1, s' = (k_1, out__1) ∧ e' = { N := 20, np := 1, nx := 1, sl := [(0, .pl (.one (.v (.sc (.int .i64 k_1))))), (3, .pl (.one (.v (.sc (.string out__1)))))], ob := [] }) hl' (shd [0, 3] [] 1 ⟨_, _, rfl, rfl⟩) ?_
      rintro s' y1' e' h1' ⟨k_1, out__1, rfl, rfl⟩
      replace h1' : laws_markText_l1 k_1 out__1 = some y1' := h1'
      unfold laws_markText_l1 at h1'
      refine wpV_seq1 ?_
      refine wpV_seq1 ?_
      refine wpV_region ?_
      refine ops H' ?_
      refine opsN ?_
      refine wpV_split (fun hc' => ?_) (fun hc' => ?_)
      · replace h1' := (ifT hc').symm.trans h1'
        refine skipN ?_
        refine wpV_block ?_
        refine wpV_seq1 ?_
        refine wpV_region ?_
        have H' := And.intro (show bytesOf [[V.sc (.int .u8 (wk .u8 (wk .i64 (48 + (k_1.tmod 10)))))]] = some [(wk .u8 (wk .i64 (48 + (k_1.tmod 10))))] from bytesOf_rK [(wk .u8 (wk .i64 (48 + (k_1.tmod 10))))]) H'
        obtain ⟨t_1, hv', h1'⟩ := Option.bind_eq_some_iff.1 h1'
        have H' := And.intro (sapp_f hv') H'
        refine ops H' ?_
        refine opsN ?_
        refine wpV_region ?_
        refine ops H' ?_
        refine opsN ?_
        obtain rfl := Option.some.inj h1'
        exact shd [0, 3] [] 1 ⟨_, rfl, _, _, rfl, rfl⟩
      · replace h1' := (ifF hc').symm.trans h1'
        refine exitN ?_
        obtain rfl := Option.some.inj h1'
        refine ⟨_, rfl, fun hr' => ?_⟩
        subst hr'
        exact shd [3] [] 1 ⟨_, h0', rfl⟩
    · rintro e' ⟨out_, h0', rfl⟩
      unfold laws_markText_j1 at h0'
      refine wpV_seq1 ?_
      refine wpV_region ?_
      obtain ⟨t, hv', h0'⟩ := Option.bind_eq_some_iff.1 h0'
      have H' := And.intro (sapp_f hv') H'
      refine ops H' ?_
      refine opsN ?_
      refine retN ?_
      obtain rfl := Option.some.inj h0'
      exact outG H' rfl rfl
theorem W_laws_markNameS (a : List T_impl_Name) (k : Int) (r' : Int × (List T_impl_Name)) (h0' : laws_markNameS a k = some r') : Fn X 67 [.one (.list true 3 (List.map (r_T_impl_Name true) a)), .one (.sc (.int .i64 k))] [.one (.sc (.int .i64 r'.1))] [(0, .list true 3 (List.map (r_T_impl_Name true) r'.2))] := by
  have H' := And.intro t3 (And.intro t9 (And.intro t83 (And.intro t88 (R_T_impl_Name))))
  unfold laws_markNameS at h0'
  refine Fn.start (fn := f67) (N := 35) (res := [.tmp 4]) rfl rfl rfl rfl rfl (by simp) ?_
  refine enterG H' ?_
  refine wpV_seq1 ?_
  refine wpV_region ?_
  refine ops H' ?_
  refine opsN ?_
  refine wpV_seqJ (fun e' => ∃ k_1 a_1, laws_markNameS_j1 k_1 a_1 = some r' ∧ e' = { N := 35, np := 2, nx := 2, sl := [(1, .pl (.one (.v (.sc (.int .i64 k_1)))))], ob := [(0, .list true 3 (List.map (r_T_impl_Name true) a_1))] }) ?_ ?_
  · refine wpV_seq1 ?_
    refine wpV_region ?_
    refine ops H' ?_
    refine opsN ?_
    obtain ⟨p, hl', h0'⟩ := Option.bind_eq_some_iff.1 h0'
    refine wpV_block ?_
    refine wpV_loopM (fun s' e' => ∃ k_2 i a_2, s' = (k_2, i, a_2) ∧ e' = { N := 35, np := 2, nx := 2, sl := [(0, .pl (.one (.ref 0 []))), (1, .pl (.one (.v (.sc (.int .i64 k_2))))), (5, .pl (.one (.v (.sc (.int .i64 i)))))], ob := [(0, .list true 3 (List.map (r_T_impl_Name true) a_2))] }) hl' (shd [0, 1, 5] [(0, 0)] 2 ⟨_, _, _, rfl, rfl⟩) ?_
    rintro s' y1' e' h1' ⟨k_2, i, a_2, rfl, rfl⟩
    replace h1' : laws_markNameS_l1 k_2 i a_2 = some y1' := h1'
    unfold laws_markNameS_l1 at h1'
    refine wpV_seq1 ?_
    refine wpV_seq1 ?_
    refine wpV_region ?_
    refine ops H' ?_
    refine opsN ?_
    refine wpV_split (fun hc' => ?_) (fun hc' => ?_)
    · replace h1' := (ifT hc').symm.trans h1'
      refine skipN ?_
      refine wpV_seq1 ?_
      refine wpV_block ?_
      refine wpV_seq1 ?_
      refine wpV_region ?_
      refine ops H' ?_
      obtain ⟨x15, hy', h1'⟩ := Option.bind_eq_some_iff.1 h1'
      refine callG H' (fun _ => []) (W_laws_markText _ _ hy') ?_
      obtain ⟨x, hv', h1'⟩ := Option.bind_eq_some_iff.1 h1'
      have H' := And.intro (geti_f hv') H'
      refine ops H' ?_
      refine opsN ?_
      refine wpV_seq1 ?_
      refine wpV_region ?_
      refine ops H' ?_
      refine opsN ?_
      refine wpV_seq1 ?_
      refine wpV_region ?_
      obtain ⟨x_1, hv', h1'⟩ := Option.bind_eq_some_iff.1 h1'
      have H' := And.intro (geti_f hv') H'
      refine ops H' ?_
      refine opsN ?_
      refine wpV_seq1 ?_
      refine wpV_region ?_
      refine ops H' ?_
      refine opsN ?_
      refine wpV_seq1 ?_
      refine wpV_region ?_
      obtain ⟨x_2, hv', h1'⟩ := Option.bind_eq_some_iff.1 h1'
      have H' := And.intro (geti_f hv') H'
      refine ops H' ?_
      refine opsN ?_
      refine wpV_region ?_
      refine ops H' ?_
      refine opsN ?_
      refine wpV_region ?_
      refine ops H' ?_
      refine opsN ?_
      obtain rfl := Option.some.inj h1'
      exact shd [0, 1, 5] [(0, 0)] 2 ⟨_, rfl, _, _, _, rfl, rfl⟩
    · replace h1' := (ifF hc').symm.trans h1'
      refine exitN ?_
      obtain rfl := Option.some.inj h1'
      refine ⟨_, rfl, fun hr' => ?_⟩
      subst hr'
      exact shd [1] [(0, 0)] 2 ⟨_, _, h0', rfl⟩
  · rintro e' ⟨k_1, a_1, h0', rfl⟩
    unfold laws_markNameS_j1 at h0'
    refine wpV_seq1 ?_
    refine wpV_region ?_
    refine ops H' ?_
    refine opsN ?_
    refine retN ?_
    obtain rfl := Option.some.inj h0'
    exact outG H' rfl rfl
theorem W_laws_markCommitS (a : List T_impl_Commit) (k : Int) (r' : Int × (List T_impl_Commit)) (h0' : laws_markCommitS a k = some r') : Fn X 15 [.one (.list true 3 (List.map (r_T_impl_Commit true) a)), .one (.sc (.int .i64 k))] [.one (.sc (.int .i64 r'.1))] [(0, .list true 3 (List.map (r_T_impl_Commit true) r'.2))] := by
  have H' := And.intro t3 (And.intro t9 (And.intro t22 (And.intro t44 (And.intro t83 (And.intro t85 (And.intro R_T_impl_Commit (And.intro R_T_impl_Name (R_i64))))))))
  unfold laws_markCommitS at h0'
  refine Fn.start (fn := f15) (N := 35) (res := [.tmp 4]) rfl rfl rfl rfl rfl (by simp) ?_
  refine enterG H' ?_
  refine wpV_seq1 ?_
  refine wpV_region ?_
  refine ops H' ?_
  refine opsN ?_
  refine wpV_seqJ (fun e' => ∃ k_1 a_1, laws_markCommitS_j1 k_1 a_1 = some r' ∧ e' = { N := 35, np := 2, nx := 2, sl := [(1, .pl (.one (.v (.sc (.int .i64 k_1)))))], ob := [(0, .list true 3 (List.map (r_T_impl_Commit true) a_1))] }) ?_ ?_
  · refine wpV_seq1 ?_
    refine wpV_region ?_
    refine ops H' ?_
    refine opsN ?_
    obtain ⟨p, hl', h0'⟩ := Option.bind_eq_some_iff.1 h0'
    refine wpV_block ?_
    refine wpV_loopM (fun s' e' => ∃ k_2 i a_2, s' = (k_2, i, a_2) ∧ e' = { N := 35, np := 2, nx := 2, sl := [(0, .pl (.one (.ref 0 []))), (1, .pl (.one (.v (.sc (.int .i64 k_2))))), (5, .pl (.one (.v (.sc (.int .i64 i)))))], ob := [(0, .list true 3 (List.map (r_T_impl_Commit true) a_2))] }) hl' (shd [0, 1, 5] [(0, 0)] 2 ⟨_, _, _, rfl, rfl⟩) ?_
    rintro s' y1' e' h1' ⟨k_2, i, a_2, rfl, rfl⟩
    replace h1' : laws_markCommitS_l1 k_2 i a_2 = some y1' := h1'
    unfold laws_markCommitS_l1 at h1'
    refine wpV_seq1 ?_
    refine wpV_seq1 ?_
    refine wpV_region ?_
    refine ops H' ?_
    refine opsN ?_
    refine wpV_split (fun hc' => ?_) (fun hc' => ?_)
    · replace h1' := (ifT hc').symm.trans h1'
      refine skipN ?_
      refine wpV_seq1 ?_
      refine wpV_block ?_
      refine wpV_seq1 ?_
      refine wpV_region ?_
      obtain ⟨x, hv', h1'⟩ := Option.bind_eq_some_iff.1 h1'
      have H' := And.intro (geti_f hv') H'
      refine ops H' ?_
      obtain ⟨x18, hy', h1'⟩ := Option.bind_eq_some_iff.1 h1'
      refine callG H' (fun _ => [0]) (W_laws_markIntS _ _ _ hy') ?_
      refine ops H' ?_
      refine opsN ?_
      refine wpV_seq1 ?_
      refine wpV_region ?_
      refine ops H' ?_
      obtain ⟨x22, hy', h1'⟩ := Option.bind_eq_some_iff.1 h1'
      refine callG H' (fun _ => []) (W_laws_markText _ _ hy') ?_
      obtain ⟨x_1, hv', h1'⟩ := Option.bind_eq_some_iff.1 h1'
      have H' := And.intro (geti_f hv') H'
      refine ops H' ?_
      refine opsN ?_
      refine wpV_seq1 ?_
      refine wpV_region ?_
      refine ops H' ?_
      refine opsN ?_
      refine wpV_region ?_
      obtain ⟨x_2, hv', h1'⟩ := Option.bind_eq_some_iff.1 h1'
      have H' := And.intro (geti_f hv') H'
      refine ops H' ?_
      obtain ⟨x33, hy', h1'⟩ := Option.bind_eq_some_iff.1 h1'
      refine callG H' (fun _ => [0]) (W_laws_markNameS _ _ _ hy') ?_
      refine ops H' ?_
      refine opsN ?_
      refine wpV_region ?_
      refine ops H' ?_
      refine opsN ?_
      obtain rfl := Option.some.inj h1'
      exact shd [0, 1, 5] [(0, 0)] 2 ⟨_, rfl, _, _, _, rfl, rfl⟩
    · replace h1' := (ifF hc').symm.trans h1'
      refine exitN ?_
      obtain rfl := Option.some.inj h1'
      refine ⟨_, rfl, fun hr' => ?_⟩
      subst hr'
      exact shd [1] [(0, 0)] 2 ⟨_, _, h0', rfl⟩
  · rintro e' ⟨k_1, a_1, h0', rfl⟩
    unfold laws_markCommitS_j1 at h0'
    refine wpV_seq1 ?_
    refine wpV_region ?_
    refine ops H' ?_
    refine opsN ?_
    refine retN ?_
    obtain rfl := Option.some.inj h0'
    exact outG H' rfl rfl
theorem W_laws_heldIntS (a : List Int) (k : Int) (r' : Int) (h0' : laws_heldIntS a k = some r') : Fn X 46 [.one (.list false 1 (List.map (rK .i64) a)), .one (.sc (.int .i64 k))] [.one (.sc (.int .i64 r'))] [] := by
  have H' := And.intro t3 (And.intro t44 (R_i64))
  unfold laws_heldIntS at h0'
  refine Fn.start (fn := f46) (N := 21) (res := [.tmp 4]) rfl rfl rfl rfl rfl (by simp) ?_
  refine enterG H' ?_
  refine wpV_seq1 ?_
  refine wpV_region ?_
  refine ops H' ?_
  refine opsN ?_
  refine wpV_seqJ (fun e' => ∃ k_1, laws_heldIntS_j1 k_1 = some r' ∧ e' = { N := 21, np := 2, nx := 2, sl := [(1, .pl (.one (.v (.sc (.int .i64 k_1)))))], ob := [] }) ?_ ?_
  · refine wpV_seq1 ?_
    refine wpV_region ?_
    refine ops H' ?_
    refine opsN ?_
    obtain ⟨p, hl', h0'⟩ := Option.bind_eq_some_iff.1 h0'
    refine wpV_block ?_
    refine wpV_loopM (fun s' e' => ∃ k_2 i, s' = (k_2, i) ∧ e' = { N := 21, np := 2, nx := 2, sl := [(0, .pl (.one (.v (.list false 1 (List.map (rK .i64) a))))), (1, .pl (.one (.v (.sc (.int .i64 k_2))))), (5, .pl (.one (.v (.sc (.int .i64 i)))))], ob := [] }) hl' (shd [0, 1, 5] [] 2 ⟨_, _, rfl, rfl⟩) ?_
    rintro s' y1' e' h1' ⟨k_2, i, rfl, rfl⟩
    replace h1' : laws_heldIntS_l1 a k_2 i = some y1' := h1'
    unfold laws_heldIntS_l1 at h1'
    refine wpV_seq1 ?_
    refine wpV_seq1 ?_
    refine wpV_region ?_
    refine ops H' ?_
    refine opsN ?_
    refine wpV_split (fun hc' => ?_) (fun hc' => ?_)
    · replace h1' := (ifT hc').symm.trans h1'
      refine skipN ?_
      refine wpV_seq1 ?_
      refine wpV_block ?_
      refine wpV_seq1 ?_
      refine wpV_seq1 ?_
      refine wpV_region ?_
      obtain ⟨x, hv', h1'⟩ := Option.bind_eq_some_iff.1 h1'
      have H' := And.intro (geti_f hv') H'
      refine ops H' ?_
      refine opsN ?_
      refine wpV_split (fun hc' => ?_) (fun hc' => ?_)
      · replace h1' := (ifT hc').symm.trans h1'
        refine wpV_seq1 ?_
        refine wpV_region ?_
        refine ops H' ?_
        refine opsN ?_
        refine retN ?_
        obtain rfl := Option.some.inj h1'
        refine ⟨_, rfl, fun hr' => ?_⟩
        subst hr'
        obtain rfl := Option.some.inj h0'
        exact outG H' rfl rfl
      · replace h1' := (ifF hc').symm.trans h1'
        refine skipN ?_
        refine wpV_region ?_
        refine ops H' ?_
        refine opsN ?_
        refine wpV_region ?_
        refine ops H' ?_
        refine opsN ?_
        obtain rfl := Option.some.inj h1'
        exact shd [0, 1, 5] [] 2 ⟨_, rfl, _, _, rfl, rfl⟩
    · replace h1' := (ifF hc').symm.trans h1'
      refine exitN ?_
      obtain rfl := Option.some.inj h1'
      refine ⟨_, rfl, fun hr' => ?_⟩
      subst hr'
      exact shd [1] [] 2 ⟨_, h0', rfl⟩
  · rintro e' ⟨k_1, h0', rfl⟩
    unfold laws_heldIntS_j1 at h0'
    refine wpV_seq1 ?_
    refine wpV_region ?_
    refine ops H' ?_
    refine opsN ?_
    refine retN ?_
    obtain rfl := Option.some.inj h0'
    exact outG H' rfl rfl
theorem W_laws_FnExactLogOf (aList : List T_laws_Commit) (aVersions : List Int) (aC : Int) (r' : Bool) (h0' : laws_FnExactLogOf aList aVersions aC = some r') : Fn X 7 [.one (.list false 3 (List.map (r_T_laws_Commit false) aList)), .one (.list false 1 (List.map (rK .i64) aVersions)), .one (.sc (.int .i64 aC))] [.one (.sc (.bool r'))] [] := by
  have H' := And.intro t3 (And.intro t44 (And.intro R_T_impl_Commit (And.intro R_T_impl_Name (And.intro R_T_laws_Commit (And.intro R_T_laws_Name (R_i64))))))
  unfold laws_FnExactLogOf at h0'
  refine Fn.start (fn := f7) (N := 95) (res := [.tmp 6]) rfl rfl rfl rfl rfl (by simp) ?_
  refine enterG H' ?_
  refine wpV_seq1 ?_
  refine wpV_region ?_
  refine ops H' ?_
  refine opsN ?_
  refine wpV_seq1 ?_
  refine wpV_seq1 ?_
  refine wpV_region ?_
  refine ops H' ?_
  refine opsN ?_
  refine wpV_split (fun hc' => ?_) (fun hc' => ?_)
  · replace h0' := (ifT hc').symm.trans h0'
    refine wpV_seq1 ?_
    refine wpV_region ?_
    refine ops H' ?_
    refine opsN ?_
    refine retN ?_
    obtain rfl := Option.some.inj h0'
    exact outG H' rfl rfl
  · replace h0' := (ifF hc').symm.trans h0'
    refine skipN ?_
    refine wpV_seq1 ?_
    refine wpV_region ?_
    refine ops H' ?_
    refine opsN ?_
    refine wpV_seq1 ?_
    refine wpV_region ?_
    refine ops H' ?_
    obtain ⟨x21, hy', h0'⟩ := Option.bind_eq_some_iff.1 h0'
    refine callG H' (fun _ => []) (W_laws_szCommitS _ _ _ hy') ?_
    refine ops H' ?_
    refine opsN ?_
    refine wpV_seq1 ?_
    refine wpV_seq1 ?_
    refine wpV_region ?_
    refine ops H' ?_
    refine opsN ?_
    refine wpV_split (fun hc' => ?_) (fun hc' => ?_)
    · replace h0' := (ifT hc').symm.trans h0'
      refine wpV_seq1 ?_
      refine wpV_region ?_
      refine ops H' ?_
      refine opsN ?_
      refine retN ?_
      obtain rfl := Option.some.inj h0'
      exact outG H' rfl rfl
    · replace h0' := (ifF hc').symm.trans h0'
      refine skipN ?_
      refine wpV_seq1 ?_
      refine wpV_region ?_
      refine ops H' ?_
      obtain ⟨x25, hy', h0'⟩ := Option.bind_eq_some_iff.1 h0'
      refine callG H' (fun _ => []) (W_laws_toCommitS _ _ hy') ?_
      refine ops H' ?_
      obtain ⟨x27, hy', h0'⟩ := Option.bind_eq_some_iff.1 h0'
      refine callG H' (fun _ => []) (W_laws_toIntS _ _ hy') ?_
      refine ops H' ?_
      obtain ⟨x29, hy', h0'⟩ := Option.bind_eq_some_iff.1 h0'
      refine callG H' (fun _ => []) (W_spec_LogOf _ _ _ _ hy') ?_
      refine ops H' ?_
      refine opsN ?_
      refine wpV_seq1 ?_
      refine wpV_region ?_
      refine ops H' ?_
      obtain ⟨x31, hy', h0'⟩ := Option.bind_eq_some_iff.1 h0'
      refine callG H' (fun _ => []) (W_laws_toCommitS _ _ hy') ?_
      refine ops H' ?_
      refine opsN ?_
      refine wpV_seq1 ?_
      refine wpV_region ?_
      refine ops H' ?_
      obtain ⟨x33, hy', h0'⟩ := Option.bind_eq_some_iff.1 h0'
      refine callG H' (fun _ => []) (W_laws_toIntS _ _ hy') ?_
      refine ops H' ?_
      refine opsN ?_
      refine wpV_seq1 ?_
      refine wpV_region ?_
      refine ops H' ?_
      obtain ⟨x37, hy', h0'⟩ := Option.bind_eq_some_iff.1 h0'
      refine callG H' (fun _ => []) (W_impl_LogOf _ _ _ _ hy') ?_
      refine ops H' ?_
      refine opsN ?_
      refine wpV_seq1 ?_
      refine wpV_seq1 ?_
      refine wpV_region ?_
      refine ops H' ?_
      obtain ⟨x40, hy', h0'⟩ := Option.bind_eq_some_iff.1 h0'
      refine callG H' (fun _ => []) (W_laws_eqIntS _ _ _ hy') ?_
      refine ops H' ?_
      refine opsN ?_
      refine wpV_split (fun hc' => ?_) (fun hc' => ?_)
      · replace h0' := (ifT hc').symm.trans h0'
        refine wpV_seq1 ?_
        refine wpV_region ?_
        refine ops H' ?_
        refine opsN ?_
        refine retN ?_
        obtain rfl := Option.some.inj h0'
        exact outG H' rfl rfl
      · replace h0' := (ifF hc').symm.trans h0'
        refine skipN ?_
        refine wpV_seq1 ?_
        refine wpV_seq1 ?_
        refine wpV_region ?_
        refine ops H' ?_
        obtain ⟨x44, hy', h0'⟩ := Option.bind_eq_some_iff.1 h0'
        refine callG H' (fun _ => []) (W_laws_toCommitS _ _ hy') ?_
        obtain ⟨x45, hy', h0'⟩ := Option.bind_eq_some_iff.1 h0'
        refine callG H' (fun _ => []) (W_laws_eqCommitS _ _ _ hy') ?_
        refine ops H' ?_
        refine opsN ?_
        refine wpV_split (fun hc' => ?_) (fun hc' => ?_)
        · replace h0' := (ifT hc').symm.trans h0'
          refine wpV_seq1 ?_
          refine wpV_region ?_
          refine ops H' ?_
          refine opsN ?_
          refine retN ?_
          obtain rfl := Option.some.inj h0'
          exact outG H' rfl rfl
        · replace h0' := (ifF hc').symm.trans h0'
          refine skipN ?_
          refine wpV_seq1 ?_
          refine wpV_seq1 ?_
          refine wpV_region ?_
          refine ops H' ?_
          obtain ⟨x49, hy', h0'⟩ := Option.bind_eq_some_iff.1 h0'
          refine callG H' (fun _ => []) (W_laws_toIntS _ _ hy') ?_
          obtain ⟨x50, hy', h0'⟩ := Option.bind_eq_some_iff.1 h0'
          refine callG H' (fun _ => []) (W_laws_eqIntS _ _ _ hy') ?_
          refine ops H' ?_
          refine opsN ?_
          refine wpV_split (fun hc' => ?_) (fun hc' => ?_)
          · replace h0' := (ifT hc').symm.trans h0'
            refine wpV_seq1 ?_
            refine wpV_region ?_
            refine ops H' ?_
            refine opsN ?_
            refine retN ?_
            obtain rfl := Option.some.inj h0'
            exact outG H' rfl rfl
          · replace h0' := (ifF hc').symm.trans h0'
            refine skipN ?_
            refine wpV_seq1 ?_
            refine wpV_region ?_
            refine ops H' ?_
            refine opsN ?_
            refine wpV_seq1 ?_
            refine wpV_region ?_
            refine ops H' ?_
            obtain ⟨x54, hy', h0'⟩ := Option.bind_eq_some_iff.1 h0'
            refine callG H' (fun _ => [0]) (W_laws_markCommitS _ _ _ hy') ?_
            refine ops H' ?_
            refine opsN ?_
            refine wpV_seq1 ?_
            refine wpV_region ?_
            refine ops H' ?_
            obtain ⟨x57, hy', h0'⟩ := Option.bind_eq_some_iff.1 h0'
            refine callG H' (fun _ => [0]) (W_laws_markIntS _ _ _ hy') ?_
            refine ops H' ?_
            refine opsN ?_
            refine wpV_seq1 ?_
            refine wpV_seq1 ?_
            refine wpV_region ?_
            refine ops H' ?_
            obtain ⟨b, gh0', h0'⟩ := Option.bind_eq_some_iff.1 h0'
            refine opsV_cut 5 (fun e' => e' = { N := 95, np := 3, nx := 5, sl := [(0, .pl (.one (.v (.list false 3 (List.map (r_T_laws_Commit false) aList))))), (1, .pl (.one (.v (.list false 1 (List.map (rK .i64) aVersions))))), (2, .pl (.one (.v (.sc (.int .i64 aC))))), (8, .pl (.one (.ref 3 []))), (11, .pl (.one (.ref 4 []))), (65, .pl (.one (.v (.sc (.bool b)))))], ob := [(3, .list true 1 (List.map (rK .i64) x29)), (4, .list true 1 (List.map (rK .i64) x37))] }) ?_ ?_
            · simp only [List.take_succ_cons, List.take_zero]
              refine opsV_sp (fun hc' => ?_) (fun hc' => ?_)
              · replace gh0' := (ifF hc').symm.trans gh0'
                refine ops H' ?_
                obtain ⟨x63, hy', gh0'⟩ := Option.bind_eq_some_iff.1 gh0'
                refine callG H' (fun _ => []) (W_laws_eqIntS _ _ _ hy') ?_
                refine ops H' ?_
                obtain rfl := Option.some.inj gh0'
                refine opsV_nil ?_
                exact ⟨rfl, shd [0, 1, 2, 8, 11, 65] [(6, 3), (9, 4)] 5 rfl⟩
              · replace gh0' := (ifT hc').symm.trans gh0'
                refine ops H' ?_
                obtain rfl := Option.some.inj gh0'
                refine opsV_nil ?_
                exact ⟨rfl, shd [0, 1, 2, 8, 11, 65] [(6, 3), (9, 4)] 5 rfl⟩
            · rintro e' rfl
              simp only [List.drop_succ_cons, List.drop_zero]
              refine opsN ?_
              refine wpV_split (fun hc' => ?_) (fun hc' => ?_)
              · replace h0' := (ifT hc').symm.trans h0'
                refine wpV_seq1 ?_
                refine wpV_region ?_
                refine ops H' ?_
                refine opsN ?_
                refine retN ?_
                obtain rfl := Option.some.inj h0'
                exact outG H' rfl rfl
              · replace h0' := (ifF hc').symm.trans h0'
                refine skipN ?_
                refine wpV_seq1 ?_
                refine wpV_region ?_
                refine ops H' ?_
                refine opsN ?_
                refine wpV_seq1 ?_
                refine wpV_region ?_
                refine ops H' ?_
                obtain ⟨x68, hy', h0'⟩ := Option.bind_eq_some_iff.1 h0'
                refine callG H' (fun _ => [0]) (W_laws_markIntS _ _ _ hy') ?_
                refine ops H' ?_
                refine opsN ?_
                refine wpV_seq1 ?_
                refine wpV_region ?_
                refine ops H' ?_
                refine opsN ?_
                refine wpV_seq1 ?_
                refine wpV_region ?_
                refine ops H' ?_
                obtain ⟨x71, hy', h0'⟩ := Option.bind_eq_some_iff.1 h0'
                refine callG H' (fun _ => []) (W_laws_heldIntS _ _ _ hy') ?_
                refine ops H' ?_
                refine opsN ?_
                refine wpV_seq1 ?_
                refine wpV_seq1 ?_
                refine wpV_region ?_
                refine ops H' ?_
                refine opsN ?_
                refine wpV_split (fun hc' => ?_) (fun hc' => ?_)
                · replace h0' := (ifT hc').symm.trans h0'
                  refine wpV_seq1 ?_
                  refine wpV_region ?_
                  refine ops H' ?_
                  refine opsN ?_
                  refine retN ?_
                  obtain rfl := Option.some.inj h0'
                  exact outG H' rfl rfl
                · replace h0' := (ifF hc').symm.trans h0'
                  refine skipN ?_
                  refine wpV_seq1 ?_
                  refine wpV_seq1 ?_
                  refine wpV_region ?_
                  refine ops H' ?_
                  refine opsN ?_
                  refine wpV_split (fun hc' => ?_) (fun hc' => ?_)
                  · replace h0' := (ifT hc').symm.trans h0'
                    refine wpV_seq1 ?_
                    refine wpV_region ?_
                    refine ops H' ?_
                    refine opsN ?_
                    refine retN ?_
                    obtain rfl := Option.some.inj h0'
                    exact outG H' rfl rfl
                  · replace h0' := (ifF hc').symm.trans h0'
                    refine skipN ?_
                    refine wpV_seq1 ?_
                    refine wpV_region ?_
                    refine ops H' ?_
                    obtain ⟨x78, hy', h0'⟩ := Option.bind_eq_some_iff.1 h0'
                    refine callG H' (fun _ => []) (W_laws_toCommitS _ _ hy') ?_
                    refine ops H' ?_
                    obtain ⟨x80, hy', h0'⟩ := Option.bind_eq_some_iff.1 h0'
                    refine callG H' (fun _ => []) (W_laws_toIntS _ _ hy') ?_
                    refine ops H' ?_
                    obtain ⟨x82, hy', h0'⟩ := Option.bind_eq_some_iff.1 h0'
                    refine callG H' (fun _ => []) (W_impl_LogOf _ _ _ _ hy') ?_
                    refine ops H' ?_
                    refine opsN ?_
                    refine wpV_seq1 ?_
                    refine wpV_seq1 ?_
                    refine wpV_region ?_
                    refine ops H' ?_
                    obtain ⟨x85, hy', h0'⟩ := Option.bind_eq_some_iff.1 h0'
                    refine callG H' (fun _ => []) (W_laws_eqIntS _ _ _ hy') ?_
                    refine ops H' ?_
                    refine opsN ?_
                    refine wpV_split (fun hc' => ?_) (fun hc' => ?_)
                    · replace h0' := (ifT hc').symm.trans h0'
                      refine wpV_seq1 ?_
                      refine wpV_region ?_
                      refine ops H' ?_
                      refine opsN ?_
                      refine retN ?_
                      obtain rfl := Option.some.inj h0'
                      exact outG H' rfl rfl
                    · replace h0' := (ifF hc').symm.trans h0'
                      refine skipN ?_
                      refine wpV_seq1 ?_
                      refine wpV_region ?_
                      refine ops H' ?_
                      refine opsN ?_
                      refine wpV_seq1 ?_
                      refine wpV_region ?_
                      refine ops H' ?_
                      obtain ⟨x89, hy', h0'⟩ := Option.bind_eq_some_iff.1 h0'
                      refine callG H' (fun _ => []) (W_laws_heldIntS _ _ _ hy') ?_
                      refine ops H' ?_
                      refine opsN ?_
                      refine wpV_seq1 ?_
                      refine wpV_seq1 ?_
                      refine wpV_region ?_
                      refine ops H' ?_
                      refine opsN ?_
                      refine wpV_split (fun hc' => ?_) (fun hc' => ?_)
                      · replace h0' := (ifT hc').symm.trans h0'
                        refine wpV_seq1 ?_
                        refine wpV_region ?_
                        refine ops H' ?_
                        refine opsN ?_
                        refine retN ?_
                        obtain rfl := Option.some.inj h0'
                        exact outG H' rfl rfl
                      · replace h0' := (ifF hc').symm.trans h0'
                        refine skipN ?_
                        refine wpV_seq1 ?_
                        refine wpV_seq1 ?_
                        refine wpV_region ?_
                        refine ops H' ?_
                        refine opsN ?_
                        refine wpV_split (fun hc' => ?_) (fun hc' => ?_)
                        · replace h0' := (ifT hc').symm.trans h0'
                          refine wpV_seq1 ?_
                          refine wpV_region ?_
                          refine ops H' ?_
                          refine opsN ?_
                          refine retN ?_
                          obtain rfl := Option.some.inj h0'
                          exact outG H' rfl rfl
                        · replace h0' := (ifF hc').symm.trans h0'
                          refine skipN ?_
                          refine wpV_seq1 ?_
                          refine wpV_region ?_
                          refine ops H' ?_
                          refine opsN ?_
                          refine retN ?_
                          obtain rfl := Option.some.inj h0'
                          exact outG H' rfl rfl
end Go.TV.KFnExactLogOf
