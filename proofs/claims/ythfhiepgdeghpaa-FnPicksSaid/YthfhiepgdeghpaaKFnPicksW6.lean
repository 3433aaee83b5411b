/- Walks. -/
import Derived.Test.YthfhiepgdeghpaaKFnPicksE
import Derived.Test.YthfhiepgdeghpaaKFnPicksW0
import Derived.Test.YthfhiepgdeghpaaKFnPicksW3
import Derived.Test.YthfhiepgdeghpaaKFnPicksW4
import Derived.Test.YthfhiepgdeghpaaKFnPicksW5
set_option linter.unusedVariables false
set_option linter.unusedSimpArgs false
set_option maxHeartbeats 8000000
set_option maxRecDepth 100000
namespace Go.TV.KFnPicks
attribute [local irreducible] anyV wpV opsV Does thenV blockV RetL quV seqV
open Go.Proofs.Try Go.TV.F
theorem W_impl_UndoOn (w : T_impl_Weave) (onto : Int) (v : Int) (r' : (List ByteArray) × Int × Int) (h0' : impl_UndoOn w onto v = some r') : Fn X 52 [.agg [.list false 1 (List.map (rL false 1 (rK .i64)) w.Parents), .list false 4 (List.map (r_T_impl_Body false) w.Bodies)], .one (.sc (.int .i64 onto)), .one (.sc (.int .i64 v))] [.one (.list true 1 (List.map rS r'.1)), .one (.sc (.int .i64 r'.2.1)), .one (.sc (.int .i64 r'.2.2))] [] := by
  have H' := And.intro t3 (And.intro t38 (And.intro t41 (And.intro t44 (And.intro t133 (And.intro t137 (And.intro R_Li64 (And.intro R_T_impl_Body (And.intro R_i64 (And.intro R_s (R_u64))))))))))
  unfold impl_UndoOn at h0'
  refine Fn.start (fn := f52) (N := 36) (res := [.tmp 6, .tmp 7, .tmp 8]) rfl rfl rfl rfl rfl (by simp) ?_
  refine enterG H' ?_
  refine wpV_seq1 ?_
  refine wpV_region ?_
  refine ops H' ?_
  refine opsN ?_
  refine wpV_seq1 ?_
  refine wpV_seq1 ?_
  refine wpV_region ?_
  refine ops H' ?_
  obtain ⟨x17, hy', h0'⟩ := Option.bind_eq_some_iff.1 h0'
  refine callG H' (fun _ => []) (W_impl_versionsCode _ _ _ hy') ?_
  refine ops H' ?_
  refine opsN ?_
  refine wpV_seq1 ?_
  refine wpV_region ?_
  refine ops H' ?_
  refine opsN ?_
  refine wpV_split (fun hc' => ?_) (fun hc' => ?_)
  · replace h0' := (ifT hc').symm.trans h0'
    refine wpV_seq1 ?_
    refine wpV_region ?_
    refine ops H' ?_
    refine opsN ?_
    refine retN ?_
    obtain rfl := Option.some.inj h0'
    exact outG H' rfl rfl
  · replace h0' := (ifF hc').symm.trans h0'
    refine skipN ?_
    refine wpV_seq1 ?_
    refine wpV_region ?_
    refine ops H' ?_
    obtain ⟨x23, hy', h0'⟩ := Option.bind_eq_some_iff.1 h0'
    refine callG H' (fun _ => []) (W_impl_closures _ _ hy') ?_
    obtain ⟨x, hv', h0'⟩ := Option.bind_eq_some_iff.1 h0'
    have H' := And.intro (geti_f hv') H'
    refine ops H' ?_
    refine opsN ?_
    refine wpV_seq1 ?_
    refine wpV_region ?_
    refine ops H' ?_
    refine opsV_frz H' 10 ?_
    refine opsV_frz H' 5 ?_
    refine opsV_mkF H' ?_
    refine opsV_mkF H' ?_
    obtain ⟨x31, hy', h0'⟩ := Option.bind_eq_some_iff.1 h0'
    refine callG H' (fun _ => []) (W_impl_pickBy__2__2 _ (fun z0' => impl_UndoOn_c1 z0' x v) _ _ _ (fun z0' r' h' => W_impl_UndoOn_c1 z0' _ _ r' h') (fun z0' => impl_UndoOn_c2 z0' v x) _ _ _ (fun z0' r' h' => W_impl_UndoOn_c2 z0' _ _ r' h') _ hy') ?_
    refine ops H' ?_
    refine opsN ?_
    refine wpV_seq1 ?_
    refine wpV_region ?_
    refine ops H' ?_
    refine opsN ?_
    refine retN ?_
    obtain rfl := Option.some.inj h0'
    exact outG H' rfl rfl
theorem W_laws_sameTexts (a : List ByteArray) (b : List ByteArray) (r' : Bool) (h0' : laws_sameTexts a b = some r') : Fn X 50 [.one (.list false 1 (List.map rS a)), .one (.list false 1 (List.map rS b))] [.one (.sc (.bool r'))] [] := by
  have H' := And.intro t3 (And.intro t9 (And.intro t55 (R_s)))
  unfold laws_sameTexts at h0'
  refine Fn.start (fn := f50) (N := 26) (res := [.tmp 4]) rfl rfl rfl rfl rfl (by simp) ?_
  refine enterG H' ?_
  refine wpV_seq1 ?_
  refine wpV_region ?_
  refine ops H' ?_
  refine opsN ?_
  refine wpV_seq1 ?_
  refine wpV_seq1 ?_
  refine wpV_region ?_
  refine ops H' ?_
  refine opsN ?_
  refine wpV_split (fun hc' => ?_) (fun hc' => ?_)
  · replace h0' := (ifT hc').symm.trans h0'
    refine wpV_seq1 ?_
    refine wpV_region ?_
    refine ops H' ?_
    refine opsN ?_
    refine retN ?_
    obtain rfl := Option.some.inj h0'
    exact outG H' rfl rfl
  · replace h0' := (ifF hc').symm.trans h0'
    refine skipN ?_
    refine wpV_seqJ (fun e' => laws_sameTexts_j1 = some r' ∧ e' = { N := 26, np := 2, nx := 2, sl := [], ob := [] }) ?_ ?_
    · refine wpV_seq1 ?_
      refine wpV_region ?_
      refine ops H' ?_
      refine opsN ?_
      obtain ⟨p, hl', h0'⟩ := Option.bind_eq_some_iff.1 h0'
      refine wpV_block ?_
      refine wpV_loopM (fun i e' => e' = { N := 26, np := 2, nx := 2, sl := [(0, .pl (.one (.v (.list false 1 (List.map rS a))))), (1, .pl (.one (.v (.list false 1 (List.map rS b))))), (5, .pl (.one (.v (.sc (.int .i64 i)))))], ob := [] }) hl' (shd [0, 1, 5] [] 2 rfl) ?_
      rintro i y1' e' h1' rfl
      replace h1' : laws_sameTexts_l1 a b i = some y1' := h1'
      unfold laws_sameTexts_l1 at h1'
      refine wpV_seq1 ?_
      refine wpV_seq1 ?_
      refine wpV_region ?_
      refine ops H' ?_
      refine opsN ?_
      refine wpV_split (fun hc' => ?_) (fun hc' => ?_)
      · replace h1' := (ifT hc').symm.trans h1'
        refine skipN ?_
        refine wpV_seq1 ?_
        refine wpV_block ?_
        refine wpV_seq1 ?_
        refine regQ ?_
        obtain ⟨x, hv', h1'⟩ := Option.bind_eq_some_iff.1 h1'
        have H' := And.intro (geti_f hv') H'
        obtain ⟨x_1, hv', h1'⟩ := Option.bind_eq_some_iff.1 h1'
        have H' := And.intro (geti_f hv') H'
        refine ops H' ?_
        refine quN ?_
        refine wpV_split (fun hc' => ?_) (fun hc' => ?_)
        · replace h1' := (ifT hc').symm.trans h1'
          refine wpV_seq1 ?_
          refine wpV_region ?_
          refine ops H' ?_
          refine opsN ?_
          refine retN ?_
          obtain rfl := Option.some.inj h1'
          refine ⟨_, rfl, fun hr' => ?_⟩
          subst hr'
          obtain rfl := Option.some.inj h0'
          exact outG H' rfl rfl
        · replace h1' := (ifF hc').symm.trans h1'
          refine skipN ?_
          refine wpV_region ?_
          refine ops H' ?_
          refine opsN ?_
          obtain rfl := Option.some.inj h1'
          exact shd [0, 1, 5] [] 2 ⟨_, rfl, rfl⟩
      · replace h1' := (ifF hc').symm.trans h1'
        refine exitN ?_
        obtain rfl := Option.some.inj h1'
        refine ⟨_, rfl, fun hr' => ?_⟩
        subst hr'
        exact shd [] [] 2 ⟨h0', rfl⟩
    · rintro e' ⟨h0', rfl⟩
      unfold laws_sameTexts_j1 at h0'
      refine wpV_seq1 ?_
      refine wpV_region ?_
      refine ops H' ?_
      refine opsN ?_
      refine retN ?_
      obtain rfl := Option.some.inj h0'
      exact outG H' rfl rfl
theorem W_spec_SeenBy (w : T_impl_Weave) (parents : List Int) (r' : (List ByteArray)) (h0' : spec_SeenBy w parents = some r') : Fn X 55 [.agg [.list false 1 (List.map (rL false 1 (rK .i64)) w.Parents), .list false 4 (List.map (r_T_impl_Body false) w.Bodies)], .one (.list false 1 (List.map (rK .i64) parents))] [.one (.list true 1 (List.map rS r'))] [] := by
  have H' := And.intro t3 (And.intro t9 (And.intro t41 (And.intro t44 (And.intro t55 (And.intro R_Li64 (And.intro R_T_impl_Body (And.intro R_i64 (R_s))))))))
  unfold spec_SeenBy at h0'
  refine Fn.start (fn := f55) (N := 32) (res := [.tmp 4]) rfl rfl rfl rfl rfl (by simp) ?_
  refine enterG H' ?_
  refine wpV_seq1 ?_
  refine wpV_region ?_
  refine ops H' ?_
  refine opsN ?_
  refine wpV_seq1 ?_
  refine wpV_region ?_
  refine ops H' ?_
  obtain ⟨x8, hy', h0'⟩ := Option.bind_eq_some_iff.1 h0'
  refine callG H' (fun _ => []) (W_spec_WeaveOk _ _ hy') ?_
  refine ops H' ?_
  refine opsN ?_
  refine wpV_seqJ (fun e' => ∃ ok, spec_SeenBy_j1 w parents ok = some r' ∧ e' = { N := 32, np := 3, nx := 4, sl := [(1, .pl (.one (.v (.list false 1 (List.map (rK .i64) parents))))), (2, .pl (.one (.ref 3 []))), (5, .pl (.one (.v (.sc (.bool ok)))))], ob := [(3, .box true [.list false 1 (List.map (rL false 1 (rK .i64)) w.Parents), .list false 4 (List.map (r_T_impl_Body false) w.Bodies)])] }) ?_ ?_
  · refine wpV_seq1 ?_
    refine wpV_region ?_
    refine ops H' ?_
    refine opsN ?_
    obtain ⟨p, hl', h0'⟩ := Option.bind_eq_some_iff.1 h0'
    refine wpV_block ?_
    refine wpV_loopM (fun s' e' => ∃ ok_1 i, s' = (ok_1, i) ∧ e' = { N := 32, np := 3, nx := 4, sl := [(1, .pl (.one (.v (.list false 1 (List.map (rK .i64) parents))))), (2, .pl (.one (.ref 3 []))), (5, .pl (.one (.v (.sc (.bool ok_1))))), (6, .pl (.one (.v (.sc (.int .i64 i)))))], ob := [(3, .box true [.list false 1 (List.map (rL false 1 (rK .i64)) w.Parents), .list false 4 (List.map (r_T_impl_Body false) w.Bodies)])] }) hl' (shd [1, 2, 5, 6] [(3, 3)] 4 ⟨_, _, rfl, rfl⟩) ?_
    rintro s' y1' e' h1' ⟨ok_1, i, rfl, rfl⟩
    replace h1' : spec_SeenBy_l1 w parents ok_1 i = some y1' := h1'
    unfold spec_SeenBy_l1 at h1'
    refine wpV_seq1 ?_
    refine wpV_seq1 ?_
    refine wpV_region ?_
    refine ops H' ?_
    obtain ⟨b, gh1', h1'⟩ := Option.bind_eq_some_iff.1 h1'
    refine opsV_cut 2 (fun e' => e' = { N := 32, np := 3, nx := 4, sl := [(1, .pl (.one (.v (.list false 1 (List.map (rK .i64) parents))))), (2, .pl (.one (.ref 3 []))), (5, .pl (.one (.v (.sc (.bool ok_1))))), (6, .pl (.one (.v (.sc (.int .i64 i))))), (15, .pl (.one (.v (.sc (.bool b)))))], ob := [(3, .box true [.list false 1 (List.map (rL false 1 (rK .i64)) w.Parents), .list false 4 (List.map (r_T_impl_Body false) w.Bodies)])] }) ?_ ?_
    · simp only [List.take_succ_cons, List.take_zero]
      refine opsV_sp (fun hc' => ?_) (fun hc' => ?_)
      · replace gh1' := (ifT hc').symm.trans gh1'
        refine ops H' ?_
        obtain rfl := Option.some.inj gh1'
        refine opsV_nil ?_
        exact ⟨rfl, shd [1, 2, 5, 6, 15] [(3, 3)] 4 rfl⟩
      · replace gh1' := (ifF hc').symm.trans gh1'
        refine ops H' ?_
        obtain rfl := Option.some.inj gh1'
        refine opsV_nil ?_
        exact ⟨rfl, shd [1, 2, 5, 6, 15] [(3, 3)] 4 rfl⟩
    · rintro e' rfl
      simp only [List.drop_succ_cons, List.drop_zero]
      refine opsN ?_
      refine wpV_split (fun hc' => ?_) (fun hc' => ?_)
      · replace h1' := (ifT hc').symm.trans h1'
        refine skipN ?_
        refine wpV_seq1 ?_
        refine wpV_block ?_
        refine regQ ?_
        obtain ⟨x, hv', h1'⟩ := Option.bind_eq_some_iff.1 h1'
        have H' := And.intro (geti_f hv') H'
        refine ops H' ?_
        obtain ⟨x23, hy', h1'⟩ := Option.bind_eq_some_iff.1 h1'
        refine callGQ H' (W_spec_l06Has _ _ _ hy') ?_
        refine ops H' ?_
        refine quN ?_
        refine wpV_region ?_
        refine ops H' ?_
        refine opsN ?_
        obtain rfl := Option.some.inj h1'
        exact shd [1, 2, 5, 6] [(3, 3)] 4 ⟨_, rfl, _, _, rfl, rfl⟩
      · replace h1' := (ifF hc').symm.trans h1'
        refine exitN ?_
        obtain rfl := Option.some.inj h1'
        refine ⟨_, rfl, fun hr' => ?_⟩
        subst hr'
        exact shd [1, 2, 5] [(3, 3)] 4 ⟨_, h0', rfl⟩
  · rintro e' ⟨ok, h0', rfl⟩
    unfold spec_SeenBy_j1 at h0'
    refine wpV_seq1 ?_
    refine wpV_seq1 ?_
    refine wpV_region ?_
    refine ops H' ?_
    refine opsN ?_
    refine wpV_split (fun hc' => ?_) (fun hc' => ?_)
    · replace h0' := (ifT hc').symm.trans h0'
      refine wpV_seq1 ?_
      refine wpV_region ?_
      refine ops H' ?_
      refine opsN ?_
      refine retN ?_
      obtain rfl := Option.some.inj h0'
      exact outG H' rfl rfl
    · replace h0' := (ifF hc').symm.trans h0'
      refine skipN ?_
      refine wpV_seq1 ?_
      obtain ⟨x30, hy_x30, h0'⟩ := Option.bind_eq_some_iff.1 h0'
      obtain ⟨x31, hy_x31, h0'⟩ := Option.bind_eq_some_iff.1 h0'
      refine wpV_J (fun e' => e' = { N := 32, np := 3, nx := 4, sl := [(4, .pl (.one (.ref 3 [])))], ob := [(3, .list true 1 (List.map rS x31))] }) ?_ ?_
      · refine regAnyF [(0, 27, .pl (.agg [.v (.list false 1 (List.map (rL false 1 (rK .i64)) w.Parents)), .v (.list false 4 (List.map (r_T_impl_Body false) w.Bodies))])), (1, 28, .pl (.agg [.v (.list false 1 (List.map (rL false 1 (rK .i64)) w.Parents)), .v (.list false 4 (List.map (r_T_impl_Body false) w.Bodies))]))] ?_
        refine (?_ : anyF X ?ops8_0_0 _ _ ?P8_0_0 _)
        have d8_0_0_0' : anyF X ?ops8_0_0 [0, 1, 2, 3, 4, 5] [] ?P8_0_0 { N := 32, np := 3, nx := 4, sl := [(4, .pl (.one (.ref 3 [])))], ob := [(3, .list true 1 (List.map rS x31))] } := by
          refine fend (e2 := { N := 32, np := 3, nx := 4, sl := [(4, .pl (.one (.ref 3 [])))], ob := [(3, .list true 1 (List.map rS x31))] }) [] [] [] [] trivial ⟨rfl, shd [4] [(3, 3)] 4 rfl⟩
        have d8_0_0_1' : anyF X ?ops8_0_0 [0, 1, 2, 3, 4] [] ?P8_0_0 { N := 32, np := 3, nx := 4, sl := [(31, .pl (.one (.ref 3 [])))], ob := [(3, .list true 1 (List.map rS x31))] } := by
          refine fnode [] [.m 5 [] [0, 1, 2, 3, 4, 5] []] [] [(5, false, [], [0, 1, 2, 3, 4, 5])] ⟨?_, trivial⟩
          · refine obM ?_
            refine ops H' ?_
            refine opsV_nil ⟨rfl, .inl ⟨rfl, ?_⟩⟩
            exact anyFShd [4] [(3, 3)] 4 d8_0_0_0'
        have d8_0_0_2' : anyF X ?ops8_0_0 [1, 2, 3] [(0, 27, .pl (.agg [.v (.list false 1 (List.map (rL false 1 (rK .i64)) w.Parents)), .v (.list false 4 (List.map (r_T_impl_Body false) w.Bodies))]))] ?P8_0_0 { N := 32, np := 3, nx := 5, sl := [(2, .pl (.one (.ref 3 []))), (30, .pl (.one (.ref 4 [])))], ob := [(3, .box true [.list false 1 (List.map (rL false 1 (rK .i64)) w.Parents), .list false 4 (List.map (r_T_impl_Body false) w.Bodies)]), (4, .list true 1 (List.map (rK .i64) x30))] } := by
          refine fnode [0] [.q 0 27 (.pl (.agg [.v (.list false 1 (List.map (rL false 1 (rK .i64)) w.Parents)), .v (.list false 4 (List.map (r_T_impl_Body false) w.Bodies))])) [], .m 4 [0] [0, 1, 2, 3, 4] []] [(0, 27)] [(0, true, [], []), (4, false, [0], [0, 1, 2, 3, 4])] ⟨?_, ?_, trivial⟩
          · refine obQ 0 ?_
            refine ops H' ?_
            refine opsV_nil ⟨rfl, shd [27, 2, 30] [(3, 3), (4, 4)] 5 rfl⟩
          · refine obM ?_
            refine callG H' (fun _ => []) (W_spec_l06Lines _ _ _ hy_x31) ?_
            refine opsV_nil ⟨rfl, .inl ⟨rfl, ?_⟩⟩
            exact anyFShd [31] [(5, 3)] 4 d8_0_0_1'
        have d8_0_0_3' : anyF X ?ops8_0_0 [2] [(0, 27, .pl (.agg [.v (.list false 1 (List.map (rL false 1 (rK .i64)) w.Parents)), .v (.list false 4 (List.map (r_T_impl_Body false) w.Bodies))])), (1, 28, .pl (.agg [.v (.list false 1 (List.map (rL false 1 (rK .i64)) w.Parents)), .v (.list false 4 (List.map (r_T_impl_Body false) w.Bodies))]))] ?P8_0_0 { N := 32, np := 3, nx := 4, sl := [(2, .pl (.one (.ref 3 []))), (29, .pl (.one (.v (.list false 1 (List.map (rK .i64) parents)))))], ob := [(3, .box true [.list false 1 (List.map (rL false 1 (rK .i64)) w.Parents), .list false 4 (List.map (r_T_impl_Body false) w.Bodies)])] } := by
          refine fnode [0, 1] [.q 0 27 (.pl (.agg [.v (.list false 1 (List.map (rL false 1 (rK .i64)) w.Parents)), .v (.list false 4 (List.map (r_T_impl_Body false) w.Bodies))])) [], .q 1 28 (.pl (.agg [.v (.list false 1 (List.map (rL false 1 (rK .i64)) w.Parents)), .v (.list false 4 (List.map (r_T_impl_Body false) w.Bodies))])) [], .m 3 [1] [1, 2, 3] [(0, 27, .pl (.agg [.v (.list false 1 (List.map (rL false 1 (rK .i64)) w.Parents)), .v (.list false 4 (List.map (r_T_impl_Body false) w.Bodies))]))]] [(0, 27), (1, 28)] [(0, true, [], []), (1, true, [], []), (3, false, [1], [1, 2, 3])] ⟨?_, ?_, ?_, trivial⟩
          · refine obQ 0 ?_
            refine ops H' ?_
            refine opsV_nil ⟨rfl, shd [27, 2, 29] [(3, 3)] 4 rfl⟩
          · refine obQ 1 ?_
            refine ops H' ?_
            refine opsV_nil ⟨rfl, shd [28, 2, 29] [(3, 3)] 4 rfl⟩
          · refine obM ?_
            refine callG H' (fun _ => []) (W_spec_l06Seen _ _ _ hy_x30) ?_
            refine opsV_nil ⟨rfl, .inl ⟨rfl, ?_⟩⟩
            exact anyFShd [2, 30] [(3, 3), (4, 4)] 5 d8_0_0_2'
        refine fpure H' 2 [2] [(0, 27), (1, 28)] ?_
        exact anyFShd [2, 29] [(3, 3)] 4 d8_0_0_3'
      · rintro e' rfl
        refine contN ?_
        refine retN ?_
        obtain rfl := Option.some.inj h0'
        exact outG H' rfl rfl
theorem W_laws_FnPicks (code : List Int) (r' : Bool) (h0' : laws_FnPicks code = some r') : Fn X 11 [.one (.list false 1 (List.map (rK .u8) code))] [.one (.sc (.bool r'))] [] := by
  have H' := And.intro t3 (And.intro t38 (And.intro t41 (And.intro t44 (And.intro R_Li64 (And.intro R_T_impl_Body (And.intro R_i64 (And.intro R_s (R_u8))))))))
  unfold laws_FnPicks at h0'
  refine Fn.start (fn := f11) (N := 118) (res := [.tmp 2]) rfl rfl rfl rfl rfl (by simp) ?_
  refine enterG H' ?_
  refine wpV_seq1 ?_
  refine wpV_region ?_
  refine ops H' ?_
  refine opsN ?_
  refine wpV_seq1 ?_
  refine wpV_seq1 ?_
  refine wpV_region ?_
  refine ops H' ?_
  obtain ⟨x19, hy', h0'⟩ := Option.bind_eq_some_iff.1 h0'
  refine callG H' (fun _ => []) (W_laws_big _ _ hy') ?_
  refine opsN ?_
  refine wpV_split (fun hc' => ?_) (fun hc' => ?_)
  · replace h0' := (ifT hc').symm.trans h0'
    refine wpV_seq1 ?_
    refine wpV_region ?_
    refine ops H' ?_
    refine opsN ?_
    refine retN ?_
    obtain rfl := Option.some.inj h0'
    exact outG H' rfl rfl
  · replace h0' := (ifF hc').symm.trans h0'
    refine skipN ?_
    refine wpV_seq1 ?_
    refine wpV_region ?_
    refine ops H' ?_
    obtain ⟨x22, hy', h0'⟩ := Option.bind_eq_some_iff.1 h0'
    refine callG H' (fun _ => []) (W_spec_DrawPair _ _ hy') ?_
    refine ops H' ?_
    refine opsN ?_
    refine wpV_seqJ (fun e' => laws_FnPicks_j1 x22 = some r' ∧ e' = { N := 118, np := 1, nx := 2, sl := [(3, .pl (.one (.ref 1 [])))], ob := [(1, .box true [.list true 1 (List.map (rL true 1 (rK .i64)) x22.1.Parents), .list true 4 (List.map (r_T_impl_Body true) x22.1.Bodies)])] }) ?_ ?_
    · refine wpV_seq1 ?_
      refine wpV_region ?_
      refine ops H' ?_
      refine opsN ?_
      obtain ⟨p, hl', h0'⟩ := Option.bind_eq_some_iff.1 h0'
      refine wpV_block ?_
      refine wpV_loopM (fun v e' => e' = { N := 118, np := 1, nx := 2, sl := [(3, .pl (.one (.ref 1 []))), (6, .pl (.one (.v (.sc (.int .i64 v)))))], ob := [(1, .box true [.list true 1 (List.map (rL true 1 (rK .i64)) x22.1.Parents), .list true 4 (List.map (r_T_impl_Body true) x22.1.Bodies)])] }) hl' (shd [3, 6] [(6, 1)] 2 rfl) ?_
      rintro v y1' e' h1' rfl
      replace h1' : laws_FnPicks_l1 x22 v = some y1' := h1'
      unfold laws_FnPicks_l1 at h1'
      refine wpV_seq1 ?_
      refine wpV_seq1 ?_
      refine wpV_region ?_
      refine ops H' ?_
      refine opsN ?_
      refine wpV_split (fun hc' => ?_) (fun hc' => ?_)
      · replace h1' := (ifT hc').symm.trans h1'
        refine skipN ?_
        refine wpV_seq1 ?_
        refine wpV_block ?_
        refine wpV_seq1 ?_
        refine wpV_region ?_
        refine ops H' ?_
        obtain ⟨x36, hy', h1'⟩ := Option.bind_eq_some_iff.1 h1'
        refine callG H' (fun _ => []) (W_spec_Extract _ _ _ hy') ?_
        refine ops H' ?_
        refine opsN ?_
        refine wpV_seq1 ?_
        refine wpV_region ?_
        refine ops H' ?_
        obtain ⟨x43, hy', h1'⟩ := Option.bind_eq_some_iff.1 h1'
        refine callG H' (fun _ => []) (W_impl_PickOn _ _ _ _ hy') ?_
        refine ops H' ?_
        refine opsN ?_
        refine wpV_seq1 ?_
        refine wpV_region ?_
        refine ops H' ?_
        obtain ⟨x51, hy', h1'⟩ := Option.bind_eq_some_iff.1 h1'
        refine callG H' (fun _ => []) (W_impl_UndoOn _ _ _ _ hy') ?_
        refine ops H' ?_
        refine opsN ?_
        refine wpV_seq1 ?_
        refine wpV_seq1 ?_
        refine wpV_region ?_
        refine ops H' ?_
        obtain ⟨b, gh1', h1'⟩ := Option.bind_eq_some_iff.1 h1'
        refine opsV_cut 3 (fun e' => e' = { N := 118, np := 1, nx := 5, sl := [(3, .pl (.one (.ref 1 []))), (6, .pl (.one (.v (.sc (.int .i64 v))))), (7, .pl (.one (.ref 2 []))), (9, .pl (.one (.ref 3 []))), (12, .pl (.one (.ref 4 []))), (13, .pl (.one (.v (.sc (.int .i64 x51.2.1))))), (60, .pl (.one (.v (.sc (.bool b)))))], ob := [(1, .box true [.list true 1 (List.map (rL true 1 (rK .i64)) x22.1.Parents), .list true 4 (List.map (r_T_impl_Body true) x22.1.Bodies)]), (2, .list true 1 (List.map rS x36.1)), (3, .list true 1 (List.map rS x43.1)), (4, .list true 1 (List.map rS x51.1))] }) ?_ ?_
        · simp only [List.take_succ_cons, List.take_zero]
          refine opsV_sp (fun hc' => ?_) (fun hc' => ?_)
          · replace gh1' := (ifF hc').symm.trans gh1'
            refine ops H' ?_
            obtain rfl := Option.some.inj gh1'
            refine opsV_nil ?_
            exact ⟨rfl, shd [3, 6, 7, 9, 12, 13, 60] [(1, 1), (2, 2), (4, 3), (7, 4)] 5 rfl⟩
          · replace gh1' := (ifT hc').symm.trans gh1'
            refine ops H' ?_
            obtain rfl := Option.some.inj gh1'
            refine opsV_nil ?_
            exact ⟨rfl, shd [3, 6, 7, 9, 12, 13, 60] [(1, 1), (2, 2), (4, 3), (7, 4)] 5 rfl⟩
        · rintro e' rfl
          simp only [List.drop_succ_cons, List.drop_zero]
          refine ops H' ?_
          obtain ⟨b_1, gh1', h1'⟩ := Option.bind_eq_some_iff.1 h1'
          refine opsV_cut 3 (fun e' => e' = { N := 118, np := 1, nx := 5, sl := [(3, .pl (.one (.ref 1 []))), (6, .pl (.one (.v (.sc (.int .i64 v))))), (7, .pl (.one (.ref 2 []))), (9, .pl (.one (.ref 3 []))), (12, .pl (.one (.ref 4 []))), (64, .pl (.one (.v (.sc (.bool b_1)))))], ob := [(1, .box true [.list true 1 (List.map (rL true 1 (rK .i64)) x22.1.Parents), .list true 4 (List.map (r_T_impl_Body true) x22.1.Bodies)]), (2, .list true 1 (List.map rS x36.1)), (3, .list true 1 (List.map rS x43.1)), (4, .list true 1 (List.map rS x51.1))] }) ?_ ?_
          · simp only [List.take_succ_cons, List.take_zero]
            refine opsV_sp (fun hc' => ?_) (fun hc' => ?_)
            · replace gh1' := (ifF hc').symm.trans gh1'
              refine ops H' ?_
              obtain rfl := Option.some.inj gh1'
              refine opsV_nil ?_
              exact ⟨rfl, shd [3, 6, 7, 9, 12, 64] [(1, 1), (2, 2), (3, 3), (4, 4)] 5 rfl⟩
            · replace gh1' := (ifT hc').symm.trans gh1'
              refine ops H' ?_
              obtain rfl := Option.some.inj gh1'
              refine opsV_nil ?_
              exact ⟨rfl, shd [3, 6, 7, 9, 12, 64] [(1, 1), (2, 2), (3, 3), (4, 4)] 5 rfl⟩
          · rintro e' rfl
            simp only [List.drop_succ_cons, List.drop_zero]
            refine ops H' ?_
            obtain ⟨b_2, gh1', h1'⟩ := Option.bind_eq_some_iff.1 h1'
            refine opsV_cut 5 (fun e' => e' = { N := 118, np := 1, nx := 4, sl := [(3, .pl (.one (.ref 1 []))), (6, .pl (.one (.v (.sc (.int .i64 v))))), (7, .pl (.one (.ref 2 []))), (12, .pl (.one (.ref 3 []))), (70, .pl (.one (.v (.sc (.bool b_2)))))], ob := [(1, .box true [.list true 1 (List.map (rL true 1 (rK .i64)) x22.1.Parents), .list true 4 (List.map (r_T_impl_Body true) x22.1.Bodies)]), (2, .list true 1 (List.map rS x36.1)), (3, .list true 1 (List.map rS x51.1))] }) ?_ ?_
            · simp only [List.take_succ_cons, List.take_zero]
              refine opsV_sp (fun hc' => ?_) (fun hc' => ?_)
              · replace gh1' := (ifF hc').symm.trans gh1'
                refine ops H' ?_
                obtain ⟨x68, hy', gh1'⟩ := Option.bind_eq_some_iff.1 gh1'
                refine callG H' (fun _ => []) (W_laws_sameTexts _ _ _ hy') ?_
                refine ops H' ?_
                obtain rfl := Option.some.inj gh1'
                refine opsV_nil ?_
                exact ⟨rfl, shd [3, 6, 7, 12, 70] [(1, 1), (2, 2), (4, 3)] 4 rfl⟩
              · replace gh1' := (ifT hc').symm.trans gh1'
                refine ops H' ?_
                obtain rfl := Option.some.inj gh1'
                refine opsV_nil ?_
                exact ⟨rfl, shd [3, 6, 7, 12, 70] [(1, 1), (2, 2), (4, 3)] 4 rfl⟩
            · rintro e' rfl
              simp only [List.drop_succ_cons, List.drop_zero]
              refine opsN ?_
              refine wpV_split (fun hc' => ?_) (fun hc' => ?_)
              · replace h1' := (ifT hc').symm.trans h1'
                refine wpV_seq1 ?_
                refine wpV_region ?_
                refine ops H' ?_
                refine opsN ?_
                refine retN ?_
                obtain rfl := Option.some.inj h1'
                refine ⟨_, rfl, fun hr' => ?_⟩
                subst hr'
                obtain rfl := Option.some.inj h0'
                exact outG H' rfl rfl
              · replace h1' := (ifF hc').symm.trans h1'
                refine skipN ?_
                refine wpV_seq1 ?_
                refine wpV_seq1 ?_
                obtain ⟨x, hv', h1'⟩ := Option.bind_eq_some_iff.1 h1'
                have H' := And.intro (geti_f hv') H'
                obtain ⟨x78, hy_x78, h1'⟩ := Option.bind_eq_some_iff.1 h1'
                obtain ⟨x79, hy_x79, h1'⟩ := Option.bind_eq_some_iff.1 h1'
                refine wpV_J (fun e' => e' = { N := 118, np := 1, nx := 3, sl := [(3, .pl (.one (.ref 1 []))), (6, .pl (.one (.v (.sc (.int .i64 v))))), (7, .pl (.one (.ref 2 []))), (80, .pl (.one (.v (.sc (.bool (!x79))))))], ob := [(1, .box true [.list true 1 (List.map (rL true 1 (rK .i64)) x22.1.Parents), .list true 4 (List.map (r_T_impl_Body true) x22.1.Bodies)]), (2, .list true 1 (List.map rS x36.1))] }) ?_ ?_
                · refine regAnyF [(8, 79, .pl (.one (.v (.sc (.bool x79))))), (9, 80, .pl (.one (.v (.sc (.bool (!x79))))))] ?_
                  refine (?_ : anyF X ?ops12_0_0 _ _ ?P12_0_0 _)
                  have d12_0_0_0' : anyF X ?ops12_0_0 [0, 1, 2, 3, 4, 5, 6, 7] [(8, 79, .pl (.one (.v (.sc (.bool x79))))), (9, 80, .pl (.one (.v (.sc (.bool (!x79))))))] ?P12_0_0 { N := 118, np := 1, nx := 5, sl := [(3, .pl (.one (.ref 1 []))), (6, .pl (.one (.v (.sc (.int .i64 v))))), (7, .pl (.one (.ref 2 []))), (71, .pl (.one (.ref 3 []))), (78, .pl (.one (.ref 4 [])))], ob := [(1, .box true [.list true 1 (List.map (rL true 1 (rK .i64)) x22.1.Parents), .list true 4 (List.map (r_T_impl_Body true) x22.1.Bodies)]), (2, .list true 1 (List.map rS x36.1)), (3, .list true 1 (List.map rS x51.1)), (4, .list true 1 (List.map rS x78))] } := by
                    refine fend (e2 := { N := 118, np := 1, nx := 5, sl := [(79, .pl (.one (.v (.sc (.bool x79))))), (80, .pl (.one (.v (.sc (.bool (!x79)))))), (3, .pl (.one (.ref 1 []))), (6, .pl (.one (.v (.sc (.int .i64 v))))), (7, .pl (.one (.ref 2 []))), (71, .pl (.one (.ref 3 []))), (78, .pl (.one (.ref 4 [])))], ob := [(1, .box true [.list true 1 (List.map (rL true 1 (rK .i64)) x22.1.Parents), .list true 4 (List.map (r_T_impl_Body true) x22.1.Bodies)]), (2, .list true 1 (List.map rS x36.1)), (3, .list true 1 (List.map rS x51.1)), (4, .list true 1 (List.map rS x78))] }) [8, 9] [.q 8 79 (.pl (.one (.v (.sc (.bool x79))))) [], .q 9 80 (.pl (.one (.v (.sc (.bool (!x79)))))) [8]] [(8, 79), (9, 80)] [(8, true, [], []), (9, true, [8], [])] ⟨?_, ?_, trivial⟩ ⟨rfl, shd [3, 6, 7, 80] [(1, 1), (2, 2)] 3 rfl⟩
                    · refine obQ 0 ?_
                      refine callG H' (fun _ => []) (W_laws_sameTexts _ _ _ hy_x79) ?_
                      refine opsV_nil ⟨rfl, shd [79, 3, 6, 7, 71, 78] [(1, 1), (2, 2), (3, 3), (4, 4)] 5 rfl⟩
                    · refine obQ 1 ?_
                      refine ops H' ?_
                      refine opsV_nil ⟨rfl, shd [80, 3, 6, 7, 71, 78] [(1, 1), (2, 2), (3, 3), (4, 4)] 5 rfl⟩
                  have d12_0_0_1' : anyF X ?ops12_0_0 [0, 1, 2, 3, 4, 5, 6] [(8, 79, .pl (.one (.v (.sc (.bool x79))))), (9, 80, .pl (.one (.v (.sc (.bool (!x79))))))] ?P12_0_0 { N := 118, np := 1, nx := 4, sl := [(3, .pl (.one (.ref 1 []))), (6, .pl (.one (.v (.sc (.int .i64 v))))), (7, .pl (.one (.ref 2 []))), (71, .pl (.one (.ref 3 []))), (72, .pl (.agg [.ref 1 [(0, 0, 0)], .ref 1 [(0, 0, 1)]])), (77, .pl (.one (.ref 1 [(0, 0, 0), (1, v.toNat, 0)])))], ob := [(1, .box true [.list true 1 (List.map (rL true 1 (rK .i64)) x22.1.Parents), .list true 4 (List.map (r_T_impl_Body true) x22.1.Bodies)]), (2, .list true 1 (List.map rS x36.1)), (3, .list true 1 (List.map rS x51.1))] } := by
                    refine fnode [] [.m 7 [] [0, 1, 2, 3, 4, 5, 6, 7] [(8, 79, .pl (.one (.v (.sc (.bool x79))))), (9, 80, .pl (.one (.v (.sc (.bool (!x79))))))]] [(8, 79), (9, 80)] [(7, false, [], [0, 1, 2, 3, 4, 5, 6, 7])] ⟨?_, trivial⟩
                    · refine obM ?_
                      refine callG H' (fun _ => []) (W_spec_SeenBy _ _ _ hy_x78) ?_
                      refine opsV_nil ⟨rfl, .inl ⟨rfl, ?_⟩⟩
                      exact anyFShd [3, 6, 7, 71, 78] [(1, 1), (2, 2), (3, 3), (4, 4)] 5 d12_0_0_0'
                  have d12_0_0_2' : anyF X ?ops12_0_0 [0, 1, 2, 3, 4, 5] [(8, 79, .pl (.one (.v (.sc (.bool x79))))), (9, 80, .pl (.one (.v (.sc (.bool (!x79))))))] ?P12_0_0 { N := 118, np := 1, nx := 4, sl := [(3, .pl (.one (.ref 1 []))), (6, .pl (.one (.v (.sc (.int .i64 v))))), (7, .pl (.one (.ref 2 []))), (71, .pl (.one (.ref 3 []))), (72, .pl (.agg [.ref 1 [(0, 0, 0)], .ref 1 [(0, 0, 1)]])), (76, .pl (.one (.addr 1 [(0, 0, 0)] 1 v.toNat 0)))], ob := [(1, .box true [.list true 1 (List.map (rL true 1 (rK .i64)) x22.1.Parents), .list true 4 (List.map (r_T_impl_Body true) x22.1.Bodies)]), (2, .list true 1 (List.map rS x36.1)), (3, .list true 1 (List.map rS x51.1))] } := by
                    refine fnode [] [.m 6 [] [0, 1, 2, 3, 4, 5, 6] [(8, 79, .pl (.one (.v (.sc (.bool x79))))), (9, 80, .pl (.one (.v (.sc (.bool (!x79))))))]] [(8, 79), (9, 80)] [(6, false, [], [0, 1, 2, 3, 4, 5, 6])] ⟨?_, trivial⟩
                    · refine obM ?_
                      refine ops H' ?_
                      refine opsV_nil ⟨rfl, .inl ⟨rfl, ?_⟩⟩
                      exact anyFShd [3, 6, 7, 71, 72, 77] [(1, 1), (2, 2), (3, 3)] 4 d12_0_0_1'
                  have d12_0_0_3' : anyF X ?ops12_0_0 [0, 1, 2, 3, 4] [(8, 79, .pl (.one (.v (.sc (.bool x79))))), (9, 80, .pl (.one (.v (.sc (.bool (!x79))))))] ?P12_0_0 { N := 118, np := 1, nx := 4, sl := [(3, .pl (.one (.ref 1 []))), (6, .pl (.one (.v (.sc (.int .i64 v))))), (7, .pl (.one (.ref 2 []))), (71, .pl (.one (.ref 3 []))), (72, .pl (.agg [.ref 1 [(0, 0, 0)], .ref 1 [(0, 0, 1)]])), (74, .pl (.one (.ref 1 [(0, 0, 0)]))), (75, .pl (.one (.v (.sc (.int .i64 v)))))], ob := [(1, .box true [.list true 1 (List.map (rL true 1 (rK .i64)) x22.1.Parents), .list true 4 (List.map (r_T_impl_Body true) x22.1.Bodies)]), (2, .list true 1 (List.map rS x36.1)), (3, .list true 1 (List.map rS x51.1))] } := by
                    refine fnode [] [.m 5 [] [0, 1, 2, 3, 4, 5] [(8, 79, .pl (.one (.v (.sc (.bool x79))))), (9, 80, .pl (.one (.v (.sc (.bool (!x79))))))]] [(8, 79), (9, 80)] [(5, false, [], [0, 1, 2, 3, 4, 5])] ⟨?_, trivial⟩
                    · refine obM ?_
                      refine ops H' ?_
                      refine opsV_nil ⟨rfl, .inl ⟨rfl, ?_⟩⟩
                      exact anyFShd [3, 6, 7, 71, 72, 76] [(1, 1), (2, 2), (3, 3)] 4 d12_0_0_2'
                  have d12_0_0_4' : anyF X ?ops12_0_0 [0, 1, 2, 4] [(8, 79, .pl (.one (.v (.sc (.bool x79))))), (9, 80, .pl (.one (.v (.sc (.bool (!x79))))))] ?P12_0_0 { N := 118, np := 1, nx := 4, sl := [(3, .pl (.one (.ref 1 []))), (6, .pl (.one (.v (.sc (.int .i64 v))))), (7, .pl (.one (.ref 2 []))), (71, .pl (.one (.ref 3 []))), (72, .pl (.agg [.ref 1 [(0, 0, 0)], .ref 1 [(0, 0, 1)]])), (73, .pl (.one (.addr 1 [] 0 0 0))), (75, .pl (.one (.v (.sc (.int .i64 v)))))], ob := [(1, .box true [.list true 1 (List.map (rL true 1 (rK .i64)) x22.1.Parents), .list true 4 (List.map (r_T_impl_Body true) x22.1.Bodies)]), (2, .list true 1 (List.map rS x36.1)), (3, .list true 1 (List.map rS x51.1))] } := by
                    refine fnode [] [.m 3 [] [0, 1, 2, 3, 4] [(8, 79, .pl (.one (.v (.sc (.bool x79))))), (9, 80, .pl (.one (.v (.sc (.bool (!x79))))))]] [(8, 79), (9, 80)] [(3, false, [], [0, 1, 2, 3, 4])] ⟨?_, trivial⟩
                    · refine obM ?_
                      refine ops H' ?_
                      refine opsV_nil ⟨rfl, .inl ⟨rfl, ?_⟩⟩
                      exact anyFShd [3, 6, 7, 71, 72, 74, 75] [(1, 1), (2, 2), (3, 3)] 4 d12_0_0_3'
                  have d12_0_0_5' : anyF X ?ops12_0_0 [0, 2, 3, 4, 5, 6] [(8, 79, .pl (.one (.v (.sc (.bool x79))))), (9, 80, .pl (.one (.v (.sc (.bool (!x79))))))] ?P12_0_0 { N := 118, np := 1, nx := 4, sl := [(3, .pl (.one (.ref 1 []))), (6, .pl (.one (.v (.sc (.int .i64 v))))), (7, .pl (.one (.ref 2 []))), (71, .pl (.one (.ref 3 []))), (77, .pl (.one (.ref 1 [(0, 0, 0), (1, v.toNat, 0)])))], ob := [(1, .box true [.list true 1 (List.map (rL true 1 (rK .i64)) x22.1.Parents), .list true 4 (List.map (r_T_impl_Body true) x22.1.Bodies)]), (2, .list true 1 (List.map rS x36.1)), (3, .list true 1 (List.map rS x51.1))] } := by
                    refine fnode [] [.m 1 [] [0, 1, 2, 3, 4, 5, 6] [(8, 79, .pl (.one (.v (.sc (.bool x79))))), (9, 80, .pl (.one (.v (.sc (.bool (!x79))))))]] [(8, 79), (9, 80)] [(1, false, [], [0, 1, 2, 3, 4, 5, 6])] ⟨?_, trivial⟩
                    · refine obM ?_
                      refine ops H' ?_
                      refine opsV_nil ⟨rfl, .inl ⟨rfl, ?_⟩⟩
                      exact anyFShd [3, 6, 7, 71, 72, 77] [(1, 1), (2, 2), (3, 3)] 4 d12_0_0_1'
                  have d12_0_0_6' : anyF X ?ops12_0_0 [0, 2, 3, 4, 5] [(8, 79, .pl (.one (.v (.sc (.bool x79))))), (9, 80, .pl (.one (.v (.sc (.bool (!x79))))))] ?P12_0_0 { N := 118, np := 1, nx := 4, sl := [(3, .pl (.one (.ref 1 []))), (6, .pl (.one (.v (.sc (.int .i64 v))))), (7, .pl (.one (.ref 2 []))), (71, .pl (.one (.ref 3 []))), (76, .pl (.one (.addr 1 [(0, 0, 0)] 1 v.toNat 0)))], ob := [(1, .box true [.list true 1 (List.map (rL true 1 (rK .i64)) x22.1.Parents), .list true 4 (List.map (r_T_impl_Body true) x22.1.Bodies)]), (2, .list true 1 (List.map rS x36.1)), (3, .list true 1 (List.map rS x51.1))] } := by
                    refine fnode [] [.m 1 [] [0, 1, 2, 3, 4, 5] [(8, 79, .pl (.one (.v (.sc (.bool x79))))), (9, 80, .pl (.one (.v (.sc (.bool (!x79))))))], .m 6 [] [0, 2, 3, 4, 5, 6] [(8, 79, .pl (.one (.v (.sc (.bool x79))))), (9, 80, .pl (.one (.v (.sc (.bool (!x79))))))]] [(8, 79), (9, 80)] [(1, false, [], [0, 1, 2, 3, 4, 5]), (6, false, [], [0, 2, 3, 4, 5, 6])] ⟨?_, ?_, trivial⟩
                    · refine obM ?_
                      refine ops H' ?_
                      refine opsV_nil ⟨rfl, .inl ⟨rfl, ?_⟩⟩
                      exact anyFShd [3, 6, 7, 71, 72, 76] [(1, 1), (2, 2), (3, 3)] 4 d12_0_0_2'
                    · refine obM ?_
                      refine ops H' ?_
                      refine opsV_nil ⟨rfl, .inl ⟨rfl, ?_⟩⟩
                      exact anyFShd [3, 6, 7, 71, 77] [(1, 1), (2, 2), (3, 3)] 4 d12_0_0_5'
                  have d12_0_0_7' : anyF X ?ops12_0_0 [0, 2, 3, 4] [(8, 79, .pl (.one (.v (.sc (.bool x79))))), (9, 80, .pl (.one (.v (.sc (.bool (!x79))))))] ?P12_0_0 { N := 118, np := 1, nx := 4, sl := [(3, .pl (.one (.ref 1 []))), (6, .pl (.one (.v (.sc (.int .i64 v))))), (7, .pl (.one (.ref 2 []))), (71, .pl (.one (.ref 3 []))), (74, .pl (.one (.ref 1 [(0, 0, 0)]))), (75, .pl (.one (.v (.sc (.int .i64 v)))))], ob := [(1, .box true [.list true 1 (List.map (rL true 1 (rK .i64)) x22.1.Parents), .list true 4 (List.map (r_T_impl_Body true) x22.1.Bodies)]), (2, .list true 1 (List.map rS x36.1)), (3, .list true 1 (List.map rS x51.1))] } := by
                    refine fnode [] [.m 1 [] [0, 1, 2, 3, 4] [(8, 79, .pl (.one (.v (.sc (.bool x79))))), (9, 80, .pl (.one (.v (.sc (.bool (!x79))))))], .m 5 [] [0, 2, 3, 4, 5] [(8, 79, .pl (.one (.v (.sc (.bool x79))))), (9, 80, .pl (.one (.v (.sc (.bool (!x79))))))]] [(8, 79), (9, 80)] [(1, false, [], [0, 1, 2, 3, 4]), (5, false, [], [0, 2, 3, 4, 5])] ⟨?_, ?_, trivial⟩
                    · refine obM ?_
                      refine ops H' ?_
                      refine opsV_nil ⟨rfl, .inl ⟨rfl, ?_⟩⟩
                      exact anyFShd [3, 6, 7, 71, 72, 74, 75] [(1, 1), (2, 2), (3, 3)] 4 d12_0_0_3'
                    · refine obM ?_
                      refine ops H' ?_
                      refine opsV_nil ⟨rfl, .inl ⟨rfl, ?_⟩⟩
                      exact anyFShd [3, 6, 7, 71, 76] [(1, 1), (2, 2), (3, 3)] 4 d12_0_0_6'
                  have d12_0_0_8' : anyF X ?ops12_0_0 [0, 2, 4] [(8, 79, .pl (.one (.v (.sc (.bool x79))))), (9, 80, .pl (.one (.v (.sc (.bool (!x79))))))] ?P12_0_0 { N := 118, np := 1, nx := 4, sl := [(3, .pl (.one (.ref 1 []))), (6, .pl (.one (.v (.sc (.int .i64 v))))), (7, .pl (.one (.ref 2 []))), (71, .pl (.one (.ref 3 []))), (73, .pl (.one (.addr 1 [] 0 0 0))), (75, .pl (.one (.v (.sc (.int .i64 v)))))], ob := [(1, .box true [.list true 1 (List.map (rL true 1 (rK .i64)) x22.1.Parents), .list true 4 (List.map (r_T_impl_Body true) x22.1.Bodies)]), (2, .list true 1 (List.map rS x36.1)), (3, .list true 1 (List.map rS x51.1))] } := by
                    refine fnode [] [.m 1 [] [0, 1, 2, 4] [(8, 79, .pl (.one (.v (.sc (.bool x79))))), (9, 80, .pl (.one (.v (.sc (.bool (!x79))))))], .m 3 [] [0, 2, 3, 4] [(8, 79, .pl (.one (.v (.sc (.bool x79))))), (9, 80, .pl (.one (.v (.sc (.bool (!x79))))))]] [(8, 79), (9, 80)] [(1, false, [], [0, 1, 2, 4]), (3, false, [], [0, 2, 3, 4])] ⟨?_, ?_, trivial⟩
                    · refine obM ?_
                      refine ops H' ?_
                      refine opsV_nil ⟨rfl, .inl ⟨rfl, ?_⟩⟩
                      exact anyFShd [3, 6, 7, 71, 72, 73, 75] [(1, 1), (2, 2), (3, 3)] 4 d12_0_0_4'
                    · refine obM ?_
                      refine ops H' ?_
                      refine opsV_nil ⟨rfl, .inl ⟨rfl, ?_⟩⟩
                      exact anyFShd [3, 6, 7, 71, 74, 75] [(1, 1), (2, 2), (3, 3)] 4 d12_0_0_7'
                  refine fpure H' 0 [0] [(8, 79), (9, 80)] ?_
                  refine fpure H' 2 [0, 2] [(8, 79), (9, 80)] ?_
                  refine fpure H' 4 [0, 2, 4] [(8, 79), (9, 80)] ?_
                  exact anyFShd [3, 6, 7, 71, 73, 75] [(1, 1), (2, 2), (3, 3)] 4 d12_0_0_8'
                · rintro e' rfl
                  refine contN ?_
                  refine wpV_split (fun hc' => ?_) (fun hc' => ?_)
                  · replace h1' := (ifT hc').symm.trans h1'
                    refine wpV_seq1 ?_
                    refine wpV_region ?_
                    refine ops H' ?_
                    refine opsN ?_
                    refine retN ?_
                    obtain rfl := Option.some.inj h1'
                    refine ⟨_, rfl, fun hr' => ?_⟩
                    subst hr'
                    obtain rfl := Option.some.inj h0'
                    exact outG H' rfl rfl
                  · replace h1' := (ifF hc').symm.trans h1'
                    refine skipN ?_
                    refine wpV_seq1 ?_
                    refine wpV_seq1 ?_
                    refine wpV_region ?_
                    obtain ⟨x_1, hv', h1'⟩ := Option.bind_eq_some_iff.1 h1'
                    have H' := And.intro (geti_f hv') H'
                    refine ops H' ?_
                    refine opsN ?_
                    refine wpV_split (fun hc' => ?_) (fun hc' => ?_)
                    · replace h1' := (ifT hc').symm.trans h1'
                      refine exitN ?_
                      refine wpV_region ?_
                      refine ops H' ?_
                      refine opsN ?_
                      obtain rfl := Option.some.inj h1'
                      exact shd [3, 6] [(1, 1)] 2 ⟨_, rfl, rfl⟩
                    · replace h1' := (ifF hc').symm.trans h1'
                      refine skipN ?_
                      refine wpV_seq1 ?_
                      obtain ⟨x_2, hv', h1'⟩ := Option.bind_eq_some_iff.1 h1'
                      have H' := And.intro (geti_f hv') H'
                      obtain ⟨x98, hy_x98, h1'⟩ := Option.bind_eq_some_iff.1 h1'
                      refine wpV_J (fun e' => e' = { N := 118, np := 1, nx := 4, sl := [(3, .pl (.one (.ref 1 []))), (6, .pl (.one (.v (.sc (.int .i64 v))))), (7, .pl (.one (.ref 2 []))), (15, .pl (.one (.ref 3 []))), (16, .pl (.one (.v (.sc (.int .i64 x98.2.1))))), (17, .pl (.one (.v (.sc (.int .i64 x98.2.2)))))], ob := [(1, .box true [.list true 1 (List.map (rL true 1 (rK .i64)) x22.1.Parents), .list true 4 (List.map (r_T_impl_Body true) x22.1.Bodies)]), (2, .list true 1 (List.map rS x36.1)), (3, .list true 1 (List.map rS x98.1))] }) ?_ ?_
                      · refine regAnyF [(7, 96, .pl (.one (.v (.sc (.int .i64 x_2))))), (12, 100, .pl (.one (.v (.sc (.int .i64 x98.2.1))))), (13, 101, .pl (.one (.v (.sc (.int .i64 x98.2.2))))), (15, 16, .pl (.one (.v (.sc (.int .i64 x98.2.1))))), (16, 17, .pl (.one (.v (.sc (.int .i64 x98.2.2)))))] ?_
                        refine (?_ : anyF X ?ops15_1_0 _ _ ?P15_1_0 _)
                        have d15_1_0_0' : anyF X ?ops15_1_0 [0, 1, 2, 3, 4, 5, 6, 7, 8, 9, 10, 11, 14] [(12, 100, .pl (.one (.v (.sc (.int .i64 x98.2.1))))), (13, 101, .pl (.one (.v (.sc (.int .i64 x98.2.2))))), (15, 16, .pl (.one (.v (.sc (.int .i64 x98.2.1))))), (16, 17, .pl (.one (.v (.sc (.int .i64 x98.2.2)))))] ?P15_1_0 { N := 118, np := 1, nx := 4, sl := [(3, .pl (.one (.ref 1 []))), (6, .pl (.one (.v (.sc (.int .i64 v))))), (7, .pl (.one (.ref 2 []))), (15, .pl (.one (.ref 3 []))), (88, .tup [.one (.ref 3 []), .one (.v (.sc (.int .i64 x98.2.1))), .one (.v (.sc (.int .i64 x98.2.2)))])], ob := [(1, .box true [.list true 1 (List.map (rL true 1 (rK .i64)) x22.1.Parents), .list true 4 (List.map (r_T_impl_Body true) x22.1.Bodies)]), (2, .list true 1 (List.map rS x36.1)), (3, .list true 1 (List.map rS x98.1))] } := by
                          refine fend (e2 := { N := 118, np := 1, nx := 4, sl := [(100, .pl (.one (.v (.sc (.int .i64 x98.2.1))))), (101, .pl (.one (.v (.sc (.int .i64 x98.2.2))))), (16, .pl (.one (.v (.sc (.int .i64 x98.2.1))))), (17, .pl (.one (.v (.sc (.int .i64 x98.2.2))))), (3, .pl (.one (.ref 1 []))), (6, .pl (.one (.v (.sc (.int .i64 v))))), (7, .pl (.one (.ref 2 []))), (15, .pl (.one (.ref 3 []))), (88, .tup [.one (.ref 3 []), .one (.v (.sc (.int .i64 x98.2.1))), .one (.v (.sc (.int .i64 x98.2.2)))])], ob := [(1, .box true [.list true 1 (List.map (rL true 1 (rK .i64)) x22.1.Parents), .list true 4 (List.map (r_T_impl_Body true) x22.1.Bodies)]), (2, .list true 1 (List.map rS x36.1)), (3, .list true 1 (List.map rS x98.1))] }) [12, 13, 15, 16] [.q 12 100 (.pl (.one (.v (.sc (.int .i64 x98.2.1))))) [], .q 13 101 (.pl (.one (.v (.sc (.int .i64 x98.2.2))))) [], .q 15 16 (.pl (.one (.v (.sc (.int .i64 x98.2.1))))) [12], .q 16 17 (.pl (.one (.v (.sc (.int .i64 x98.2.2))))) [12, 13, 15]] [(12, 100), (13, 101), (15, 16), (16, 17)] [(12, true, [], []), (13, true, [], []), (15, true, [12], []), (16, true, [12, 13, 15], [])] ⟨?_, ?_, ?_, ?_, trivial⟩ ⟨rfl, shd [3, 6, 7, 15, 16, 17] [(1, 1), (2, 2), (3, 3)] 4 rfl⟩
                          · refine obQ 0 ?_
                            refine ops H' ?_
                            refine opsV_nil ⟨rfl, shd [100, 3, 6, 7, 15, 88] [(1, 1), (2, 2), (3, 3)] 4 rfl⟩
                          · refine obQ 1 ?_
                            refine ops H' ?_
                            refine opsV_nil ⟨rfl, shd [101, 3, 6, 7, 15, 88] [(1, 1), (2, 2), (3, 3)] 4 rfl⟩
                          · refine obQ 2 ?_
                            refine ops H' ?_
                            refine opsV_nil ⟨rfl, shd [16, 3, 6, 7, 15, 88] [(1, 1), (2, 2), (3, 3)] 4 rfl⟩
                          · refine obQ 3 ?_
                            refine ops H' ?_
                            refine opsV_nil ⟨rfl, shd [17, 3, 6, 7, 15, 88] [(1, 1), (2, 2), (3, 3)] 4 rfl⟩
                        have d15_1_0_1' : anyF X ?ops15_1_0 [0, 1, 2, 3, 4, 5, 6, 7, 8, 9, 10, 11] [(12, 100, .pl (.one (.v (.sc (.int .i64 x98.2.1))))), (13, 101, .pl (.one (.v (.sc (.int .i64 x98.2.2))))), (15, 16, .pl (.one (.v (.sc (.int .i64 x98.2.1))))), (16, 17, .pl (.one (.v (.sc (.int .i64 x98.2.2)))))] ?P15_1_0 { N := 118, np := 1, nx := 4, sl := [(3, .pl (.one (.ref 1 []))), (6, .pl (.one (.v (.sc (.int .i64 v))))), (7, .pl (.one (.ref 2 []))), (88, .tup [.one (.ref 3 []), .one (.v (.sc (.int .i64 x98.2.1))), .one (.v (.sc (.int .i64 x98.2.2)))]), (99, .pl (.one (.ref 3 [])))], ob := [(1, .box true [.list true 1 (List.map (rL true 1 (rK .i64)) x22.1.Parents), .list true 4 (List.map (r_T_impl_Body true) x22.1.Bodies)]), (2, .list true 1 (List.map rS x36.1)), (3, .list true 1 (List.map rS x98.1))] } := by
                          refine fnode [12, 13] [.q 12 100 (.pl (.one (.v (.sc (.int .i64 x98.2.1))))) [], .q 13 101 (.pl (.one (.v (.sc (.int .i64 x98.2.2))))) [], .m 14 [] [0, 1, 2, 3, 4, 5, 6, 7, 8, 9, 10, 11, 14] [(12, 100, .pl (.one (.v (.sc (.int .i64 x98.2.1))))), (13, 101, .pl (.one (.v (.sc (.int .i64 x98.2.2))))), (15, 16, .pl (.one (.v (.sc (.int .i64 x98.2.1))))), (16, 17, .pl (.one (.v (.sc (.int .i64 x98.2.2)))))]] [(12, 100), (13, 101), (15, 16), (16, 17)] [(12, true, [], []), (13, true, [], []), (14, false, [], [0, 1, 2, 3, 4, 5, 6, 7, 8, 9, 10, 11, 14])] ⟨?_, ?_, ?_, trivial⟩
                          · refine obQ 0 ?_
                            refine ops H' ?_
                            refine opsV_nil ⟨rfl, shd [100, 3, 6, 7, 88, 99] [(1, 1), (2, 2), (3, 3)] 4 rfl⟩
                          · refine obQ 1 ?_
                            refine ops H' ?_
                            refine opsV_nil ⟨rfl, shd [101, 3, 6, 7, 88, 99] [(1, 1), (2, 2), (3, 3)] 4 rfl⟩
                          · refine obM ?_
                            refine ops H' ?_
                            refine opsV_nil ⟨rfl, .inl ⟨rfl, ?_⟩⟩
                            exact anyFShd [3, 6, 7, 15, 88] [(1, 1), (2, 2), (3, 3)] 4 d15_1_0_0'
                        have d15_1_0_2' : anyF X ?ops15_1_0 [0, 1, 2, 3, 4, 5, 6, 7, 8, 9, 10] [(12, 100, .pl (.one (.v (.sc (.int .i64 x98.2.1))))), (13, 101, .pl (.one (.v (.sc (.int .i64 x98.2.2))))), (15, 16, .pl (.one (.v (.sc (.int .i64 x98.2.1))))), (16, 17, .pl (.one (.v (.sc (.int .i64 x98.2.2)))))] ?P15_1_0 { N := 118, np := 1, nx := 4, sl := [(3, .pl (.one (.ref 1 []))), (6, .pl (.one (.v (.sc (.int .i64 v))))), (7, .pl (.one (.ref 2 []))), (88, .tup [.one (.ref 3 []), .one (.v (.sc (.int .i64 x98.2.1))), .one (.v (.sc (.int .i64 x98.2.2)))])], ob := [(1, .box true [.list true 1 (List.map (rL true 1 (rK .i64)) x22.1.Parents), .list true 4 (List.map (r_T_impl_Body true) x22.1.Bodies)]), (2, .list true 1 (List.map rS x36.1)), (3, .list true 1 (List.map rS x98.1))] } := by
                          refine fnode [12, 13] [.q 12 100 (.pl (.one (.v (.sc (.int .i64 x98.2.1))))) [], .q 13 101 (.pl (.one (.v (.sc (.int .i64 x98.2.2))))) [], .m 11 [] [0, 1, 2, 3, 4, 5, 6, 7, 8, 9, 10, 11] [(12, 100, .pl (.one (.v (.sc (.int .i64 x98.2.1))))), (13, 101, .pl (.one (.v (.sc (.int .i64 x98.2.2))))), (15, 16, .pl (.one (.v (.sc (.int .i64 x98.2.1))))), (16, 17, .pl (.one (.v (.sc (.int .i64 x98.2.2)))))]] [(12, 100), (13, 101), (15, 16), (16, 17)] [(12, true, [], []), (13, true, [], []), (11, false, [], [0, 1, 2, 3, 4, 5, 6, 7, 8, 9, 10, 11])] ⟨?_, ?_, ?_, trivial⟩
                          · refine obQ 0 ?_
                            refine ops H' ?_
                            refine opsV_nil ⟨rfl, shd [100, 3, 6, 7, 88] [(1, 1), (2, 2), (3, 3)] 4 rfl⟩
                          · refine obQ 1 ?_
                            refine ops H' ?_
                            refine opsV_nil ⟨rfl, shd [101, 3, 6, 7, 88] [(1, 1), (2, 2), (3, 3)] 4 rfl⟩
                          · refine obM ?_
                            refine ops H' ?_
                            refine opsV_nil ⟨rfl, .inl ⟨rfl, ?_⟩⟩
                            exact anyFShd [3, 6, 7, 88, 99] [(1, 1), (2, 2), (3, 3)] 4 d15_1_0_1'
                        have d15_1_0_3' : anyF X ?ops15_1_0 [0, 1, 2, 3, 4, 5, 6, 7, 8, 9] [(12, 100, .pl (.one (.v (.sc (.int .i64 x98.2.1))))), (13, 101, .pl (.one (.v (.sc (.int .i64 x98.2.2))))), (15, 16, .pl (.one (.v (.sc (.int .i64 x98.2.1))))), (16, 17, .pl (.one (.v (.sc (.int .i64 x98.2.2)))))] ?P15_1_0 { N := 118, np := 1, nx := 4, sl := [(3, .pl (.one (.ref 1 []))), (6, .pl (.one (.v (.sc (.int .i64 v))))), (7, .pl (.one (.ref 2 []))), (98, .tup [.one (.ref 3 []), .one (.v (.sc (.int .i64 x98.2.1))), .one (.v (.sc (.int .i64 x98.2.2)))])], ob := [(1, .box true [.list true 1 (List.map (rL true 1 (rK .i64)) x22.1.Parents), .list true 4 (List.map (r_T_impl_Body true) x22.1.Bodies)]), (2, .list true 1 (List.map rS x36.1)), (3, .list true 1 (List.map rS x98.1))] } := by
                          refine fnode [] [.m 10 [] [0, 1, 2, 3, 4, 5, 6, 7, 8, 9, 10] [(12, 100, .pl (.one (.v (.sc (.int .i64 x98.2.1))))), (13, 101, .pl (.one (.v (.sc (.int .i64 x98.2.2))))), (15, 16, .pl (.one (.v (.sc (.int .i64 x98.2.1))))), (16, 17, .pl (.one (.v (.sc (.int .i64 x98.2.2)))))]] [(12, 100), (13, 101), (15, 16), (16, 17)] [(10, false, [], [0, 1, 2, 3, 4, 5, 6, 7, 8, 9, 10])] ⟨?_, trivial⟩
                          · refine obM ?_
                            refine ops H' ?_
                            refine opsV_nil ⟨rfl, .inl ⟨rfl, ?_⟩⟩
                            exact anyFShd [3, 6, 7, 88] [(1, 1), (2, 2), (3, 3)] 4 d15_1_0_2'
                        have d15_1_0_4' : anyF X ?ops15_1_0 [0, 1, 2, 3, 4, 5, 6, 8] [(7, 96, .pl (.one (.v (.sc (.int .i64 x_2))))), (12, 100, .pl (.one (.v (.sc (.int .i64 x98.2.1))))), (13, 101, .pl (.one (.v (.sc (.int .i64 x98.2.2))))), (15, 16, .pl (.one (.v (.sc (.int .i64 x98.2.1))))), (16, 17, .pl (.one (.v (.sc (.int .i64 x98.2.2)))))] ?P15_1_0 { N := 118, np := 1, nx := 3, sl := [(3, .pl (.one (.ref 1 []))), (6, .pl (.one (.v (.sc (.int .i64 v))))), (7, .pl (.one (.ref 2 []))), (89, .pl (.agg [.ref 1 [(0, 0, 0)], .ref 1 [(0, 0, 1)]])), (95, .pl (.one (.addr 1 [(0, 0, 0), (1, v.toNat, 0)] 1 ((0 : Int).toNat) 0))), (97, .pl (.one (.v (.sc (.int .i64 v)))))], ob := [(1, .box true [.list true 1 (List.map (rL true 1 (rK .i64)) x22.1.Parents), .list true 4 (List.map (r_T_impl_Body true) x22.1.Bodies)]), (2, .list true 1 (List.map rS x36.1))] } := by
                          refine fnode [7] [.q 7 96 (.pl (.one (.v (.sc (.int .i64 x_2))))) [], .m 9 [7] [0, 1, 2, 3, 4, 5, 6, 7, 8, 9] [(12, 100, .pl (.one (.v (.sc (.int .i64 x98.2.1))))), (13, 101, .pl (.one (.v (.sc (.int .i64 x98.2.2))))), (15, 16, .pl (.one (.v (.sc (.int .i64 x98.2.1))))), (16, 17, .pl (.one (.v (.sc (.int .i64 x98.2.2)))))]] [(7, 96), (12, 100), (13, 101), (15, 16), (16, 17)] [(7, true, [], []), (9, false, [7], [0, 1, 2, 3, 4, 5, 6, 7, 8, 9])] ⟨?_, ?_, trivial⟩
                          · refine obQ 0 ?_
                            refine ops H' ?_
                            refine opsV_nil ⟨rfl, shd [96, 3, 6, 7, 89, 95, 97] [(1, 1), (2, 2)] 3 rfl⟩
                          · refine obM ?_
                            refine callG H' (fun _ => []) (W_impl_PickOn _ _ _ _ hy_x98) ?_
                            refine opsV_nil ⟨rfl, .inl ⟨rfl, ?_⟩⟩
                            exact anyFShd [3, 6, 7, 98] [(1, 1), (2, 2), (3, 3)] 4 d15_1_0_3'
                        have d15_1_0_5' : anyF X ?ops15_1_0 [0, 1, 2, 3, 4, 5, 8] [(7, 96, .pl (.one (.v (.sc (.int .i64 x_2))))), (12, 100, .pl (.one (.v (.sc (.int .i64 x98.2.1))))), (13, 101, .pl (.one (.v (.sc (.int .i64 x98.2.2))))), (15, 16, .pl (.one (.v (.sc (.int .i64 x98.2.1))))), (16, 17, .pl (.one (.v (.sc (.int .i64 x98.2.2)))))] ?P15_1_0 { N := 118, np := 1, nx := 3, sl := [(3, .pl (.one (.ref 1 []))), (6, .pl (.one (.v (.sc (.int .i64 v))))), (7, .pl (.one (.ref 2 []))), (89, .pl (.agg [.ref 1 [(0, 0, 0)], .ref 1 [(0, 0, 1)]])), (94, .pl (.one (.ref 1 [(0, 0, 0), (1, v.toNat, 0)]))), (97, .pl (.one (.v (.sc (.int .i64 v)))))], ob := [(1, .box true [.list true 1 (List.map (rL true 1 (rK .i64)) x22.1.Parents), .list true 4 (List.map (r_T_impl_Body true) x22.1.Bodies)]), (2, .list true 1 (List.map rS x36.1))] } := by
                          refine fnode [] [.m 6 [] [0, 1, 2, 3, 4, 5, 6, 8] [(7, 96, .pl (.one (.v (.sc (.int .i64 x_2))))), (12, 100, .pl (.one (.v (.sc (.int .i64 x98.2.1))))), (13, 101, .pl (.one (.v (.sc (.int .i64 x98.2.2))))), (15, 16, .pl (.one (.v (.sc (.int .i64 x98.2.1))))), (16, 17, .pl (.one (.v (.sc (.int .i64 x98.2.2)))))]] [(7, 96), (12, 100), (13, 101), (15, 16), (16, 17)] [(6, false, [], [0, 1, 2, 3, 4, 5, 6, 8])] ⟨?_, trivial⟩
                          · refine obM ?_
                            refine ops H' ?_
                            refine opsV_nil ⟨rfl, .inl ⟨rfl, ?_⟩⟩
                            exact anyFShd [3, 6, 7, 89, 95, 97] [(1, 1), (2, 2)] 3 d15_1_0_4'
                        have d15_1_0_6' : anyF X ?ops15_1_0 [0, 1, 2, 3, 4, 8] [(7, 96, .pl (.one (.v (.sc (.int .i64 x_2))))), (12, 100, .pl (.one (.v (.sc (.int .i64 x98.2.1))))), (13, 101, .pl (.one (.v (.sc (.int .i64 x98.2.2))))), (15, 16, .pl (.one (.v (.sc (.int .i64 x98.2.1))))), (16, 17, .pl (.one (.v (.sc (.int .i64 x98.2.2)))))] ?P15_1_0 { N := 118, np := 1, nx := 3, sl := [(3, .pl (.one (.ref 1 []))), (6, .pl (.one (.v (.sc (.int .i64 v))))), (7, .pl (.one (.ref 2 []))), (89, .pl (.agg [.ref 1 [(0, 0, 0)], .ref 1 [(0, 0, 1)]])), (93, .pl (.one (.addr 1 [(0, 0, 0)] 1 v.toNat 0))), (97, .pl (.one (.v (.sc (.int .i64 v)))))], ob := [(1, .box true [.list true 1 (List.map (rL true 1 (rK .i64)) x22.1.Parents), .list true 4 (List.map (r_T_impl_Body true) x22.1.Bodies)]), (2, .list true 1 (List.map rS x36.1))] } := by
                          refine fnode [] [.m 5 [] [0, 1, 2, 3, 4, 5, 8] [(7, 96, .pl (.one (.v (.sc (.int .i64 x_2))))), (12, 100, .pl (.one (.v (.sc (.int .i64 x98.2.1))))), (13, 101, .pl (.one (.v (.sc (.int .i64 x98.2.2))))), (15, 16, .pl (.one (.v (.sc (.int .i64 x98.2.1))))), (16, 17, .pl (.one (.v (.sc (.int .i64 x98.2.2)))))]] [(7, 96), (12, 100), (13, 101), (15, 16), (16, 17)] [(5, false, [], [0, 1, 2, 3, 4, 5, 8])] ⟨?_, trivial⟩
                          · refine obM ?_
                            refine ops H' ?_
                            refine opsV_nil ⟨rfl, .inl ⟨rfl, ?_⟩⟩
                            exact anyFShd [3, 6, 7, 89, 94, 97] [(1, 1), (2, 2)] 3 d15_1_0_5'
                        have d15_1_0_7' : anyF X ?ops15_1_0 [0, 1, 2, 3, 8] [(7, 96, .pl (.one (.v (.sc (.int .i64 x_2))))), (12, 100, .pl (.one (.v (.sc (.int .i64 x98.2.1))))), (13, 101, .pl (.one (.v (.sc (.int .i64 x98.2.2))))), (15, 16, .pl (.one (.v (.sc (.int .i64 x98.2.1))))), (16, 17, .pl (.one (.v (.sc (.int .i64 x98.2.2)))))] ?P15_1_0 { N := 118, np := 1, nx := 3, sl := [(3, .pl (.one (.ref 1 []))), (6, .pl (.one (.v (.sc (.int .i64 v))))), (7, .pl (.one (.ref 2 []))), (89, .pl (.agg [.ref 1 [(0, 0, 0)], .ref 1 [(0, 0, 1)]])), (91, .pl (.one (.ref 1 [(0, 0, 0)]))), (92, .pl (.one (.v (.sc (.int .i64 v))))), (97, .pl (.one (.v (.sc (.int .i64 v)))))], ob := [(1, .box true [.list true 1 (List.map (rL true 1 (rK .i64)) x22.1.Parents), .list true 4 (List.map (r_T_impl_Body true) x22.1.Bodies)]), (2, .list true 1 (List.map rS x36.1))] } := by
                          refine fnode [] [.m 4 [] [0, 1, 2, 3, 4, 8] [(7, 96, .pl (.one (.v (.sc (.int .i64 x_2))))), (12, 100, .pl (.one (.v (.sc (.int .i64 x98.2.1))))), (13, 101, .pl (.one (.v (.sc (.int .i64 x98.2.2))))), (15, 16, .pl (.one (.v (.sc (.int .i64 x98.2.1))))), (16, 17, .pl (.one (.v (.sc (.int .i64 x98.2.2)))))]] [(7, 96), (12, 100), (13, 101), (15, 16), (16, 17)] [(4, false, [], [0, 1, 2, 3, 4, 8])] ⟨?_, trivial⟩
                          · refine obM ?_
                            refine ops H' ?_
                            refine opsV_nil ⟨rfl, .inl ⟨rfl, ?_⟩⟩
                            exact anyFShd [3, 6, 7, 89, 93, 97] [(1, 1), (2, 2)] 3 d15_1_0_6'
                        have d15_1_0_8' : anyF X ?ops15_1_0 [0, 1, 3, 8] [(7, 96, .pl (.one (.v (.sc (.int .i64 x_2))))), (12, 100, .pl (.one (.v (.sc (.int .i64 x98.2.1))))), (13, 101, .pl (.one (.v (.sc (.int .i64 x98.2.2))))), (15, 16, .pl (.one (.v (.sc (.int .i64 x98.2.1))))), (16, 17, .pl (.one (.v (.sc (.int .i64 x98.2.2)))))] ?P15_1_0 { N := 118, np := 1, nx := 3, sl := [(3, .pl (.one (.ref 1 []))), (6, .pl (.one (.v (.sc (.int .i64 v))))), (7, .pl (.one (.ref 2 []))), (89, .pl (.agg [.ref 1 [(0, 0, 0)], .ref 1 [(0, 0, 1)]])), (90, .pl (.one (.addr 1 [] 0 0 0))), (92, .pl (.one (.v (.sc (.int .i64 v))))), (97, .pl (.one (.v (.sc (.int .i64 v)))))], ob := [(1, .box true [.list true 1 (List.map (rL true 1 (rK .i64)) x22.1.Parents), .list true 4 (List.map (r_T_impl_Body true) x22.1.Bodies)]), (2, .list true 1 (List.map rS x36.1))] } := by
                          refine fnode [] [.m 2 [] [0, 1, 2, 3, 8] [(7, 96, .pl (.one (.v (.sc (.int .i64 x_2))))), (12, 100, .pl (.one (.v (.sc (.int .i64 x98.2.1))))), (13, 101, .pl (.one (.v (.sc (.int .i64 x98.2.2))))), (15, 16, .pl (.one (.v (.sc (.int .i64 x98.2.1))))), (16, 17, .pl (.one (.v (.sc (.int .i64 x98.2.2)))))]] [(7, 96), (12, 100), (13, 101), (15, 16), (16, 17)] [(2, false, [], [0, 1, 2, 3, 8])] ⟨?_, trivial⟩
                          · refine obM ?_
                            refine ops H' ?_
                            refine opsV_nil ⟨rfl, .inl ⟨rfl, ?_⟩⟩
                            exact anyFShd [3, 6, 7, 89, 91, 92, 97] [(1, 1), (2, 2)] 3 d15_1_0_7'
                        have d15_1_0_9' : anyF X ?ops15_1_0 [1, 2, 3, 4, 5, 6, 8] [(7, 96, .pl (.one (.v (.sc (.int .i64 x_2))))), (12, 100, .pl (.one (.v (.sc (.int .i64 x98.2.1))))), (13, 101, .pl (.one (.v (.sc (.int .i64 x98.2.2))))), (15, 16, .pl (.one (.v (.sc (.int .i64 x98.2.1))))), (16, 17, .pl (.one (.v (.sc (.int .i64 x98.2.2)))))] ?P15_1_0 { N := 118, np := 1, nx := 3, sl := [(3, .pl (.one (.ref 1 []))), (6, .pl (.one (.v (.sc (.int .i64 v))))), (7, .pl (.one (.ref 2 []))), (95, .pl (.one (.addr 1 [(0, 0, 0), (1, v.toNat, 0)] 1 ((0 : Int).toNat) 0))), (97, .pl (.one (.v (.sc (.int .i64 v)))))], ob := [(1, .box true [.list true 1 (List.map (rL true 1 (rK .i64)) x22.1.Parents), .list true 4 (List.map (r_T_impl_Body true) x22.1.Bodies)]), (2, .list true 1 (List.map rS x36.1))] } := by
                          refine fnode [7] [.q 7 96 (.pl (.one (.v (.sc (.int .i64 x_2))))) [], .m 0 [] [0, 1, 2, 3, 4, 5, 6, 8] [(7, 96, .pl (.one (.v (.sc (.int .i64 x_2))))), (12, 100, .pl (.one (.v (.sc (.int .i64 x98.2.1))))), (13, 101, .pl (.one (.v (.sc (.int .i64 x98.2.2))))), (15, 16, .pl (.one (.v (.sc (.int .i64 x98.2.1))))), (16, 17, .pl (.one (.v (.sc (.int .i64 x98.2.2)))))]] [(7, 96), (12, 100), (13, 101), (15, 16), (16, 17)] [(7, true, [], []), (0, false, [], [0, 1, 2, 3, 4, 5, 6, 8])] ⟨?_, ?_, trivial⟩
                          · refine obQ 0 ?_
                            refine ops H' ?_
                            refine opsV_nil ⟨rfl, shd [96, 3, 6, 7, 95, 97] [(1, 1), (2, 2)] 3 rfl⟩
                          · refine obM ?_
                            refine ops H' ?_
                            refine opsV_nil ⟨rfl, .inl ⟨rfl, ?_⟩⟩
                            exact anyFShd [3, 6, 7, 89, 95, 97] [(1, 1), (2, 2)] 3 d15_1_0_4'
                        have d15_1_0_10' : anyF X ?ops15_1_0 [1, 2, 3, 4, 5, 8] [(7, 96, .pl (.one (.v (.sc (.int .i64 x_2))))), (12, 100, .pl (.one (.v (.sc (.int .i64 x98.2.1))))), (13, 101, .pl (.one (.v (.sc (.int .i64 x98.2.2))))), (15, 16, .pl (.one (.v (.sc (.int .i64 x98.2.1))))), (16, 17, .pl (.one (.v (.sc (.int .i64 x98.2.2)))))] ?P15_1_0 { N := 118, np := 1, nx := 3, sl := [(3, .pl (.one (.ref 1 []))), (6, .pl (.one (.v (.sc (.int .i64 v))))), (7, .pl (.one (.ref 2 []))), (94, .pl (.one (.ref 1 [(0, 0, 0), (1, v.toNat, 0)]))), (97, .pl (.one (.v (.sc (.int .i64 v)))))], ob := [(1, .box true [.list true 1 (List.map (rL true 1 (rK .i64)) x22.1.Parents), .list true 4 (List.map (r_T_impl_Body true) x22.1.Bodies)]), (2, .list true 1 (List.map rS x36.1))] } := by
                          refine fnode [] [.m 0 [] [0, 1, 2, 3, 4, 5, 8] [(7, 96, .pl (.one (.v (.sc (.int .i64 x_2))))), (12, 100, .pl (.one (.v (.sc (.int .i64 x98.2.1))))), (13, 101, .pl (.one (.v (.sc (.int .i64 x98.2.2))))), (15, 16, .pl (.one (.v (.sc (.int .i64 x98.2.1))))), (16, 17, .pl (.one (.v (.sc (.int .i64 x98.2.2)))))], .m 6 [] [1, 2, 3, 4, 5, 6, 8] [(7, 96, .pl (.one (.v (.sc (.int .i64 x_2))))), (12, 100, .pl (.one (.v (.sc (.int .i64 x98.2.1))))), (13, 101, .pl (.one (.v (.sc (.int .i64 x98.2.2))))), (15, 16, .pl (.one (.v (.sc (.int .i64 x98.2.1))))), (16, 17, .pl (.one (.v (.sc (.int .i64 x98.2.2)))))]] [(7, 96), (12, 100), (13, 101), (15, 16), (16, 17)] [(0, false, [], [0, 1, 2, 3, 4, 5, 8]), (6, false, [], [1, 2, 3, 4, 5, 6, 8])] ⟨?_, ?_, trivial⟩
                          · refine obM ?_
                            refine ops H' ?_
                            refine opsV_nil ⟨rfl, .inl ⟨rfl, ?_⟩⟩
                            exact anyFShd [3, 6, 7, 89, 94, 97] [(1, 1), (2, 2)] 3 d15_1_0_5'
                          · refine obM ?_
                            refine ops H' ?_
                            refine opsV_nil ⟨rfl, .inl ⟨rfl, ?_⟩⟩
                            exact anyFShd [3, 6, 7, 95, 97] [(1, 1), (2, 2)] 3 d15_1_0_9'
                        have d15_1_0_11' : anyF X ?ops15_1_0 [1, 2, 3, 4, 8] [(7, 96, .pl (.one (.v (.sc (.int .i64 x_2))))), (12, 100, .pl (.one (.v (.sc (.int .i64 x98.2.1))))), (13, 101, .pl (.one (.v (.sc (.int .i64 x98.2.2))))), (15, 16, .pl (.one (.v (.sc (.int .i64 x98.2.1))))), (16, 17, .pl (.one (.v (.sc (.int .i64 x98.2.2)))))] ?P15_1_0 { N := 118, np := 1, nx := 3, sl := [(3, .pl (.one (.ref 1 []))), (6, .pl (.one (.v (.sc (.int .i64 v))))), (7, .pl (.one (.ref 2 []))), (93, .pl (.one (.addr 1 [(0, 0, 0)] 1 v.toNat 0))), (97, .pl (.one (.v (.sc (.int .i64 v)))))], ob := [(1, .box true [.list true 1 (List.map (rL true 1 (rK .i64)) x22.1.Parents), .list true 4 (List.map (r_T_impl_Body true) x22.1.Bodies)]), (2, .list true 1 (List.map rS x36.1))] } := by
                          refine fnode [] [.m 0 [] [0, 1, 2, 3, 4, 8] [(7, 96, .pl (.one (.v (.sc (.int .i64 x_2))))), (12, 100, .pl (.one (.v (.sc (.int .i64 x98.2.1))))), (13, 101, .pl (.one (.v (.sc (.int .i64 x98.2.2))))), (15, 16, .pl (.one (.v (.sc (.int .i64 x98.2.1))))), (16, 17, .pl (.one (.v (.sc (.int .i64 x98.2.2)))))], .m 5 [] [1, 2, 3, 4, 5, 8] [(7, 96, .pl (.one (.v (.sc (.int .i64 x_2))))), (12, 100, .pl (.one (.v (.sc (.int .i64 x98.2.1))))), (13, 101, .pl (.one (.v (.sc (.int .i64 x98.2.2))))), (15, 16, .pl (.one (.v (.sc (.int .i64 x98.2.1))))), (16, 17, .pl (.one (.v (.sc (.int .i64 x98.2.2)))))]] [(7, 96), (12, 100), (13, 101), (15, 16), (16, 17)] [(0, false, [], [0, 1, 2, 3, 4, 8]), (5, false, [], [1, 2, 3, 4, 5, 8])] ⟨?_, ?_, trivial⟩
                          · refine obM ?_
                            refine ops H' ?_
                            refine opsV_nil ⟨rfl, .inl ⟨rfl, ?_⟩⟩
                            exact anyFShd [3, 6, 7, 89, 93, 97] [(1, 1), (2, 2)] 3 d15_1_0_6'
                          · refine obM ?_
                            refine ops H' ?_
                            refine opsV_nil ⟨rfl, .inl ⟨rfl, ?_⟩⟩
                            exact anyFShd [3, 6, 7, 94, 97] [(1, 1), (2, 2)] 3 d15_1_0_10'
                        have d15_1_0_12' : anyF X ?ops15_1_0 [1, 2, 3, 8] [(7, 96, .pl (.one (.v (.sc (.int .i64 x_2))))), (12, 100, .pl (.one (.v (.sc (.int .i64 x98.2.1))))), (13, 101, .pl (.one (.v (.sc (.int .i64 x98.2.2))))), (15, 16, .pl (.one (.v (.sc (.int .i64 x98.2.1))))), (16, 17, .pl (.one (.v (.sc (.int .i64 x98.2.2)))))] ?P15_1_0 { N := 118, np := 1, nx := 3, sl := [(3, .pl (.one (.ref 1 []))), (6, .pl (.one (.v (.sc (.int .i64 v))))), (7, .pl (.one (.ref 2 []))), (91, .pl (.one (.ref 1 [(0, 0, 0)]))), (92, .pl (.one (.v (.sc (.int .i64 v))))), (97, .pl (.one (.v (.sc (.int .i64 v)))))], ob := [(1, .box true [.list true 1 (List.map (rL true 1 (rK .i64)) x22.1.Parents), .list true 4 (List.map (r_T_impl_Body true) x22.1.Bodies)]), (2, .list true 1 (List.map rS x36.1))] } := by
                          refine fnode [] [.m 0 [] [0, 1, 2, 3, 8] [(7, 96, .pl (.one (.v (.sc (.int .i64 x_2))))), (12, 100, .pl (.one (.v (.sc (.int .i64 x98.2.1))))), (13, 101, .pl (.one (.v (.sc (.int .i64 x98.2.2))))), (15, 16, .pl (.one (.v (.sc (.int .i64 x98.2.1))))), (16, 17, .pl (.one (.v (.sc (.int .i64 x98.2.2)))))], .m 4 [] [1, 2, 3, 4, 8] [(7, 96, .pl (.one (.v (.sc (.int .i64 x_2))))), (12, 100, .pl (.one (.v (.sc (.int .i64 x98.2.1))))), (13, 101, .pl (.one (.v (.sc (.int .i64 x98.2.2))))), (15, 16, .pl (.one (.v (.sc (.int .i64 x98.2.1))))), (16, 17, .pl (.one (.v (.sc (.int .i64 x98.2.2)))))]] [(7, 96), (12, 100), (13, 101), (15, 16), (16, 17)] [(0, false, [], [0, 1, 2, 3, 8]), (4, false, [], [1, 2, 3, 4, 8])] ⟨?_, ?_, trivial⟩
                          · refine obM ?_
                            refine ops H' ?_
                            refine opsV_nil ⟨rfl, .inl ⟨rfl, ?_⟩⟩
                            exact anyFShd [3, 6, 7, 89, 91, 92, 97] [(1, 1), (2, 2)] 3 d15_1_0_7'
                          · refine obM ?_
                            refine ops H' ?_
                            refine opsV_nil ⟨rfl, .inl ⟨rfl, ?_⟩⟩
                            exact anyFShd [3, 6, 7, 93, 97] [(1, 1), (2, 2)] 3 d15_1_0_11'
                        have d15_1_0_13' : anyF X ?ops15_1_0 [1, 3, 8] [(7, 96, .pl (.one (.v (.sc (.int .i64 x_2))))), (12, 100, .pl (.one (.v (.sc (.int .i64 x98.2.1))))), (13, 101, .pl (.one (.v (.sc (.int .i64 x98.2.2))))), (15, 16, .pl (.one (.v (.sc (.int .i64 x98.2.1))))), (16, 17, .pl (.one (.v (.sc (.int .i64 x98.2.2)))))] ?P15_1_0 { N := 118, np := 1, nx := 3, sl := [(3, .pl (.one (.ref 1 []))), (6, .pl (.one (.v (.sc (.int .i64 v))))), (7, .pl (.one (.ref 2 []))), (90, .pl (.one (.addr 1 [] 0 0 0))), (92, .pl (.one (.v (.sc (.int .i64 v))))), (97, .pl (.one (.v (.sc (.int .i64 v)))))], ob := [(1, .box true [.list true 1 (List.map (rL true 1 (rK .i64)) x22.1.Parents), .list true 4 (List.map (r_T_impl_Body true) x22.1.Bodies)]), (2, .list true 1 (List.map rS x36.1))] } := by
                          refine fnode [] [.m 0 [] [0, 1, 3, 8] [(7, 96, .pl (.one (.v (.sc (.int .i64 x_2))))), (12, 100, .pl (.one (.v (.sc (.int .i64 x98.2.1))))), (13, 101, .pl (.one (.v (.sc (.int .i64 x98.2.2))))), (15, 16, .pl (.one (.v (.sc (.int .i64 x98.2.1))))), (16, 17, .pl (.one (.v (.sc (.int .i64 x98.2.2)))))], .m 2 [] [1, 2, 3, 8] [(7, 96, .pl (.one (.v (.sc (.int .i64 x_2))))), (12, 100, .pl (.one (.v (.sc (.int .i64 x98.2.1))))), (13, 101, .pl (.one (.v (.sc (.int .i64 x98.2.2))))), (15, 16, .pl (.one (.v (.sc (.int .i64 x98.2.1))))), (16, 17, .pl (.one (.v (.sc (.int .i64 x98.2.2)))))]] [(7, 96), (12, 100), (13, 101), (15, 16), (16, 17)] [(0, false, [], [0, 1, 3, 8]), (2, false, [], [1, 2, 3, 8])] ⟨?_, ?_, trivial⟩
                          · refine obM ?_
                            refine ops H' ?_
                            refine opsV_nil ⟨rfl, .inl ⟨rfl, ?_⟩⟩
                            exact anyFShd [3, 6, 7, 89, 90, 92, 97] [(1, 1), (2, 2)] 3 d15_1_0_8'
                          · refine obM ?_
                            refine ops H' ?_
                            refine opsV_nil ⟨rfl, .inl ⟨rfl, ?_⟩⟩
                            exact anyFShd [3, 6, 7, 91, 92, 97] [(1, 1), (2, 2)] 3 d15_1_0_12'
                        refine fpure H' 1 [1] [(7, 96), (12, 100), (13, 101), (15, 16), (16, 17)] ?_
                        refine fpure H' 3 [1, 3] [(7, 96), (12, 100), (13, 101), (15, 16), (16, 17)] ?_
                        refine fpure H' 8 [1, 3, 8] [(7, 96), (12, 100), (13, 101), (15, 16), (16, 17)] ?_
                        exact anyFShd [3, 6, 7, 90, 92, 97] [(1, 1), (2, 2)] 3 d15_1_0_13'
                      · rintro e' rfl
                        refine contN ?_
                        refine wpV_seq1 ?_
                        refine wpV_region ?_
                        refine ops H' ?_
                        obtain ⟨b_3, gh1', h1'⟩ := Option.bind_eq_some_iff.1 h1'
                        refine opsV_cut 3 (fun e' => e' = { N := 118, np := 1, nx := 4, sl := [(3, .pl (.one (.ref 1 []))), (6, .pl (.one (.v (.sc (.int .i64 v))))), (7, .pl (.one (.ref 2 []))), (15, .pl (.one (.ref 3 []))), (107, .pl (.one (.v (.sc (.bool b_3)))))], ob := [(1, .box true [.list true 1 (List.map (rL true 1 (rK .i64)) x22.1.Parents), .list true 4 (List.map (r_T_impl_Body true) x22.1.Bodies)]), (2, .list true 1 (List.map rS x36.1)), (3, .list true 1 (List.map rS x98.1))] }) ?_ ?_
                        · simp only [List.take_succ_cons, List.take_zero]
                          refine opsV_sp (fun hc' => ?_) (fun hc' => ?_)
                          · replace gh1' := (ifF hc').symm.trans gh1'
                            refine ops H' ?_
                            obtain rfl := Option.some.inj gh1'
                            refine opsV_nil ?_
                            exact ⟨rfl, shd [3, 6, 7, 15, 107] [(1, 1), (2, 2), (3, 3)] 4 rfl⟩
                          · replace gh1' := (ifT hc').symm.trans gh1'
                            refine ops H' ?_
                            obtain rfl := Option.some.inj gh1'
                            refine opsV_nil ?_
                            exact ⟨rfl, shd [3, 6, 7, 15, 107] [(1, 1), (2, 2), (3, 3)] 4 rfl⟩
                        · rintro e' rfl
                          simp only [List.drop_succ_cons, List.drop_zero]
                          refine ops H' ?_
                          obtain ⟨b_4, gh1', h1'⟩ := Option.bind_eq_some_iff.1 h1'
                          refine opsV_cut 5 (fun e' => e' = { N := 118, np := 1, nx := 2, sl := [(3, .pl (.one (.ref 1 []))), (6, .pl (.one (.v (.sc (.int .i64 v))))), (113, .pl (.one (.v (.sc (.bool b_4)))))], ob := [(1, .box true [.list true 1 (List.map (rL true 1 (rK .i64)) x22.1.Parents), .list true 4 (List.map (r_T_impl_Body true) x22.1.Bodies)])] }) ?_ ?_
                          · simp only [List.take_succ_cons, List.take_zero]
                            refine opsV_sp (fun hc' => ?_) (fun hc' => ?_)
                            · replace gh1' := (ifF hc').symm.trans gh1'
                              refine ops H' ?_
                              obtain ⟨x111, hy', gh1'⟩ := Option.bind_eq_some_iff.1 gh1'
                              refine callG H' (fun _ => []) (W_laws_sameTexts _ _ _ hy') ?_
                              refine ops H' ?_
                              obtain rfl := Option.some.inj gh1'
                              refine opsV_nil ?_
                              exact ⟨rfl, shd [3, 6, 113] [(1, 1)] 2 rfl⟩
                            · replace gh1' := (ifT hc').symm.trans gh1'
                              refine ops H' ?_
                              obtain rfl := Option.some.inj gh1'
                              refine opsV_nil ?_
                              exact ⟨rfl, shd [3, 6, 113] [(1, 1)] 2 rfl⟩
                          · rintro e' rfl
                            simp only [List.drop_succ_cons, List.drop_zero]
                            refine opsN ?_
                            refine wpV_split (fun hc' => ?_) (fun hc' => ?_)
                            · replace h1' := (ifT hc').symm.trans h1'
                              refine wpV_seq1 ?_
                              refine wpV_region ?_
                              refine ops H' ?_
                              refine opsN ?_
                              refine retN ?_
                              obtain rfl := Option.some.inj h1'
                              refine ⟨_, rfl, fun hr' => ?_⟩
                              subst hr'
                              obtain rfl := Option.some.inj h0'
                              exact outG H' rfl rfl
                            · replace h1' := (ifF hc').symm.trans h1'
                              refine skipN ?_
                              refine wpV_region ?_
                              refine ops H' ?_
                              refine opsN ?_
                              obtain rfl := Option.some.inj h1'
                              exact shd [3, 6] [(1, 1)] 2 ⟨_, rfl, rfl⟩
      · replace h1' := (ifF hc').symm.trans h1'
        refine exitN ?_
        obtain rfl := Option.some.inj h1'
        refine ⟨_, rfl, fun hr' => ?_⟩
        subst hr'
        exact shd [3] [(1, 1)] 2 ⟨h0', rfl⟩
    · rintro e' ⟨h0', rfl⟩
      unfold laws_FnPicks_j1 at h0'
      refine wpV_seq1 ?_
      refine wpV_region ?_
      refine ops H' ?_
      refine opsN ?_
      refine retN ?_
      obtain rfl := Option.some.inj h0'
      exact outG H' rfl rfl
end Go.TV.KFnPicks
