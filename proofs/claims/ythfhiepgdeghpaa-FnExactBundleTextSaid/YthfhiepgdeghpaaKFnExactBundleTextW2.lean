/- Walks. -/
import Derived.Test.YthfhiepgdeghpaaKFnExactBundleTextE
import Derived.Test.YthfhiepgdeghpaaKFnExactBundleTextW1
set_option linter.unusedVariables false
set_option linter.unusedSimpArgs false
set_option maxHeartbeats 8000000
set_option maxRecDepth 100000
namespace Go.TV.KFnExactBundleText
attribute [local irreducible] anyV wpV opsV Does thenV blockV RetL quV seqV
open Go.Proofs.Try Go.TV.F
theorem W_impl_inRange (n : Int) (least : Int) (most : Int) (r' : Bool) (h0' : impl_inRange n least most = some r') : Fn X 155 [.one (.sc (.int .i64 n)), .one (.sc (.int .i64 least)), .one (.sc (.int .i64 most))] [.one (.sc (.bool r'))] [] := by
  have H' := t3
  unfold impl_inRange at h0'
  refine Fn.start (fn := f155) (N := 15) (res := [.tmp 6]) rfl rfl rfl rfl rfl (by simp) ?_
  refine enterG H' ?_
  refine wpV_seq1 ?_
  refine wpV_region ?_
  refine ops H' ?_
  refine opsN ?_
  refine wpV_seq1 ?_
  refine wpV_region ?_
  refine ops H' ?_
  obtain ⟨b, gh0', h0'⟩ := Option.bind_eq_some_iff.1 h0'
  refine opsV_cut 4 (fun e' => e' = { N := 15, np := 3, nx := 3, sl := [(14, .pl (.one (.v (.sc (.bool b)))))], ob := [] }) ?_ ?_
  · simp only [List.take_succ_cons, List.take_zero]
    refine opsV_sp (fun hc' => ?_) (fun hc' => ?_)
    · replace gh0' := (ifT hc').symm.trans gh0'
      refine ops H' ?_
      obtain rfl := Option.some.inj gh0'
      refine opsV_nil ?_
      exact ⟨rfl, shd [14] [] 3 rfl⟩
    · replace gh0' := (ifF hc').symm.trans gh0'
      refine ops H' ?_
      obtain rfl := Option.some.inj gh0'
      refine opsV_nil ?_
      exact ⟨rfl, shd [14] [] 3 rfl⟩
  · rintro e' rfl
    simp only [List.drop_succ_cons, List.drop_zero]
    refine ops H' ?_
    refine opsN ?_
    refine retN ?_
    obtain rfl := Option.some.inj h0'
    exact outG H' rfl rfl
theorem W_impl_numbersOk (list_ : List Int) (r' : Bool) (h0' : impl_numbersOk list_ = some r') : Fn X 154 [.one (.list false 1 (List.map (rK .i64) list_))] [.one (.sc (.bool r'))] [] := by
  have H' := And.intro t3 (And.intro t44 (R_i64))
  unfold impl_numbersOk at h0'
  refine Fn.start (fn := f154) (N := 15) (res := [.tmp 2]) rfl rfl rfl rfl rfl (by simp) ?_
  refine enterG H' ?_
  refine wpV_seq1 ?_
  refine wpV_region ?_
  refine ops H' ?_
  refine opsN ?_
  refine wpV_seqJ (fun e' => impl_numbersOk_j1 = some r' ∧ e' = { N := 15, np := 1, nx := 1, sl := [], ob := [] }) ?_ ?_
  · refine wpV_seq1 ?_
    refine wpV_region ?_
    refine ops H' ?_
    refine opsN ?_
    obtain ⟨p, hl', h0'⟩ := Option.bind_eq_some_iff.1 h0'
    refine wpV_block ?_
    refine wpV_loopM (fun x7 e' => e' = { N := 15, np := 1, nx := 1, sl := [(5, .pl (.one (.v (.list false 1 (List.map (rK .i64) list_))))), (6, .pl (.one (.v (.sc (.int .i64 (list_.length : Int)))))), (7, .pl (.one (.v (.sc (.int .i64 x7)))))], ob := [] }) hl' (shd [5, 6, 7] [] 1 rfl) ?_
    rintro x7 y1' e' h1' rfl
    replace h1' : impl_numbersOk_l1 list_ x7 = some y1' := h1'
    unfold impl_numbersOk_l1 at h1'
    refine wpV_seq1 ?_
    refine wpV_region ?_
    refine ops H' ?_
    refine opsN ?_
    refine wpV_seq1 ?_
    refine wpV_split (fun hc' => ?_) (fun hc' => ?_)
    · replace h1' := (ifT hc').symm.trans h1'
      refine skipN ?_
      refine wpV_seq1 ?_
      refine wpV_block ?_
      refine wpV_seq1 ?_
      refine wpV_region ?_
      obtain ⟨x, hv', h1'⟩ := Option.bind_eq_some_iff.1 h1'
      have H' := And.intro (geti_f hv') H'
      refine ops H' ?_
      refine opsN ?_
      refine wpV_seq1 ?_
      refine wpV_region ?_
      refine ops H' ?_
      obtain ⟨x12, hy', h1'⟩ := Option.bind_eq_some_iff.1 h1'
      refine callG H' (fun _ => []) (W_impl_inRange _ _ _ _ hy') ?_
      refine ops H' ?_
      refine opsN ?_
      refine wpV_split (fun hc' => ?_) (fun hc' => ?_)
      · replace h1' := (ifT hc').symm.trans h1'
        refine wpV_seq1 ?_
        refine wpV_region ?_
        refine ops H' ?_
        refine opsN ?_
        refine retN ?_
        obtain rfl := Option.some.inj h1'
        refine ⟨_, rfl, fun hr' => ?_⟩
        subst hr'
        obtain rfl := Option.some.inj h0'
        exact outG H' rfl rfl
      · replace h1' := (ifF hc').symm.trans h1'
        refine skipN ?_
        refine wpV_region ?_
        refine ops H' ?_
        refine opsN ?_
        obtain rfl := Option.some.inj h1'
        exact shd [5, 6, 7] [] 1 ⟨_, rfl, rfl⟩
    · replace h1' := (ifF hc').symm.trans h1'
      refine exitN ?_
      obtain rfl := Option.some.inj h1'
      refine ⟨_, rfl, fun hr' => ?_⟩
      subst hr'
      exact shd [] [] 1 ⟨h0', rfl⟩
  · rintro e' ⟨h0', rfl⟩
    unfold impl_numbersOk_j1 at h0'
    refine wpV_seq1 ?_
    refine wpV_region ?_
    refine ops H' ?_
    refine opsN ?_
    refine retN ?_
    obtain rfl := Option.some.inj h0'
    exact outG H' rfl rfl
theorem W_internal_stringslite_IndexByte (s : ByteArray) (c : Int) (r' : Int) (h0' : internal_stringslite_IndexByte s c = some r') : Fn X 216 [.one (.sc (.string s)), .one (.sc (.int .u8 c))] [.one (.sc (.int .i64 r'))] [] := by
  have H' := trivial
  unfold internal_stringslite_IndexByte at h0'
  refine Fn.start (fn := f216) (N := 8) (res := [.tmp 4]) rfl rfl rfl rfl rfl (by simp) ?_
  refine enterG H' ?_
  refine wpV_seq1 ?_
  refine wpV_region ?_
  refine ops H' ?_
  refine opsN ?_
  refine wpV_seq1 ?_
  refine wpV_region ?_
  refine ops H' ?_
  refine opsV_idxB H' ?_
  refine ops H' ?_
  refine opsN ?_
  refine retN ?_
  obtain rfl := Option.some.inj h0'
  exact outG H' rfl rfl
theorem W_internal_stringslite_Index (s : ByteArray) (substr : ByteArray) (r' : Int) (h0' : internal_stringslite_Index s substr = some r') : Fn X 215 [.one (.sc (.string s)), .one (.sc (.string substr))] [.one (.sc (.int .i64 r'))] [] := by
  have H' := And.intro t3 (t9)
  unfold internal_stringslite_Index at h0'
  refine Fn.start (fn := f215) (N := 143) (res := [.tmp 4]) rfl rfl rfl rfl rfl (by simp) ?_
  refine enterG H' ?_
  refine wpV_seq1 ?_
  refine wpV_region ?_
  refine ops H' ?_
  refine opsN ?_
  refine wpV_seq1 ?_
  refine wpV_region ?_
  refine ops H' ?_
  refine opsN ?_
  refine wpV_seq1 ?_
  refine wpV_block ?_
  refine wpV_seq1 ?_
  refine wpV_region ?_
  refine ops H' ?_
  obtain ⟨b, gh0', h0'⟩ := Option.bind_eq_some_iff.1 h0'
  refine opsV_cut 4 (fun e' => e' = { N := 143, np := 2, nx := 2, sl := [(0, .pl (.one (.v (.sc (.string s))))), (1, .pl (.one (.v (.sc (.string substr))))), (5, .pl (.one (.v (.sc (.int .i64 (substr.size : Int)))))), (23, .pl (.one (.v (.sc (.bool b)))))], ob := [] }) ?_ ?_
  · simp only [List.take_succ_cons, List.take_zero]
    refine opsV_sp (fun hc' => ?_) (fun hc' => ?_)
    · replace gh0' := (ifF hc').symm.trans gh0'
      refine ops H' ?_
      obtain rfl := Option.some.inj gh0'
      refine opsV_nil ?_
      exact ⟨rfl, shd [0, 1, 5, 23] [] 2 rfl⟩
    · replace gh0' := (ifT hc').symm.trans gh0'
      refine ops H' ?_
      obtain rfl := Option.some.inj gh0'
      refine opsV_nil ?_
      exact ⟨rfl, shd [0, 1, 5, 23] [] 2 rfl⟩
  · rintro e' rfl
    simp only [List.drop_succ_cons, List.drop_zero]
    refine ops H' ?_
    refine opsN ?_
    refine wpV_split (fun hc' => ?_) (fun hc' => ?_)
    · replace h0' := (ifT hc').symm.trans h0'
      refine wpV_seq1 ?_
      refine wpV_region ?_
      refine ops H' ?_
      refine opsN ?_
      refine retN ?_
      obtain rfl := Option.some.inj h0'
      exact outG H' rfl rfl
    · replace h0' := (ifF hc').symm.trans h0'
      refine wpV_seq1 ?_
      refine wpV_region ?_
      refine ops H' ?_
      refine opsN ?_
      refine wpV_split (fun hc' => ?_) (fun hc' => ?_)
      · replace h0' := (ifT hc').symm.trans h0'
        refine wpV_seq1 ?_
        refine wpV_region ?_
        obtain ⟨x29, hv', h0'⟩ := Option.bind_eq_some_iff.1 h0'
        have H' := And.intro (sidx_f hv') H'
        refine ops H' ?_
        obtain ⟨x30, hy', h0'⟩ := Option.bind_eq_some_iff.1 h0'
        refine callG H' (fun _ => []) (W_internal_stringslite_IndexByte _ _ _ hy') ?_
        refine ops H' ?_
        refine opsN ?_
        refine retN ?_
        obtain rfl := Option.some.inj h0'
        exact outG H' rfl rfl
      · replace h0' := (ifF hc').symm.trans h0'
        refine wpV_seq1 ?_
        refine wpV_region ?_
        refine ops H' ?_
        refine opsN ?_
        refine wpV_split (fun hc' => ?_) (fun hc' => ?_)
        · replace h0' := (ifT hc').symm.trans h0'
          refine wpV_seq1 ?_
          refine wpV_region ?_
          refine ops H' ?_
          refine opsN ?_
          refine retN ?_
          obtain rfl := Option.some.inj h0'
          exact outG H' rfl rfl
        · replace h0' := (ifF hc').symm.trans h0'
          cases h0'
theorem W_strings_Index (s : ByteArray) (substr : ByteArray) (r' : Int) (h0' : strings_Index s substr = some r') : Fn X 212 [.one (.sc (.string s)), .one (.sc (.string substr))] [.one (.sc (.int .i64 r'))] [] := by
  have H' := trivial
  unfold strings_Index at h0'
  refine Fn.start (fn := f212) (N := 8) (res := [.tmp 4]) rfl rfl rfl rfl rfl (by simp) ?_
  refine enterG H' ?_
  refine wpV_seq1 ?_
  refine wpV_region ?_
  refine ops H' ?_
  refine opsN ?_
  refine wpV_seq1 ?_
  refine wpV_region ?_
  refine ops H' ?_
  obtain ⟨x7, hy', h0'⟩ := Option.bind_eq_some_iff.1 h0'
  refine callG H' (fun _ => []) (W_internal_stringslite_Index _ _ _ hy') ?_
  refine ops H' ?_
  refine opsN ?_
  refine retN ?_
  obtain rfl := Option.some.inj h0'
  exact outG H' rfl rfl
theorem W_strings_Contains (s : ByteArray) (substr : ByteArray) (r' : Bool) (h0' : strings_Contains s substr = some r') : Fn X 207 [.one (.sc (.string s)), .one (.sc (.string substr))] [.one (.sc (.bool r'))] [] := by
  have H' := t3
  unfold strings_Contains at h0'
  refine Fn.start (fn := f207) (N := 9) (res := [.tmp 4]) rfl rfl rfl rfl rfl (by simp) ?_
  refine enterG H' ?_
  refine wpV_seq1 ?_
  refine wpV_region ?_
  refine ops H' ?_
  refine opsN ?_
  refine wpV_seq1 ?_
  refine wpV_region ?_
  refine ops H' ?_
  obtain ⟨x7, hy', h0'⟩ := Option.bind_eq_some_iff.1 h0'
  refine callG H' (fun _ => []) (W_strings_Index _ _ _ hy') ?_
  refine ops H' ?_
  refine opsN ?_
  refine retN ?_
  obtain rfl := Option.some.inj h0'
  exact outG H' rfl rfl
theorem W_impl_LineOk (line : ByteArray) (r' : Bool) (h0' : impl_LineOk line = some r') : Fn X 195 [.one (.sc (.string line))] [.one (.sc (.bool r'))] [] := by
  have H' := And.intro t3 (t9)
  unfold impl_LineOk at h0'
  refine Fn.start (fn := f195) (N := 11) (res := [.tmp 2]) rfl rfl rfl rfl rfl (by simp) ?_
  refine enterG H' ?_
  refine wpV_seq1 ?_
  refine wpV_region ?_
  refine ops H' ?_
  refine opsN ?_
  refine wpV_seq1 ?_
  refine wpV_region ?_
  refine ops H' ?_
  obtain ⟨b, gh0', h0'⟩ := Option.bind_eq_some_iff.1 h0'
  refine opsV_cut 4 (fun e' => e' = { N := 11, np := 1, nx := 1, sl := [(10, .pl (.one (.v (.sc (.bool b)))))], ob := [] }) ?_ ?_
  · simp only [List.take_succ_cons, List.take_zero]
    refine opsV_sp (fun hc' => ?_) (fun hc' => ?_)
    · replace gh0' := (ifT hc').symm.trans gh0'
      refine ops H' ?_
      obtain ⟨x8, hy', gh0'⟩ := Option.bind_eq_some_iff.1 gh0'
      refine callG H' (fun _ => []) (W_strings_Contains _ _ _ hy') ?_
      refine ops H' ?_
      obtain rfl := Option.some.inj gh0'
      refine opsV_nil ?_
      exact ⟨rfl, shd [10] [] 1 rfl⟩
    · replace gh0' := (ifF hc').symm.trans gh0'
      refine ops H' ?_
      obtain rfl := Option.some.inj gh0'
      refine opsV_nil ?_
      exact ⟨rfl, shd [10] [] 1 rfl⟩
  · rintro e' rfl
    simp only [List.drop_succ_cons, List.drop_zero]
    refine ops H' ?_
    refine opsN ?_
    refine retN ?_
    obtain rfl := Option.some.inj h0'
    exact outG H' rfl rfl
theorem W_impl_areLines (list_ : List ByteArray) (r' : Bool) (h0' : impl_areLines list_ = some r') : Fn X 190 [.one (.list false 1 (List.map rS list_))] [.one (.sc (.bool r'))] [] := by
  have H' := And.intro t3 (And.intro t9 (And.intro t55 (R_s)))
  unfold impl_areLines at h0'
  refine Fn.start (fn := f190) (N := 15) (res := [.tmp 2]) rfl rfl rfl rfl rfl (by simp) ?_
  refine enterG H' ?_
  refine wpV_seq1 ?_
  refine wpV_region ?_
  refine ops H' ?_
  refine opsN ?_
  refine wpV_seqJ (fun e' => impl_areLines_j1 = some r' ∧ e' = { N := 15, np := 1, nx := 1, sl := [], ob := [] }) ?_ ?_
  · refine wpV_seq1 ?_
    refine wpV_region ?_
    refine ops H' ?_
    refine opsN ?_
    obtain ⟨p, hl', h0'⟩ := Option.bind_eq_some_iff.1 h0'
    refine wpV_block ?_
    refine wpV_loopM (fun x7 e' => e' = { N := 15, np := 1, nx := 1, sl := [(5, .pl (.one (.v (.list false 1 (List.map rS list_))))), (6, .pl (.one (.v (.sc (.int .i64 (list_.length : Int)))))), (7, .pl (.one (.v (.sc (.int .i64 x7)))))], ob := [] }) hl' (shd [5, 6, 7] [] 1 rfl) ?_
    rintro x7 y1' e' h1' rfl
    replace h1' : impl_areLines_l1 list_ x7 = some y1' := h1'
    unfold impl_areLines_l1 at h1'
    refine wpV_seq1 ?_
    refine wpV_region ?_
    refine ops H' ?_
    refine opsN ?_
    refine wpV_seq1 ?_
    refine wpV_split (fun hc' => ?_) (fun hc' => ?_)
    · replace h1' := (ifT hc').symm.trans h1'
      refine skipN ?_
      refine wpV_seq1 ?_
      refine wpV_block ?_
      refine wpV_seq1 ?_
      refine wpV_region ?_
      obtain ⟨x, hv', h1'⟩ := Option.bind_eq_some_iff.1 h1'
      have H' := And.intro (geti_f hv') H'
      refine ops H' ?_
      refine opsN ?_
      refine wpV_seq1 ?_
      refine wpV_region ?_
      refine ops H' ?_
      obtain ⟨x12, hy', h1'⟩ := Option.bind_eq_some_iff.1 h1'
      refine callG H' (fun _ => []) (W_impl_LineOk _ _ hy') ?_
      refine ops H' ?_
      refine opsN ?_
      refine wpV_split (fun hc' => ?_) (fun hc' => ?_)
      · replace h1' := (ifT hc').symm.trans h1'
        refine wpV_seq1 ?_
        refine wpV_region ?_
        refine ops H' ?_
        refine opsN ?_
        refine retN ?_
        obtain rfl := Option.some.inj h1'
        refine ⟨_, rfl, fun hr' => ?_⟩
        subst hr'
        obtain rfl := Option.some.inj h0'
        exact outG H' rfl rfl
      · replace h1' := (ifF hc').symm.trans h1'
        refine skipN ?_
        refine wpV_region ?_
        refine ops H' ?_
        refine opsN ?_
        obtain rfl := Option.some.inj h1'
        exact shd [5, 6, 7] [] 1 ⟨_, rfl, rfl⟩
    · replace h1' := (ifF hc').symm.trans h1'
      refine exitN ?_
      obtain rfl := Option.some.inj h1'
      refine ⟨_, rfl, fun hr' => ?_⟩
      subst hr'
      exact shd [] [] 1 ⟨h0', rfl⟩
  · rintro e' ⟨h0', rfl⟩
    unfold impl_areLines_j1 at h0'
    refine wpV_seq1 ?_
    refine wpV_region ?_
    refine ops H' ?_
    refine opsN ?_
    refine retN ?_
    obtain rfl := Option.some.inj h0'
    exact outG H' rfl rfl
theorem W_impl_LinesOk (list_ : List ByteArray) (r' : Bool) (h0' : impl_LinesOk list_ = some r') : Fn X 156 [.one (.list false 1 (List.map rS list_))] [.one (.sc (.bool r'))] [] := by
  have H' := And.intro t3 (And.intro t55 (R_s))
  unfold impl_LinesOk at h0'
  refine Fn.start (fn := f156) (N := 10) (res := [.tmp 2]) rfl rfl rfl rfl rfl (by simp) ?_
  refine enterG H' ?_
  refine wpV_seq1 ?_
  refine wpV_region ?_
  refine ops H' ?_
  refine opsN ?_
  refine wpV_seq1 ?_
  refine wpV_region ?_
  refine ops H' ?_
  obtain ⟨b, gh0', h0'⟩ := Option.bind_eq_some_iff.1 h0'
  refine opsV_cut 3 (fun e' => e' = { N := 10, np := 1, nx := 1, sl := [(9, .pl (.one (.v (.sc (.bool b)))))], ob := [] }) ?_ ?_
  · simp only [List.take_succ_cons, List.take_zero]
    refine opsV_sp (fun hc' => ?_) (fun hc' => ?_)
    · replace gh0' := (ifT hc').symm.trans gh0'
      refine ops H' ?_
      obtain ⟨x8, hy', gh0'⟩ := Option.bind_eq_some_iff.1 gh0'
      refine callG H' (fun _ => []) (W_impl_areLines _ _ hy') ?_
      refine ops H' ?_
      obtain rfl := Option.some.inj gh0'
      refine opsV_nil ?_
      exact ⟨rfl, shd [9] [] 1 rfl⟩
    · replace gh0' := (ifF hc').symm.trans gh0'
      refine ops H' ?_
      obtain rfl := Option.some.inj gh0'
      refine opsV_nil ?_
      exact ⟨rfl, shd [9] [] 1 rfl⟩
  · rintro e' rfl
    simp only [List.drop_succ_cons, List.drop_zero]
    refine ops H' ?_
    refine opsN ?_
    refine retN ?_
    obtain rfl := Option.some.inj h0'
    exact outG H' rfl rfl
theorem W_impl_stepOk (x : T_impl_Step) (r' : Bool) (h0' : impl_stepOk x = some r') : Fn X 78 [.agg [.list false 1 (List.map (rK .i64) x.Parents), .sc (.string x.Note), .list false 4 (List.map (r_T_impl_Change false) x.Changes)]] [.one (.sc (.bool r'))] [] := by
  have H' := And.intro t3 (And.intro t9 (And.intro t44 (And.intro t55 (And.intro t102 (And.intro t104 (And.intro t108 (And.intro R_T_impl_Change (And.intro R_i64 (R_s)))))))))
  unfold impl_stepOk at h0'
  refine Fn.start (fn := f78) (N := 57) (res := [.tmp 2]) rfl rfl rfl rfl rfl (by simp) ?_
  refine enterG H' ?_
  refine wpV_seq1 ?_
  refine wpV_region ?_
  refine ops H' ?_
  refine opsN ?_
  refine wpV_seq1 ?_
  refine wpV_seq1 ?_
  refine wpV_region ?_
  refine ops H' ?_
  obtain ⟨b, gh0', h0'⟩ := Option.bind_eq_some_iff.1 h0'
  refine opsV_cut 5 (fun e' => e' = { N := 57, np := 3, nx := 4, sl := [(1, .pl (.one (.ref 3 []))), (14, .pl (.one (.v (.sc (.bool b)))))], ob := [(3, .box true [.list false 1 (List.map (rK .i64) x.Parents), .sc (.string x.Note), .list false 4 (List.map (r_T_impl_Change false) x.Changes)])] }) ?_ ?_
  · simp only [List.take_succ_cons, List.take_zero]
    refine opsV_sp (fun hc' => ?_) (fun hc' => ?_)
    · replace gh0' := (ifF hc').symm.trans gh0'
      refine ops H' ?_
      obtain ⟨x12, hy', gh0'⟩ := Option.bind_eq_some_iff.1 gh0'
      refine callG H' (fun _ => []) (W_impl_numbersOk _ _ hy') ?_
      refine ops H' ?_
      obtain rfl := Option.some.inj gh0'
      refine opsV_nil ?_
      exact ⟨rfl, shd [1, 14] [(3, 3)] 4 rfl⟩
    · replace gh0' := (ifT hc').symm.trans gh0'
      refine ops H' ?_
      obtain rfl := Option.some.inj gh0'
      refine opsV_nil ?_
      exact ⟨rfl, shd [1, 14] [(3, 3)] 4 rfl⟩
  · rintro e' rfl
    simp only [List.drop_succ_cons, List.drop_zero]
    refine ops H' ?_
    obtain ⟨b_1, gh0', h0'⟩ := Option.bind_eq_some_iff.1 h0'
    refine opsV_cut 5 (fun e' => e' = { N := 57, np := 3, nx := 4, sl := [(1, .pl (.one (.ref 3 []))), (20, .pl (.one (.v (.sc (.bool b_1)))))], ob := [(3, .box true [.list false 1 (List.map (rK .i64) x.Parents), .sc (.string x.Note), .list false 4 (List.map (r_T_impl_Change false) x.Changes)])] }) ?_ ?_
    · simp only [List.take_succ_cons, List.take_zero]
      refine opsV_sp (fun hc' => ?_) (fun hc' => ?_)
      · replace gh0' := (ifF hc').symm.trans gh0'
        refine ops H' ?_
        obtain rfl := Option.some.inj gh0'
        refine opsV_nil ?_
        exact ⟨rfl, shd [1, 20] [(3, 3)] 4 rfl⟩
      · replace gh0' := (ifT hc').symm.trans gh0'
        refine ops H' ?_
        obtain rfl := Option.some.inj gh0'
        refine opsV_nil ?_
        exact ⟨rfl, shd [1, 20] [(3, 3)] 4 rfl⟩
    · rintro e' rfl
      simp only [List.drop_succ_cons, List.drop_zero]
      refine ops H' ?_
      obtain ⟨b_2, gh0', h0'⟩ := Option.bind_eq_some_iff.1 h0'
      refine opsV_cut 5 (fun e' => e' = { N := 57, np := 3, nx := 4, sl := [(1, .pl (.one (.ref 3 []))), (26, .pl (.one (.v (.sc (.bool b_2)))))], ob := [(3, .box true [.list false 1 (List.map (rK .i64) x.Parents), .sc (.string x.Note), .list false 4 (List.map (r_T_impl_Change false) x.Changes)])] }) ?_ ?_
      · simp only [List.take_succ_cons, List.take_zero]
        refine opsV_sp (fun hc' => ?_) (fun hc' => ?_)
        · replace gh0' := (ifF hc').symm.trans gh0'
          refine ops H' ?_
          obtain rfl := Option.some.inj gh0'
          refine opsV_nil ?_
          exact ⟨rfl, shd [1, 26] [(3, 3)] 4 rfl⟩
        · replace gh0' := (ifT hc').symm.trans gh0'
          refine ops H' ?_
          obtain rfl := Option.some.inj gh0'
          refine opsV_nil ?_
          exact ⟨rfl, shd [1, 26] [(3, 3)] 4 rfl⟩
      · rintro e' rfl
        simp only [List.drop_succ_cons, List.drop_zero]
        refine opsN ?_
        refine wpV_split (fun hc' => ?_) (fun hc' => ?_)
        · replace h0' := (ifT hc').symm.trans h0'
          refine wpV_seq1 ?_
          refine wpV_region ?_
          refine ops H' ?_
          refine opsN ?_
          refine retN ?_
          obtain rfl := Option.some.inj h0'
          exact outG H' rfl rfl
        · replace h0' := (ifF hc').symm.trans h0'
          refine skipN ?_
          refine wpV_seqJ (fun e' => impl_stepOk_j1 = some r' ∧ e' = { N := 57, np := 3, nx := 3, sl := [], ob := [] }) ?_ ?_
          · refine wpV_seq1 ?_
            refine wpV_region ?_
            refine ops H' ?_
            refine opsN ?_
            obtain ⟨p, hl', h0'⟩ := Option.bind_eq_some_iff.1 h0'
            refine wpV_block ?_
            refine wpV_loopM (fun x30 e' => e' = { N := 57, np := 3, nx := 3, sl := [(28, .pl (.one (.v (.list false 4 (List.map (r_T_impl_Change false) x.Changes))))), (29, .pl (.one (.v (.sc (.int .i64 (x.Changes.length : Int)))))), (30, .pl (.one (.v (.sc (.int .i64 x30)))))], ob := [] }) hl' (shd [28, 29, 30] [] 3 rfl) ?_
            rintro x30 y1' e' h1' rfl
            replace h1' : impl_stepOk_l1 x x30 = some y1' := h1'
            unfold impl_stepOk_l1 at h1'
            refine wpV_seq1 ?_
            refine wpV_region ?_
            refine ops H' ?_
            refine opsN ?_
            refine wpV_seq1 ?_
            refine wpV_split (fun hc' => ?_) (fun hc' => ?_)
            · replace h1' := (ifT hc').symm.trans h1'
              refine skipN ?_
              refine wpV_seq1 ?_
              refine wpV_block ?_
              refine wpV_seq1 ?_
              refine wpV_region ?_
              obtain ⟨x_1, hv', h1'⟩ := Option.bind_eq_some_iff.1 h1'
              have H' := And.intro (geti_f hv') H'
              refine ops H' ?_
              refine opsN ?_
              refine wpV_seq1 ?_
              refine wpV_region ?_
              refine ops H' ?_
              obtain ⟨x36, hy', h1'⟩ := Option.bind_eq_some_iff.1 h1'
              refine callG H' (fun _ => []) (W_impl_inRange _ _ _ _ hy') ?_
              refine ops H' ?_
              obtain ⟨b_3, gh1', h1'⟩ := Option.bind_eq_some_iff.1 h1'
              refine opsV_cut 5 (fun e' => e' = { N := 57, np := 3, nx := 4, sl := [(4, .pl (.one (.ref 3 []))), (28, .pl (.one (.v (.list false 4 (List.map (r_T_impl_Change false) x.Changes))))), (29, .pl (.one (.v (.sc (.int .i64 (x.Changes.length : Int)))))), (30, .pl (.one (.v (.sc (.int .i64 x30))))), (43, .pl (.one (.v (.sc (.bool b_3)))))], ob := [(3, .box true [.sc (.int .i64 x_1.Kind), .sc (.string x_1.Path), .sc (.string x_1.To), .list false 1 (List.map rS x_1.Lines)])] }) ?_ ?_
              · simp only [List.take_succ_cons, List.take_zero]
                refine opsV_sp (fun hc' => ?_) (fun hc' => ?_)
                · replace gh1' := (ifF hc').symm.trans gh1'
                  refine ops H' ?_
                  obtain rfl := Option.some.inj gh1'
                  refine opsV_nil ?_
                  exact ⟨rfl, shd [4, 28, 29, 30, 43] [(3, 3)] 4 rfl⟩
                · replace gh1' := (ifT hc').symm.trans gh1'
                  refine ops H' ?_
                  obtain rfl := Option.some.inj gh1'
                  refine opsV_nil ?_
                  exact ⟨rfl, shd [4, 28, 29, 30, 43] [(3, 3)] 4 rfl⟩
              · rintro e' rfl
                simp only [List.drop_succ_cons, List.drop_zero]
                refine ops H' ?_
                obtain ⟨b_4, gh1', h1'⟩ := Option.bind_eq_some_iff.1 h1'
                refine opsV_cut 5 (fun e' => e' = { N := 57, np := 3, nx := 4, sl := [(4, .pl (.one (.ref 3 []))), (28, .pl (.one (.v (.list false 4 (List.map (r_T_impl_Change false) x.Changes))))), (29, .pl (.one (.v (.sc (.int .i64 (x.Changes.length : Int)))))), (30, .pl (.one (.v (.sc (.int .i64 x30))))), (49, .pl (.one (.v (.sc (.bool b_4)))))], ob := [(3, .box true [.sc (.int .i64 x_1.Kind), .sc (.string x_1.Path), .sc (.string x_1.To), .list false 1 (List.map rS x_1.Lines)])] }) ?_ ?_
                · simp only [List.take_succ_cons, List.take_zero]
                  refine opsV_sp (fun hc' => ?_) (fun hc' => ?_)
                  · replace gh1' := (ifF hc').symm.trans gh1'
                    refine ops H' ?_
                    obtain rfl := Option.some.inj gh1'
                    refine opsV_nil ?_
                    exact ⟨rfl, shd [4, 28, 29, 30, 49] [(3, 3)] 4 rfl⟩
                  · replace gh1' := (ifT hc').symm.trans gh1'
                    refine ops H' ?_
                    obtain rfl := Option.some.inj gh1'
                    refine opsV_nil ?_
                    exact ⟨rfl, shd [4, 28, 29, 30, 49] [(3, 3)] 4 rfl⟩
                · rintro e' rfl
                  simp only [List.drop_succ_cons, List.drop_zero]
                  refine ops H' ?_
                  obtain ⟨b_5, gh1', h1'⟩ := Option.bind_eq_some_iff.1 h1'
                  refine opsV_cut 5 (fun e' => e' = { N := 57, np := 3, nx := 3, sl := [(28, .pl (.one (.v (.list false 4 (List.map (r_T_impl_Change false) x.Changes))))), (29, .pl (.one (.v (.sc (.int .i64 (x.Changes.length : Int)))))), (30, .pl (.one (.v (.sc (.int .i64 x30))))), (55, .pl (.one (.v (.sc (.bool b_5)))))], ob := [] }) ?_ ?_
                  · simp only [List.take_succ_cons, List.take_zero]
                    refine opsV_sp (fun hc' => ?_) (fun hc' => ?_)
                    · replace gh1' := (ifF hc').symm.trans gh1'
                      refine ops H' ?_
                      obtain ⟨x53, hy', gh1'⟩ := Option.bind_eq_some_iff.1 gh1'
                      refine callG H' (fun _ => []) (W_impl_LinesOk _ _ hy') ?_
                      refine ops H' ?_
                      obtain rfl := Option.some.inj gh1'
                      refine opsV_nil ?_
                      exact ⟨rfl, shd [28, 29, 30, 55] [] 3 rfl⟩
                    · replace gh1' := (ifT hc').symm.trans gh1'
                      refine ops H' ?_
                      obtain rfl := Option.some.inj gh1'
                      refine opsV_nil ?_
                      exact ⟨rfl, shd [28, 29, 30, 55] [] 3 rfl⟩
                  · rintro e' rfl
                    simp only [List.drop_succ_cons, List.drop_zero]
                    refine opsN ?_
                    refine wpV_split (fun hc' => ?_) (fun hc' => ?_)
                    · replace h1' := (ifT hc').symm.trans h1'
                      refine wpV_seq1 ?_
                      refine wpV_region ?_
                      refine ops H' ?_
                      refine opsN ?_
                      refine retN ?_
                      obtain rfl := Option.some.inj h1'
                      refine ⟨_, rfl, fun hr' => ?_⟩
                      subst hr'
                      obtain rfl := Option.some.inj h0'
                      exact outG H' rfl rfl
                    · replace h1' := (ifF hc').symm.trans h1'
                      refine skipN ?_
                      refine wpV_region ?_
                      refine ops H' ?_
                      refine opsN ?_
                      obtain rfl := Option.some.inj h1'
                      exact shd [28, 29, 30] [] 3 ⟨_, rfl, rfl⟩
            · replace h1' := (ifF hc').symm.trans h1'
              refine exitN ?_
              obtain rfl := Option.some.inj h1'
              refine ⟨_, rfl, fun hr' => ?_⟩
              subst hr'
              exact shd [] [] 3 ⟨h0', rfl⟩
          · rintro e' ⟨h0', rfl⟩
            unfold impl_stepOk_j1 at h0'
            refine wpV_seq1 ?_
            refine wpV_region ?_
            refine ops H' ?_
            refine opsN ?_
            refine retN ?_
            obtain rfl := Option.some.inj h0'
            exact outG H' rfl rfl
section
open Go.RowKit Go.Proofs Go
theorem strings_Builder_String_strBytes (s : ByteArray) (h : s.size = 0) : s = ByteArray.empty := by
  apply ByteArray.ext
  have : s.data.size = 0 := h
  exact Array.eq_empty_of_size_eq_zero this
theorem strings_Builder_String_bString (b : Nat) (p v : Value) (s : ByteArray) (w : World) (hbk : w.heap[b]? = some (.cells #[p, v] 113 (0, 0))) (hown : w.ownsRow 0 5 1 v s.size (Go.Lib.strCells s)) (hne : v.ownBlock ≠ some b) (hz : s.size = 0 → v = .slice none 0 0) :
    Calls Try.prog 81 #[.pointer (some ⟨b, 0, none⟩)] w fun e w' => e = .returned (.string s) ∧ w'.os = w.os ∧ w'.tape = w.tape ∧ w'.output = w.output ∧ w.heap.size ≤ w'.heap.size ∧ (∀ k, k < w.heap.size → k ≠ b → v.ownBlock ≠ some k → w'.heap[k]? = w.heap[k]?) := by
  have mixed : Try.prog.follows .mixedOrders = true := by kernel_rfl
  by_cases h0 : s.size = 0
  · have hs := strings_Builder_String_strBytes s h0
    subst hs
    have hv := hz h0
    subst hv
    have hUS : ∀ (W : World) (q : Option Addr), (Builtin.unsafeString_ #[187, 3] 9 #[.pointer q, .int .i64 0]).run Try.prog W = .ok (.string .empty) W := fun W q => Go.Lib.run_unsafeString_none W _ _ _ q
    have c1 : w.drew.cell? ⟨b, 1, none⟩ = some (.slice none 0 0) := by
      have : w.drew.heap[b]? = some (.cells #[p, .slice none 0 0] 113 (0, 0)) := hbk
      rw [Go.Lib.cell_of_heap this]; rfl
    have hSD : (Builtin.unsafeSliceData_ #[36] 187 #[.slice none 0 0]).run Try.prog w.drew = .ok (.pointer none) w.drew := rfl
    go_enter Try.func81, Try.ntmps81
    go_wp2
    go_region_o
    all_goals (go_wp2; go_ret; exact ⟨rfl, rfl, rfl, rfl, Nat.le_refl _, fun _ _ _ _ => rfl⟩)
  · have hl : s.data.toList.length = s.size := rfl
    have hl0 : s.data.toList ≠ [] := fun q => h0 (by
      rw [q] at hl
      exact hl.symm)
    obtain ⟨g, cap, cur, rfl, hbg, hg, hnc, hcm, hcs, htake⟩ : ∃ g cap cur, v = .slice (some ⟨g, 0, none⟩) s.size cap ∧ 0 ≤ g ∧ w.heap[g]? = some (.cells cur 5 (0, 0)) ∧ s.size ≤ cap ∧ cap ≤ maxLen ∧ cur.size = cap * 1 ∧ cur.toList.take (s.size * 1) = Go.Lib.strCells s := by
      rcases hown.2 with ⟨_, hz⟩ | ⟨g, cap, cur, hv, r⟩
      · exact absurd hz h0
      · exact ⟨g, cap, cur, hv, r⟩
    have c1 : w.drew.cell? ⟨b, 1, none⟩ = some (.slice (some ⟨g, 0, none⟩) s.size cap) := by
      have : w.drew.heap[b]? = some (.cells #[p, .slice (some ⟨g, 0, none⟩) s.size cap] 113 (0, 0)) := hbk
      rw [Go.Lib.cell_of_heap this]; rfl
    have hSD : (Builtin.unsafeSliceData_ #[36] 187 #[.slice (some ⟨g, 0, none⟩) s.size cap]).run Try.prog w.drew = .ok (.pointer (some ⟨g, 0, none⟩)) w.drew :=
      Go.Lib.run_unsafeSliceData_row _ _ _ _ _ _ (by omega)
    have hUS : (Builtin.unsafeString_ #[187, 3] 9 #[.pointer (some ⟨g, 0, none⟩), .int .i64 s.size]).run Try.prog w.drew = .ok (.string s) (w.drew.freeze ⟨g, 0, none⟩ s.size) := by
      have := Go.Lib.run_unsafeString_row (P := Try.prog) w.drew 187 3 9 5 Try.underlying187 (by kernel_rfl) g cur.size (by have hg' : w.drew.heap[g]? = some (.cells cur 5 (0, 0)) := hg; simp [World.shape?, hg']) s.data.toList hl0 (by omega) (by unfold maxLen at hcm; omega) (fun j x hx => by
        have := hown.cells (g := g) rfl j (.int .u8 x.toNat) (by simp only [Go.Lib.strCells, List.getElem?_map, hx, Option.map_some])
        exact this)
      rw [hl] at this
      rw [this]
    have hfr : ∀ k, k ≠ g → (w.drew.freeze ⟨g, 0, none⟩ s.size).heap[k]? = w.heap[k]? := fun k hk => by
      unfold World.freeze
      rw [if_neg h0]
      simp only [Array.getElem?_modify]
      rw [if_neg (fun q => hk q.symm)]
      rfl
    have hsz : (w.drew.freeze ⟨g, 0, none⟩ s.size).heap.size = w.heap.size := by
      unfold World.freeze
      rw [if_neg h0]
      exact Array.size_modify
    have ho : (w.drew.freeze ⟨g, 0, none⟩ s.size).os = w.os ∧ (w.drew.freeze ⟨g, 0, none⟩ s.size).tape = w.tape ∧ (w.drew.freeze ⟨g, 0, none⟩ s.size).output = w.output := by
      unfold World.freeze
      rw [if_neg h0]
      exact ⟨rfl, rfl, rfl⟩
    go_enter Try.func81, Try.ntmps81
    go_wp2
    go_region_o
    all_goals (go_wp2; go_ret; exact ⟨rfl, ho.1, ho.2.1, ho.2.2, Nat.le_of_eq hsz.symm, fun k _ _ hk => hfr k (fun q => hk (by rw [q]; rfl))⟩)
end
theorem W_strings_Builder_String (b : ByteArray) (r' : ByteArray) (h0' : strings_Builder_String b = some r') : Fn X 81 [.one (.bld 113 5 b)] [.one (.sc (.string r'))] [] := by
  obtain rfl := Option.some.inj h0'
  exact Fn_bldString ⟨_, Go.Proofs.Try.func81, rfl, rfl⟩ (fun bb p v w h1 h2 h3 h4 => strings_Builder_String_bString bb p v b w h1 h2 h3 h4)
theorem W_impl_listText (list_ : List Int) (r' : ByteArray) (h0' : impl_listText list_ = some r') : Fn X 157 [.one (.list false 1 (List.map (rK .i64) list_))] [.one (.sc (.string r'))] [] := by
  have H' := And.intro t3 (And.intro t44 (And.intro t113 (R_i64)))
  unfold impl_listText at h0'
  refine Fn.start (fn := f157) (N := 21) (res := [.tmp 2]) rfl rfl rfl rfl rfl (by simp) ?_
  refine enterG H' ?_
  refine wpV_seq1 ?_
  refine wpV_region ?_
  refine ops H' ?_
  refine opsN ?_
  refine wpV_seq1 ?_
  refine wpV_region ?_
  refine opsV_bldN H' 5 ?_
  refine opsN ?_
  refine wpV_seq1 ?_
  refine wpV_region ?_
  refine ops H' ?_
  obtain ⟨x8, hy', h0'⟩ := Option.bind_eq_some_iff.1 h0'
  refine callG H' (fun _ => []) (W_impl_varText _ _ hy') ?_
  obtain ⟨x9, hy', h0'⟩ := Option.bind_eq_some_iff.1 h0'
  refine callG H' (fun _ => [0]) (W_strings_Builder_WriteString _ _ _ hy') ?_
  refine opsN ?_
  refine wpV_seqJ (fun e' => ∃ b, impl_listText_j1 b = some r' ∧ e' = { N := 21, np := 1, nx := 2, sl := [(3, .pl (.one (.ref 1 [])))], ob := [(1, .bld 113 5 b)] }) ?_ ?_
  · refine wpV_seq1 ?_
    refine wpV_region ?_
    refine ops H' ?_
    refine opsN ?_
    obtain ⟨p, hl', h0'⟩ := Option.bind_eq_some_iff.1 h0'
    refine wpV_block ?_
    refine wpV_loopM (fun s' e' => ∃ x12 b_1, s' = (x12, b_1) ∧ e' = { N := 21, np := 1, nx := 2, sl := [(3, .pl (.one (.ref 1 []))), (10, .pl (.one (.v (.list false 1 (List.map (rK .i64) list_))))), (11, .pl (.one (.v (.sc (.int .i64 (list_.length : Int)))))), (12, .pl (.one (.v (.sc (.int .i64 x12)))))], ob := [(1, .bld 113 5 b_1)] }) hl' (shd [3, 10, 11, 12] [(1, 1)] 2 ⟨_, _, rfl, rfl⟩) ?_
    rintro s' y1' e' h1' ⟨x12, b_1, rfl, rfl⟩
    replace h1' : impl_listText_l1 list_ x12 b_1 = some y1' := h1'
    unfold impl_listText_l1 at h1'
    refine wpV_seq1 ?_
    refine wpV_region ?_
    refine ops H' ?_
    refine opsN ?_
    refine wpV_seq1 ?_
    refine wpV_split (fun hc' => ?_) (fun hc' => ?_)
    · replace h1' := (ifT hc').symm.trans h1'
      refine skipN ?_
      refine wpV_seq1 ?_
      refine wpV_block ?_
      refine wpV_seq1 ?_
      refine wpV_region ?_
      obtain ⟨x, hv', h1'⟩ := Option.bind_eq_some_iff.1 h1'
      have H' := And.intro (geti_f hv') H'
      refine ops H' ?_
      refine opsN ?_
      refine wpV_region ?_
      refine ops H' ?_
      obtain ⟨x17, hy', h1'⟩ := Option.bind_eq_some_iff.1 h1'
      refine callG H' (fun _ => []) (W_impl_varText _ _ hy') ?_
      obtain ⟨x18, hy', h1'⟩ := Option.bind_eq_some_iff.1 h1'
      refine callG H' (fun _ => [0]) (W_strings_Builder_WriteString _ _ _ hy') ?_
      refine opsN ?_
      refine wpV_region ?_
      refine ops H' ?_
      refine opsN ?_
      obtain rfl := Option.some.inj h1'
      exact shd [3, 10, 11, 12] [(1, 1)] 2 ⟨_, rfl, _, _, rfl, rfl⟩
    · replace h1' := (ifF hc').symm.trans h1'
      refine exitN ?_
      obtain rfl := Option.some.inj h1'
      refine ⟨_, rfl, fun hr' => ?_⟩
      subst hr'
      exact shd [3] [(1, 1)] 2 ⟨_, h0', rfl⟩
  · rintro e' ⟨b, h0', rfl⟩
    unfold impl_listText_j1 at h0'
    refine wpV_seq1 ?_
    refine wpV_region ?_
    obtain ⟨x20, hy', h0'⟩ := Option.bind_eq_some_iff.1 h0'
    refine callG H' (fun _ => [0]) (W_strings_Builder_String _ _ hy') ?_
    refine ops H' ?_
    refine opsN ?_
    refine retN ?_
    obtain rfl := Option.some.inj h0'
    exact outG H' rfl rfl
theorem W_impl_shortText (s : ByteArray) (r' : ByteArray) (h0' : impl_shortText s = some r') : Fn X 158 [.one (.sc (.string s))] [.one (.sc (.string r'))] [] := by
  have H' := t9
  unfold impl_shortText at h0'
  refine Fn.start (fn := f158) (N := 8) (res := [.tmp 2]) rfl rfl rfl rfl rfl (by simp) ?_
  refine enterG H' ?_
  refine wpV_seq1 ?_
  refine wpV_region ?_
  refine ops H' ?_
  refine opsN ?_
  refine wpV_seq1 ?_
  refine wpV_region ?_
  refine ops H' ?_
  obtain ⟨x5, hy', h0'⟩ := Option.bind_eq_some_iff.1 h0'
  refine callG H' (fun _ => []) (W_impl_varText _ _ hy') ?_
  obtain ⟨t, hv', h0'⟩ := Option.bind_eq_some_iff.1 h0'
  have H' := And.intro (sapp_f hv') H'
  refine ops H' ?_
  refine opsN ?_
  refine retN ?_
  obtain rfl := Option.some.inj h0'
  exact outG H' rfl rfl
end Go.TV.KFnExactBundleText
