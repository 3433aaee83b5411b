/- Walks. -/
import Derived.Test.YtpfmkkkmfddabaaKFnExactProperOfE
import Derived.Test.YtpfmkkkmfddabaaKFnExactProperOfW0
set_option linter.unusedVariables false
set_option linter.unusedSimpArgs false
namespace Go.TV.KFnExactProperOf
attribute [local irreducible] wpV opsV Does thenV blockV RetL quV seqV
open Go.Proofs.Try Go.TV.F
theorem W_laws_FnExactProperOf (aParents : List (List Int)) (aList : List Int) (r' : Bool) (h0' : laws_FnExactProperOf aParents aList = some r') : Fn X 8 [.one (.list false 1 (List.map (rL false 1 (rK .i64)) aParents)), .one (.list false 1 (List.map (rK .i64) aList))] [.one (.sc (.bool r'))] [] := by
  have H' := And.intro t3 (And.intro t23 (And.intro R_Li64 (R_i64)))
  unfold laws_FnExactProperOf at h0'
  refine Fn.start (fn := f8) (N := 90) (res := [.tmp 4]) rfl rfl rfl rfl rfl (by simp) ?_
  refine enterG H' ?_
  refine wpV_seq1 ?_
  refine wpV_region ?_
  refine ops H' ?_
  refine opsN ?_
  refine wpV_seq1 ?_
  refine wpV_seq1 ?_
  refine wpV_region ?_
  refine ops H' ?_
  refine opsN ?_
  refine wpV_split (fun hc' => ?_) (fun hc' => ?_)
  · replace h0' := (ifT hc').symm.trans h0'
    refine wpV_seq1 ?_
    refine wpV_region ?_
    refine ops H' ?_
    refine opsN ?_
    refine retN ?_
    obtain rfl := Option.some.inj h0'
    exact outG H' rfl rfl
  · replace h0' := (ifF hc').symm.trans h0'
    refine skipN ?_
    refine wpV_seq1 ?_
    refine wpV_region ?_
    refine ops H' ?_
    refine opsN ?_
    refine wpV_seq1 ?_
    refine wpV_region ?_
    refine ops H' ?_
    obtain ⟨x19, hy', h0'⟩ := Option.bind_eq_some_iff.1 h0'
    refine callG H' (fun _ => []) (W_laws_szIntSS _ _ _ hy') ?_
    refine ops H' ?_
    refine opsN ?_
    refine wpV_seq1 ?_
    refine wpV_seq1 ?_
    refine wpV_region ?_
    refine ops H' ?_
    refine opsN ?_
    refine wpV_split (fun hc' => ?_) (fun hc' => ?_)
    · replace h0' := (ifT hc').symm.trans h0'
      refine wpV_seq1 ?_
      refine wpV_region ?_
      refine ops H' ?_
      refine opsN ?_
      refine retN ?_
      obtain rfl := Option.some.inj h0'
      exact outG H' rfl rfl
    · replace h0' := (ifF hc').symm.trans h0'
      refine skipN ?_
      refine wpV_seq1 ?_
      refine wpV_region ?_
      refine ops H' ?_
      obtain ⟨x23, hy', h0'⟩ := Option.bind_eq_some_iff.1 h0'
      refine callG H' (fun _ => []) (W_laws_toIntSS _ _ hy') ?_
      refine ops H' ?_
      obtain ⟨x25, hy', h0'⟩ := Option.bind_eq_some_iff.1 h0'
      refine callG H' (fun _ => []) (W_laws_toIntS _ _ hy') ?_
      obtain ⟨x26, hy', h0'⟩ := Option.bind_eq_some_iff.1 h0'
      refine callG H' (fun _ => []) (W_spec_ProperOf _ _ _ hy') ?_
      refine ops H' ?_
      refine opsN ?_
      refine wpV_seq1 ?_
      refine wpV_region ?_
      refine ops H' ?_
      obtain ⟨x28, hy', h0'⟩ := Option.bind_eq_some_iff.1 h0'
      refine callG H' (fun _ => []) (W_laws_toIntSS _ _ hy') ?_
      refine ops H' ?_
      refine opsN ?_
      refine wpV_seq1 ?_
      refine wpV_region ?_
      refine ops H' ?_
      obtain ⟨x30, hy', h0'⟩ := Option.bind_eq_some_iff.1 h0'
      refine callG H' (fun _ => []) (W_laws_toIntS _ _ hy') ?_
      refine ops H' ?_
      refine opsN ?_
      refine wpV_seq1 ?_
      refine wpV_region ?_
      refine ops H' ?_
      obtain ⟨x33, hy', h0'⟩ := Option.bind_eq_some_iff.1 h0'
      refine callG H' (fun _ => []) (W_impl_ProperOf _ _ _ hy') ?_
      refine ops H' ?_
      refine opsN ?_
      refine wpV_seq1 ?_
      refine wpV_seq1 ?_
      refine wpV_region ?_
      refine ops H' ?_
      obtain ⟨x36, hy', h0'⟩ := Option.bind_eq_some_iff.1 h0'
      refine callG H' (fun _ => []) (W_laws_eqIntS _ _ _ hy') ?_
      refine ops H' ?_
      refine opsN ?_
      refine wpV_split (fun hc' => ?_) (fun hc' => ?_)
      · replace h0' := (ifT hc').symm.trans h0'
        refine wpV_seq1 ?_
        refine wpV_region ?_
        refine ops H' ?_
        refine opsN ?_
        refine retN ?_
        obtain rfl := Option.some.inj h0'
        exact outG H' rfl rfl
      · replace h0' := (ifF hc').symm.trans h0'
        refine skipN ?_
        refine wpV_seq1 ?_
        refine wpV_seq1 ?_
        refine wpV_region ?_
        refine ops H' ?_
        obtain ⟨x40, hy', h0'⟩ := Option.bind_eq_some_iff.1 h0'
        refine callG H' (fun _ => []) (W_laws_toIntSS _ _ hy') ?_
        obtain ⟨x41, hy', h0'⟩ := Option.bind_eq_some_iff.1 h0'
        refine callG H' (fun _ => []) (W_laws_eqIntSS _ _ _ hy') ?_
        refine ops H' ?_
        refine opsN ?_
        refine wpV_split (fun hc' => ?_) (fun hc' => ?_)
        · replace h0' := (ifT hc').symm.trans h0'
          refine wpV_seq1 ?_
          refine wpV_region ?_
          refine ops H' ?_
          refine opsN ?_
          refine retN ?_
          obtain rfl := Option.some.inj h0'
          exact outG H' rfl rfl
        · replace h0' := (ifF hc').symm.trans h0'
          refine skipN ?_
          refine wpV_seq1 ?_
          refine wpV_seq1 ?_
          refine wpV_region ?_
          refine ops H' ?_
          obtain ⟨x45, hy', h0'⟩ := Option.bind_eq_some_iff.1 h0'
          refine callG H' (fun _ => []) (W_laws_toIntS _ _ hy') ?_
          obtain ⟨x46, hy', h0'⟩ := Option.bind_eq_some_iff.1 h0'
          refine callG H' (fun _ => []) (W_laws_eqIntS _ _ _ hy') ?_
          refine ops H' ?_
          refine opsN ?_
          refine wpV_split (fun hc' => ?_) (fun hc' => ?_)
          · replace h0' := (ifT hc').symm.trans h0'
            refine wpV_seq1 ?_
            refine wpV_region ?_
            refine ops H' ?_
            refine opsN ?_
            refine retN ?_
            obtain rfl := Option.some.inj h0'
            exact outG H' rfl rfl
          · replace h0' := (ifF hc').symm.trans h0'
            refine skipN ?_
            refine wpV_seq1 ?_
            refine wpV_region ?_
            refine ops H' ?_
            refine opsN ?_
            refine wpV_seq1 ?_
            refine wpV_region ?_
            refine ops H' ?_
            obtain ⟨x50, hy', h0'⟩ := Option.bind_eq_some_iff.1 h0'
            refine callG H' (fun _ => [0]) (W_laws_markIntSS _ _ _ hy') ?_
            refine ops H' ?_
            refine opsN ?_
            refine wpV_seq1 ?_
            refine wpV_region ?_
            refine ops H' ?_
            obtain ⟨x53, hy', h0'⟩ := Option.bind_eq_some_iff.1 h0'
            refine callG H' (fun _ => [0]) (W_laws_markIntS _ _ _ hy') ?_
            refine ops H' ?_
            refine opsN ?_
            refine wpV_seq1 ?_
            refine wpV_seq1 ?_
            refine wpV_region ?_
            refine ops H' ?_
            obtain ⟨b, gh0', h0'⟩ := Option.bind_eq_some_iff.1 h0'
            refine opsV_cut 5 (fun e' => e' = { N := 90, np := 2, nx := 4, sl := [(0, .pl (.one (.v (.list false 1 (List.map (rL false 1 (rK .i64)) aParents))))), (1, .pl (.one (.v (.list false 1 (List.map (rK .i64) aList))))), (6, .pl (.one (.ref 2 []))), (9, .pl (.one (.ref 3 []))), (61, .pl (.one (.v (.sc (.bool b)))))], ob := [(2, .list true 1 (List.map (rK .i64) x26)), (3, .list true 1 (List.map (rK .i64) x33))] }) ?_ ?_
            · simp only [List.take_succ_cons, List.take_zero]
              refine opsV_sp (fun hc' => ?_) (fun hc' => ?_)
              · replace gh0' := (ifF hc').symm.trans gh0'
                refine ops H' ?_
                obtain ⟨x59, hy', gh0'⟩ := Option.bind_eq_some_iff.1 gh0'
                refine callG H' (fun _ => []) (W_laws_eqIntS _ _ _ hy') ?_
                refine ops H' ?_
                obtain rfl := Option.some.inj gh0'
                refine opsV_nil ?_
                exact ⟨rfl, shd [0, 1, 6, 9, 61] [(5, 2), (8, 3)] 4 rfl⟩
              · replace gh0' := (ifT hc').symm.trans gh0'
                refine ops H' ?_
                obtain rfl := Option.some.inj gh0'
                refine opsV_nil ?_
                exact ⟨rfl, shd [0, 1, 6, 9, 61] [(5, 2), (8, 3)] 4 rfl⟩
            · rintro e' rfl
              simp only [List.drop_succ_cons, List.drop_zero]
              refine opsN ?_
              refine wpV_split (fun hc' => ?_) (fun hc' => ?_)
              · replace h0' := (ifT hc').symm.trans h0'
                refine wpV_seq1 ?_
                refine wpV_region ?_
                refine ops H' ?_
                refine opsN ?_
                refine retN ?_
                obtain rfl := Option.some.inj h0'
                exact outG H' rfl rfl
              · replace h0' := (ifF hc').symm.trans h0'
                refine skipN ?_
                refine wpV_seq1 ?_
                refine wpV_region ?_
                refine ops H' ?_
                refine opsN ?_
                refine wpV_seq1 ?_
                refine wpV_region ?_
                refine ops H' ?_
                obtain ⟨x64, hy', h0'⟩ := Option.bind_eq_some_iff.1 h0'
                refine callG H' (fun _ => [0]) (W_laws_markIntS _ _ _ hy') ?_
                refine ops H' ?_
                refine opsN ?_
                refine wpV_seq1 ?_
                refine wpV_region ?_
                refine ops H' ?_
                refine opsN ?_
                refine wpV_seq1 ?_
                refine wpV_region ?_
                refine ops H' ?_
                obtain ⟨x67, hy', h0'⟩ := Option.bind_eq_some_iff.1 h0'
                refine callG H' (fun _ => []) (W_laws_heldIntS _ _ _ hy') ?_
                refine ops H' ?_
                refine opsN ?_
                refine wpV_seq1 ?_
                refine wpV_seq1 ?_
                refine wpV_region ?_
                refine ops H' ?_
                refine opsN ?_
                refine wpV_split (fun hc' => ?_) (fun hc' => ?_)
                · replace h0' := (ifT hc').symm.trans h0'
                  refine wpV_seq1 ?_
                  refine wpV_region ?_
                  refine ops H' ?_
                  refine opsN ?_
                  refine retN ?_
                  obtain rfl := Option.some.inj h0'
                  exact outG H' rfl rfl
                · replace h0' := (ifF hc').symm.trans h0'
                  refine skipN ?_
                  refine wpV_seq1 ?_
                  refine wpV_seq1 ?_
                  refine wpV_region ?_
                  refine ops H' ?_
                  refine opsN ?_
                  refine wpV_split (fun hc' => ?_) (fun hc' => ?_)
                  · replace h0' := (ifT hc').symm.trans h0'
                    refine wpV_seq1 ?_
                    refine wpV_region ?_
                    refine ops H' ?_
                    refine opsN ?_
                    refine retN ?_
                    obtain rfl := Option.some.inj h0'
                    exact outG H' rfl rfl
                  · replace h0' := (ifF hc').symm.trans h0'
                    refine skipN ?_
                    refine wpV_seq1 ?_
                    refine wpV_region ?_
                    refine ops H' ?_
                    obtain ⟨x74, hy', h0'⟩ := Option.bind_eq_some_iff.1 h0'
                    refine callG H' (fun _ => []) (W_laws_toIntSS _ _ hy') ?_
                    refine ops H' ?_
                    obtain ⟨x76, hy', h0'⟩ := Option.bind_eq_some_iff.1 h0'
                    refine callG H' (fun _ => []) (W_laws_toIntS _ _ hy') ?_
                    obtain ⟨x77, hy', h0'⟩ := Option.bind_eq_some_iff.1 h0'
                    refine callG H' (fun _ => []) (W_impl_ProperOf _ _ _ hy') ?_
                    refine ops H' ?_
                    refine opsN ?_
                    refine wpV_seq1 ?_
                    refine wpV_seq1 ?_
                    refine wpV_region ?_
                    refine ops H' ?_
                    obtain ⟨x80, hy', h0'⟩ := Option.bind_eq_some_iff.1 h0'
                    refine callG H' (fun _ => []) (W_laws_eqIntS _ _ _ hy') ?_
                    refine ops H' ?_
                    refine opsN ?_
                    refine wpV_split (fun hc' => ?_) (fun hc' => ?_)
                    · replace h0' := (ifT hc').symm.trans h0'
                      refine wpV_seq1 ?_
                      refine wpV_region ?_
                      refine ops H' ?_
                      refine opsN ?_
                      refine retN ?_
                      obtain rfl := Option.some.inj h0'
                      exact outG H' rfl rfl
                    · replace h0' := (ifF hc').symm.trans h0'
                      refine skipN ?_
                      refine wpV_seq1 ?_
                      refine wpV_region ?_
                      refine ops H' ?_
                      refine opsN ?_
                      refine wpV_seq1 ?_
                      refine wpV_region ?_
                      refine ops H' ?_
                      obtain ⟨x84, hy', h0'⟩ := Option.bind_eq_some_iff.1 h0'
                      refine callG H' (fun _ => []) (W_laws_heldIntS _ _ _ hy') ?_
                      refine ops H' ?_
                      refine opsN ?_
                      refine wpV_seq1 ?_
                      refine wpV_seq1 ?_
                      refine wpV_region ?_
                      refine ops H' ?_
                      refine opsN ?_
                      refine wpV_split (fun hc' => ?_) (fun hc' => ?_)
                      · replace h0' := (ifT hc').symm.trans h0'
                        refine wpV_seq1 ?_
                        refine wpV_region ?_
                        refine ops H' ?_
                        refine opsN ?_
                        refine retN ?_
                        obtain rfl := Option.some.inj h0'
                        exact outG H' rfl rfl
                      · replace h0' := (ifF hc').symm.trans h0'
                        refine skipN ?_
                        refine wpV_seq1 ?_
                        refine wpV_seq1 ?_
                        refine wpV_region ?_
                        refine ops H' ?_
                        refine opsN ?_
                        refine wpV_split (fun hc' => ?_) (fun hc' => ?_)
                        · replace h0' := (ifT hc').symm.trans h0'
                          refine wpV_seq1 ?_
                          refine wpV_region ?_
                          refine ops H' ?_
                          refine opsN ?_
                          refine retN ?_
                          obtain rfl := Option.some.inj h0'
                          exact outG H' rfl rfl
                        · replace h0' := (ifF hc').symm.trans h0'
                          refine skipN ?_
                          refine wpV_seq1 ?_
                          refine wpV_region ?_
                          refine ops H' ?_
                          refine opsN ?_
                          refine retN ?_
                          obtain rfl := Option.some.inj h0'
                          exact outG H' rfl rfl
end Go.TV.KFnExactProperOf
