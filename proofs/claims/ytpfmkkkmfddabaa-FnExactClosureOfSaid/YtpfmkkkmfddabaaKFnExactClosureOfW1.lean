/- Walks. -/
import Derived.Test.YtpfmkkkmfddabaaKFnExactClosureOfE
import Derived.Test.YtpfmkkkmfddabaaKFnExactClosureOfW0
set_option linter.unusedVariables false
set_option linter.unusedSimpArgs false
namespace Go.TV.KFnExactClosureOf
attribute [local irreducible] wpV opsV Does thenV blockV RetL quV seqV
open Go.Proofs.Try Go.TV.F
theorem W_laws_FnExactClosureOf (aParents : List (List Int)) (aV : Int) (r' : Bool) (h0' : laws_FnExactClosureOf aParents aV = some r') : Fn X 6 [.one (.list false 1 (List.map (rL false 1 (rK .i64)) aParents)), .one (.sc (.int .i64 aV))] [.one (.sc (.bool r'))] [] := by
  have H' := And.intro t3 (And.intro R_Li64 (R_i64))
  unfold laws_FnExactClosureOf at h0'
  refine Fn.start (fn := f6) (N := 74) (res := [.tmp 4]) rfl rfl rfl rfl rfl (by simp) ?_
  refine enterG H' ?_
  refine wpV_seq1 ?_
  refine wpV_region ?_
  refine ops H' ?_
  refine opsN ?_
  refine wpV_seq1 ?_
  refine wpV_region ?_
  refine ops H' ?_
  refine opsN ?_
  refine wpV_seq1 ?_
  refine wpV_region ?_
  refine ops H' ?_
  obtain ⟨x15, hy', h0'⟩ := Option.bind_eq_some_iff.1 h0'
  refine callG H' (fun _ => []) (W_laws_szIntSS _ _ _ hy') ?_
  refine ops H' ?_
  refine opsN ?_
  refine wpV_seq1 ?_
  refine wpV_seq1 ?_
  refine wpV_region ?_
  refine ops H' ?_
  refine opsN ?_
  refine wpV_split (fun hc' => ?_) (fun hc' => ?_)
  · replace h0' := (ifT hc').symm.trans h0'
    refine wpV_seq1 ?_
    refine wpV_region ?_
    refine ops H' ?_
    refine opsN ?_
    refine retN ?_
    obtain rfl := Option.some.inj h0'
    exact outG H' rfl rfl
  · replace h0' := (ifF hc').symm.trans h0'
    refine skipN ?_
    refine wpV_seq1 ?_
    refine wpV_region ?_
    refine ops H' ?_
    obtain ⟨x19, hy', h0'⟩ := Option.bind_eq_some_iff.1 h0'
    refine callG H' (fun _ => []) (W_laws_toIntSS _ _ hy') ?_
    refine ops H' ?_
    obtain ⟨x21, hy', h0'⟩ := Option.bind_eq_some_iff.1 h0'
    refine callG H' (fun _ => []) (W_spec_ClosureOf _ _ _ hy') ?_
    refine ops H' ?_
    refine opsN ?_
    refine wpV_seq1 ?_
    refine wpV_region ?_
    refine ops H' ?_
    obtain ⟨x23, hy', h0'⟩ := Option.bind_eq_some_iff.1 h0'
    refine callG H' (fun _ => []) (W_laws_toIntSS _ _ hy') ?_
    refine ops H' ?_
    refine opsN ?_
    refine wpV_seq1 ?_
    refine wpV_region ?_
    refine ops H' ?_
    obtain ⟨x26, hy', h0'⟩ := Option.bind_eq_some_iff.1 h0'
    refine callG H' (fun _ => []) (W_impl_ClosureOf _ _ _ hy') ?_
    refine ops H' ?_
    refine opsN ?_
    refine wpV_seq1 ?_
    refine wpV_seq1 ?_
    refine wpV_region ?_
    refine ops H' ?_
    obtain ⟨x29, hy', h0'⟩ := Option.bind_eq_some_iff.1 h0'
    refine callG H' (fun _ => []) (W_laws_eqIntS _ _ _ hy') ?_
    refine ops H' ?_
    refine opsN ?_
    refine wpV_split (fun hc' => ?_) (fun hc' => ?_)
    · replace h0' := (ifT hc').symm.trans h0'
      refine wpV_seq1 ?_
      refine wpV_region ?_
      refine ops H' ?_
      refine opsN ?_
      refine retN ?_
      obtain rfl := Option.some.inj h0'
      exact outG H' rfl rfl
    · replace h0' := (ifF hc').symm.trans h0'
      refine skipN ?_
      refine wpV_seq1 ?_
      refine wpV_seq1 ?_
      refine wpV_region ?_
      refine ops H' ?_
      obtain ⟨x33, hy', h0'⟩ := Option.bind_eq_some_iff.1 h0'
      refine callG H' (fun _ => []) (W_laws_toIntSS _ _ hy') ?_
      obtain ⟨x34, hy', h0'⟩ := Option.bind_eq_some_iff.1 h0'
      refine callG H' (fun _ => []) (W_laws_eqIntSS _ _ _ hy') ?_
      refine ops H' ?_
      refine opsN ?_
      refine wpV_split (fun hc' => ?_) (fun hc' => ?_)
      · replace h0' := (ifT hc').symm.trans h0'
        refine wpV_seq1 ?_
        refine wpV_region ?_
        refine ops H' ?_
        refine opsN ?_
        refine retN ?_
        obtain rfl := Option.some.inj h0'
        exact outG H' rfl rfl
      · replace h0' := (ifF hc').symm.trans h0'
        refine skipN ?_
        refine wpV_seq1 ?_
        refine wpV_region ?_
        refine ops H' ?_
        refine opsN ?_
        refine wpV_seq1 ?_
        refine wpV_region ?_
        refine ops H' ?_
        obtain ⟨x38, hy', h0'⟩ := Option.bind_eq_some_iff.1 h0'
        refine callG H' (fun _ => [0]) (W_laws_markIntSS _ _ _ hy') ?_
        refine ops H' ?_
        refine opsN ?_
        refine wpV_seq1 ?_
        refine wpV_seq1 ?_
        refine wpV_region ?_
        refine ops H' ?_
        obtain ⟨b, gh0', h0'⟩ := Option.bind_eq_some_iff.1 h0'
        refine opsV_cut 5 (fun e' => e' = { N := 74, np := 2, nx := 4, sl := [(0, .pl (.one (.v (.list false 1 (List.map (rL false 1 (rK .i64)) aParents))))), (1, .pl (.one (.v (.sc (.int .i64 aV))))), (6, .pl (.one (.ref 2 []))), (8, .pl (.one (.ref 3 []))), (46, .pl (.one (.v (.sc (.bool b)))))], ob := [(2, .list true 1 (List.map (rK .i64) x21)), (3, .list true 1 (List.map (rK .i64) x26))] }) ?_ ?_
        · simp only [List.take_succ_cons, List.take_zero]
          refine opsV_sp (fun hc' => ?_) (fun hc' => ?_)
          · replace gh0' := (ifF hc').symm.trans gh0'
            refine ops H' ?_
            obtain ⟨x44, hy', gh0'⟩ := Option.bind_eq_some_iff.1 gh0'
            refine callG H' (fun _ => []) (W_laws_eqIntS _ _ _ hy') ?_
            refine ops H' ?_
            obtain rfl := Option.some.inj gh0'
            refine opsV_nil ?_
            exact ⟨rfl, shd [0, 1, 6, 8, 46] [(4, 2), (6, 3)] 4 rfl⟩
          · replace gh0' := (ifT hc').symm.trans gh0'
            refine ops H' ?_
            obtain rfl := Option.some.inj gh0'
            refine opsV_nil ?_
            exact ⟨rfl, shd [0, 1, 6, 8, 46] [(4, 2), (6, 3)] 4 rfl⟩
        · rintro e' rfl
          simp only [List.drop_succ_cons, List.drop_zero]
          refine opsN ?_
          refine wpV_split (fun hc' => ?_) (fun hc' => ?_)
          · replace h0' := (ifT hc').symm.trans h0'
            refine wpV_seq1 ?_
            refine wpV_region ?_
            refine ops H' ?_
            refine opsN ?_
            refine retN ?_
            obtain rfl := Option.some.inj h0'
            exact outG H' rfl rfl
          · replace h0' := (ifF hc').symm.trans h0'
            refine skipN ?_
            refine wpV_seq1 ?_
            refine wpV_region ?_
            refine ops H' ?_
            refine opsN ?_
            refine wpV_seq1 ?_
            refine wpV_region ?_
            refine ops H' ?_
            obtain ⟨x49, hy', h0'⟩ := Option.bind_eq_some_iff.1 h0'
            refine callG H' (fun _ => [0]) (W_laws_markIntS _ _ _ hy') ?_
            refine ops H' ?_
            refine opsN ?_
            refine wpV_seq1 ?_
            refine wpV_region ?_
            refine ops H' ?_
            refine opsN ?_
            refine wpV_seq1 ?_
            refine wpV_region ?_
            refine ops H' ?_
            obtain ⟨x52, hy', h0'⟩ := Option.bind_eq_some_iff.1 h0'
            refine callG H' (fun _ => []) (W_laws_heldIntS _ _ _ hy') ?_
            refine ops H' ?_
            refine opsN ?_
            refine wpV_seq1 ?_
            refine wpV_seq1 ?_
            refine wpV_region ?_
            refine ops H' ?_
            refine opsN ?_
            refine wpV_split (fun hc' => ?_) (fun hc' => ?_)
            · replace h0' := (ifT hc').symm.trans h0'
              refine wpV_seq1 ?_
              refine wpV_region ?_
              refine ops H' ?_
              refine opsN ?_
              refine retN ?_
              obtain rfl := Option.some.inj h0'
              exact outG H' rfl rfl
            · replace h0' := (ifF hc').symm.trans h0'
              refine skipN ?_
              refine wpV_seq1 ?_
              refine wpV_seq1 ?_
              refine wpV_region ?_
              refine ops H' ?_
              refine opsN ?_
              refine wpV_split (fun hc' => ?_) (fun hc' => ?_)
              · replace h0' := (ifT hc').symm.trans h0'
                refine wpV_seq1 ?_
                refine wpV_region ?_
                refine ops H' ?_
                refine opsN ?_
                refine retN ?_
                obtain rfl := Option.some.inj h0'
                exact outG H' rfl rfl
              · replace h0' := (ifF hc').symm.trans h0'
                refine skipN ?_
                refine wpV_seq1 ?_
                refine wpV_region ?_
                refine ops H' ?_
                obtain ⟨x59, hy', h0'⟩ := Option.bind_eq_some_iff.1 h0'
                refine callG H' (fun _ => []) (W_laws_toIntSS _ _ hy') ?_
                refine ops H' ?_
                obtain ⟨x61, hy', h0'⟩ := Option.bind_eq_some_iff.1 h0'
                refine callG H' (fun _ => []) (W_impl_ClosureOf _ _ _ hy') ?_
                refine ops H' ?_
                refine opsN ?_
                refine wpV_seq1 ?_
                refine wpV_seq1 ?_
                refine wpV_region ?_
                refine ops H' ?_
                obtain ⟨x64, hy', h0'⟩ := Option.bind_eq_some_iff.1 h0'
                refine callG H' (fun _ => []) (W_laws_eqIntS _ _ _ hy') ?_
                refine ops H' ?_
                refine opsN ?_
                refine wpV_split (fun hc' => ?_) (fun hc' => ?_)
                · replace h0' := (ifT hc').symm.trans h0'
                  refine wpV_seq1 ?_
                  refine wpV_region ?_
                  refine ops H' ?_
                  refine opsN ?_
                  refine retN ?_
                  obtain rfl := Option.some.inj h0'
                  exact outG H' rfl rfl
                · replace h0' := (ifF hc').symm.trans h0'
                  refine skipN ?_
                  refine wpV_seq1 ?_
                  refine wpV_region ?_
                  refine ops H' ?_
                  refine opsN ?_
                  refine wpV_seq1 ?_
                  refine wpV_region ?_
                  refine ops H' ?_
                  obtain ⟨x68, hy', h0'⟩ := Option.bind_eq_some_iff.1 h0'
                  refine callG H' (fun _ => []) (W_laws_heldIntS _ _ _ hy') ?_
                  refine ops H' ?_
                  refine opsN ?_
                  refine wpV_seq1 ?_
                  refine wpV_seq1 ?_
                  refine wpV_region ?_
                  refine ops H' ?_
                  refine opsN ?_
                  refine wpV_split (fun hc' => ?_) (fun hc' => ?_)
                  · replace h0' := (ifT hc').symm.trans h0'
                    refine wpV_seq1 ?_
                    refine wpV_region ?_
                    refine ops H' ?_
                    refine opsN ?_
                    refine retN ?_
                    obtain rfl := Option.some.inj h0'
                    exact outG H' rfl rfl
                  · replace h0' := (ifF hc').symm.trans h0'
                    refine skipN ?_
                    refine wpV_seq1 ?_
                    refine wpV_seq1 ?_
                    refine wpV_region ?_
                    refine ops H' ?_
                    refine opsN ?_
                    refine wpV_split (fun hc' => ?_) (fun hc' => ?_)
                    · replace h0' := (ifT hc').symm.trans h0'
                      refine wpV_seq1 ?_
                      refine wpV_region ?_
                      refine ops H' ?_
                      refine opsN ?_
                      refine retN ?_
                      obtain rfl := Option.some.inj h0'
                      exact outG H' rfl rfl
                    · replace h0' := (ifF hc').symm.trans h0'
                      refine skipN ?_
                      refine wpV_seq1 ?_
                      refine wpV_region ?_
                      refine ops H' ?_
                      refine opsN ?_
                      refine retN ?_
                      obtain rfl := Option.some.inj h0'
                      exact outG H' rfl rfl
end Go.TV.KFnExactClosureOf
