/- FnExactReadWeave: for every input, read as data, the law returns true and leaves its arguments as they were. No conditions. -/
import Derived.Test.YtbapbpnchdpbhaaGreatRows
import Derived.Test.YtbapbpnchdpbhaaGreatKFnExactReadWeaveO
import Derived.Test.YtbapbpnchdpbhaaGreatKFnExactReadWeaveW2
import Derived.Test.YtbapbpnchdpbhaaGreatKFnExactReadWeaveP
import Derived.Test.YtbapbpnchdpbhaaGreatKFnExactReadWeaveT5
import Derived.WalkKit
import Derived.ProofKit
import Derived.OpenShut
import Derived.ShutString
import Derived.ChangeOld
import Derived.Below
import Derived.Carry
import Derived.SizedLaws
import Derived.KernelRfl
import Derived.HandedShaped
namespace Go.Proofs.YtbapbpnchdpbhaaGreat.fnExactReadWeave
open Go.ChangeShapes Go.WideShapes Go.ChangeAt Go.RowKit Go.TV
open Go.ChangeMaps (open_string shut_string)
set_option linter.unusedVariables false
set_option linter.unusedSimpArgs false
theorem own : ownKnob Tryz.prog.godebug = none := by kernel_rfl
set_option maxRecDepth 100000 in
theorem lifted (os : Os) (started : os.Started) (H : Type) (enc : TypeId × Value → H) :
    ReturnsInHanded {} Tryz.checked os 6 .any (Rows.fnExactReadWeaveSpec.pre6 enc Tryz.prog Tryz.f6 Rows.fnExactReadWeaveRow.domain false) (Rows.fnExactReadWeaveSpec.post enc Tryz.prog Tryz.f6 false true false false) := by
  refine returnsInHanded_of_change_shaped (C := Tryz.checked) own started (by kernel_rfl) Tryz.func6
    (ChangeSpec.witness6 (enc := enc) (C := Tryz.checked) false ⟨#[], #[.string (ByteArray.mk #[])], []⟩ 8 (by kernel_rfl) (by kernel_rfl) (by kernel_rfl) (by kernel_rfl)) ?_
  intro W base args ds gs before hval0 hW hcnd hsz0 hshape _
  have hsz : (DataW.weightsEach Tryz.prog (Tryz.f6.params.toList ++ Rows.fnExactReadWeaveSpec.plain.varTypes Tryz.prog) (ds ++ gs)).all (· ≤ reachBytes) = true := hsz0
  have hval : ∀ (j : Nat) t v, Tryz.f6.params[j]? = some t → args[j]? = some v → Value.okWide Tryz.prog W .any base t v := hval0
  have hW' := hW
  obtain ⟨p, q, hA0, hV, rfl, hfz, hnd⟩ := hW
  have hA : DataW.TrodAll enc Tryz.prog W 0 (fun _ => true) true Tryz.f6.params.toList args.toList ds p := hA0
  rw [Tryz.params6] at hA hval hsz
  obtain ⟨v0, vs0, d0, ds0, p0, q0, hargs, rfl, rfl, h0, r0⟩ := trodAll_cons hA
  obtain ⟨rfl, rfl, rfl⟩ := trodAll_nil r0
  obtain rfl : args = #[v0] := by cases args; simp_all
  obtain ⟨rfl, rfl⟩ := trodVars_none hV
  have k0 := h0
  have lt0 : ∀ x ∈ p0, x.block < W.heap.size := by obtain ⟨m, hm⟩ := k0; exact DataW.trod_lt m _ _ _ hm
  have c0 : v0.cells = #[v0] := okWide_one (u := .string) (by kernel_rfl) rfl (hval 0 9 v0 rfl rfl)
  obtain ⟨x0, _, o0, s0⟩ := (fun (h : ∃ fuel, _) => h.elim fun fuel hf => (opens_string (by kernel_rfl)) fuel _ _ _ hf) h0
  rw [c0] at o0
  have m0 := s0 fun n hn => by
    have := List.all_eq_true.1 hsz n (DataW.weights_mem_each (j := 0) rfl rfl n hn)
    simpa using this
  have z1 := args_nil (W := W)
  have z0 := args_one o0 z1.1 z1.2
  have hp : Go.TV.F.laws_FnExactReadWeave x0 = some true := Go.TV.F.readWeave_law x0
  refine (law_below (X := Go.TV.KFnExactReadWeave.X) ((Go.TV.KFnExactReadWeave.W_laws_FnExactReadWeave x0).w true hp) z0.1 z0.2 (fun b φ q => by
    have hm := Cfg.ofG_mem (l := [(Go.Proofs.Tryz.lays144_ren.g 1, isNum)]) (b := b) (φ := φ) q
    simp only [List.mem_cons, List.not_mem_nil, or_false, Prod.mk.injEq] at hm
    rcases hm with ⟨rfl, rfl⟩
    · obtain ⟨m, hm⟩ := Go.Proofs.Tryz.lays144.s1_3 W hshape
      exact ⟨cell_lt hm, cell_isNum hm⟩)).mono fun e W' ⟨he, bel⟩ => ?_
  subst he
  exact ⟨_, rfl, _, _, _, [], _, [], hW', trodAll_mk1 (shut_bool Tryz.underlying4 _), (trodAll_cons_mk (Below.trod j0 (by kernel_rfl) (of_decide_eq_true (by kernel_rfl)) k0 bel lt0) trodAll_mk0), rfl, bel.frame _, fun h => by cases h⟩
theorem over : Rows.fnExactReadWeaveRow.holds Tryz.pinned (OpenSpec.ofChange Rows.fnExactReadWeaveSpec) := over_of lifted
theorem proved : Rows.FnExactReadWeaveSaid := over
#print axioms proved
end Go.Proofs.YtbapbpnchdpbhaaGreat.fnExactReadWeave
namespace Go.Proofs.YtbapbpnchdpbhaaGreat
/-- The row, under a short name, for the claim. -/
theorem fnExactReadWeave_holds : Rows.FnExactReadWeaveSaid := fnExactReadWeave.proved
end Go.Proofs.YtbapbpnchdpbhaaGreat
