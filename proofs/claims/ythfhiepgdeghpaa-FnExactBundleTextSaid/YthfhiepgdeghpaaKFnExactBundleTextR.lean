/- FnExactBundleText: for every input, read as data, the law returns true and leaves its arguments as they were. No conditions. -/
import Derived.Test.YthfhiepgdeghpaaRows
import Derived.Test.YthfhiepgdeghpaaKFnExactBundleTextW4
import Derived.Test.YthfhiepgdeghpaaKFnExactBundleTextP
import Derived.Test.YthfhiepgdeghpaaKFnExactBundleTextT3
import Derived.WalkKit
import Derived.ProofKit
import Derived.OpenShut
import Derived.ShutString
import Derived.ChangeOld
import Derived.Below
import Derived.Carry
import Derived.SizedLaws
import Derived.KernelRfl
namespace Go.Proofs.Ythfhiepgdeghpaa.fnExactBundleText
open Go.ChangeShapes Go.WideShapes Go.ChangeAt Go.RowKit Go.TV
open Go.ChangeMaps (open_string shut_string)
set_option linter.unusedVariables false
set_option linter.unusedSimpArgs false
theorem own : ownKnob Try.prog.godebug = none := by kernel_rfl
theorem laidOut : laidOutB Try.prog = true := by kernel_rfl
set_option maxRecDepth 100000 in
theorem opens_T_laws_Change {H : Type} {enc : TypeId × Value → H} {W : World} : Opens enc Try.prog W 212 (r_T_laws_Change false) (fun x => (Lit.int .i64 x.Kind).wf = true ∧ x.Path.size ≤ reachBytes ∧ x.To.size ≤ reachBytes ∧ (x.Lines.length * 16 ≤ reachBytes ∧ ∀ y ∈ x.Lines, y.size ≤ reachBytes)) := fun fuel cs d ps h => by
  have ht := Try.underlying212
  obtain ⟨xs, m, _, hx, hl, hxl, hf⟩ := DataW.trod_struct ht h
  obtain ⟨y0, x0, e0, p0, s0⟩ := fieldAt hf hxl 0 rfl (opens_int (k := .i64) (by kernel_rfl))
  obtain ⟨y1, x1, e1, p1, s1⟩ := fieldAt hf hxl 1 rfl (opens_string (by kernel_rfl))
  obtain ⟨y2, x2, e2, p2, s2⟩ := fieldAt hf hxl 2 rfl (opens_string (by kernel_rfl))
  obtain ⟨y3, x3, e3, p3, s3⟩ := fieldAt hf hxl 3 rfl (opens_slice (e := 9) (n := 1) (B := 16) (by kernel_rfl) (by kernel_rfl) (by kernel_rfl) (by decide) (fun _ => rfl) (opens_string (by kernel_rfl)))
  injection hx with hd _
  subst hd
  refine ⟨⟨x0, x1, x2, x3⟩, hl.trans (by kernel_rfl), ?_, fun hq => ⟨s0 (weights_field ht rfl e0 hq), s1 (weights_field ht rfl e1 hq), s2 (weights_field ht rfl e2 hq), s3 (weights_field ht rfl e3 hq)⟩⟩
  exact (joinE (pieceE p0) (joinE (pieceE p1) (joinE (pieceE p2) (pieceE p3))))
set_option maxRecDepth 100000 in
theorem opens_T_laws_Step {H : Type} {enc : TypeId × Value → H} {W : World} : Opens enc Try.prog W 101 (r_T_laws_Step false) (fun x => (x.Parents.length * 8 ≤ reachBytes ∧ ∀ y ∈ x.Parents, (Lit.int .i64 y).wf = true) ∧ x.Note.size ≤ reachBytes ∧ (x.Changes.length * 64 ≤ reachBytes ∧ ∀ y ∈ x.Changes, ((Lit.int .i64 y.Kind).wf = true ∧ y.Path.size ≤ reachBytes ∧ y.To.size ≤ reachBytes ∧ (y.Lines.length * 16 ≤ reachBytes ∧ ∀ z ∈ y.Lines, z.size ≤ reachBytes)))) := fun fuel cs d ps h => by
  have ht := Try.underlying101
  obtain ⟨xs, m, _, hx, hl, hxl, hf⟩ := DataW.trod_struct ht h
  obtain ⟨y0, x0, e0, p0, s0⟩ := fieldAt hf hxl 0 rfl (opens_slice (e := 3) (n := 1) (B := 8) (by kernel_rfl) (by kernel_rfl) (by kernel_rfl) (by decide) (fun _ => rfl) (opens_int (k := .i64) (by kernel_rfl)))
  obtain ⟨y1, x1, e1, p1, s1⟩ := fieldAt hf hxl 1 rfl (opens_string (by kernel_rfl))
  obtain ⟨y2, x2, e2, p2, s2⟩ := fieldAt hf hxl 2 rfl (opens_slice (e := 212) (n := 4) (B := 64) (by kernel_rfl) (by kernel_rfl) (by kernel_rfl) (by decide) (fun _ => rfl) opens_T_laws_Change)
  injection hx with hd _
  subst hd
  refine ⟨⟨x0, x1, x2⟩, hl.trans (by kernel_rfl), ?_, fun hq => ⟨s0 (weights_field ht rfl e0 hq), s1 (weights_field ht rfl e1 hq), s2 (weights_field ht rfl e2 hq)⟩⟩
  exact (joinE (pieceE p0) (joinE (pieceE p1) (pieceE p2)))
set_option maxRecDepth 100000 in
theorem lifted (os : Os) (started : os.Started) (H : Type) (enc : TypeId × Value → H) :
    ReturnsInHanded {} Try.checked os 4 .any (Rows.fnExactBundleTextSpec.pre6 enc Try.prog Try.f4 Rows.fnExactBundleTextRow.domain false) (Rows.fnExactBundleTextSpec.post enc Try.prog Try.f4 false true false false) := by
  refine returnsInHanded_of_change_sized (C := Try.checked) own started (by kernel_rfl) Try.func4
    (ChangeSpec.witness6 (enc := enc) (C := Try.checked) false ⟨#[], #[.slice none 0 0], []⟩ 8 (by kernel_rfl) (by kernel_rfl) (by kernel_rfl) (by kernel_rfl)) ?_
  intro W base args ds gs before hval0 hW hcnd hsz0 _
  have hsz : (DataW.weightsEach Try.prog (Try.f4.params.toList ++ Rows.fnExactBundleTextSpec.plain.varTypes Try.prog) (ds ++ gs)).all (· ≤ reachBytes) = true := hsz0
  have hval : ∀ (j : Nat) t v, Try.f4.params[j]? = some t → args[j]? = some v → Value.okWide Try.prog W .any base t v := hval0
  have hW' := hW
  obtain ⟨p, q, hA0, hV, rfl, hfz, hnd⟩ := hW
  have hA : DataW.TrodAll enc Try.prog W 0 (fun _ => true) true Try.f4.params.toList args.toList ds p := hA0
  rw [Try.params4] at hA hval hsz
  obtain ⟨v0, vs0, d0, ds0, p0, q0, hargs, rfl, rfl, h0, r0⟩ := trodAll_cons hA
  obtain ⟨rfl, rfl, rfl⟩ := trodAll_nil r0
  obtain rfl : args = #[v0] := by cases args; simp_all
  obtain ⟨rfl, rfl⟩ := trodVars_none hV
  have k0 := h0
  have lt0 : ∀ x ∈ p0, x.block < W.heap.size := by obtain ⟨m, hm⟩ := k0; exact DataW.trod_lt m _ _ _ hm
  have c0 : v0.cells = #[v0] := okWide_one (u := .slice 101) (by kernel_rfl) rfl (hval 0 28 v0 rfl rfl)
  obtain ⟨x0, _, o0, s0⟩ := (fun (h : ∃ fuel, _) => h.elim fun fuel hf => (opens_slice (e := 101) (n := 3) (B := 64) (by kernel_rfl) (by kernel_rfl) (by kernel_rfl) (by decide) (fun _ => rfl) opens_T_laws_Step) fuel _ _ _ hf) h0
  rw [c0] at o0
  have m0 := s0 fun n hn => by
    have := List.all_eq_true.1 hsz n (DataW.weights_mem_each (j := 0) rfl rfl n hn)
    simpa using this
  have z1 := args_nil (W := W)
  have z0 := args_one o0 z1.1 z1.2
  have hp : Go.TV.F.laws_FnExactBundleText x0 = some true := Go.TV.F.bundleText_row (by decide) m0
  refine (law_below (X := Go.TV.KFnExactBundleText.X) (Go.TV.KFnExactBundleText.W_laws_FnExactBundleText x0 true hp) z0.1 z0.2).mono fun e W' ⟨he, bel⟩ => ?_
  subst he
  exact ⟨_, rfl, _, _, _, [], _, [], hW', trodAll_mk1 (shut_bool Try.underlying4 _), (trodAll_cons_mk (Below.trod laidOut (by kernel_rfl) (of_decide_eq_true (by kernel_rfl)) k0 bel lt0) trodAll_mk0), rfl, bel.frame _, fun h => by cases h⟩
theorem over : Rows.fnExactBundleTextRow.holds Try.pinned (OpenSpec.ofChange Rows.fnExactBundleTextSpec) :=
  OpenClaim.holds_of_wide 4 Try.f4 rfl rfl rfl rfl rfl rfl rfl ⟨rfl, rfl, rfl, rfl, rfl⟩ rfl rfl rfl rfl rfl (by kernel_rfl) Try.func4 (by kernel_rfl)
    (of_decide_eq_true (by kernel_rfl)) (by unfold Func.isWrapper; first | (rw [if_pos (by decide +kernel)]; kernel_rfl) | (rw [if_neg (by decide +kernel)]; exact ⟨rfl, rfl⟩))
    (fun os started H enc _ => lifted os started H enc)
theorem proved : Rows.FnExactBundleTextSaid := over
#print axioms proved
end Go.Proofs.Ythfhiepgdeghpaa.fnExactBundleText
namespace Go.Proofs.Ythfhiepgdeghpaa
/-- The row, under a short name, for the claim. -/
theorem fnExactBundleText_holds : Rows.FnExactBundleTextSaid := fnExactBundleText.proved
end Go.Proofs.Ythfhiepgdeghpaa
