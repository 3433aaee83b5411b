/- FnExactLogOf: for every input, read as data, the law returns true and leaves its arguments as they were. No conditions. -/
import Derived.Test.YthfhiepgdeghpaaRows
import Derived.Test.YthfhiepgdeghpaaKFnExactLogOfW2
import Derived.Test.YthfhiepgdeghpaaKFnExactLogOfP
import Derived.Test.YthfhiepgdeghpaaKFnExactLogOfT3
import Derived.WalkKit
import Derived.ProofKit
import Derived.OpenShut
import Derived.ShutString
import Derived.ChangeOld
import Derived.Below
import Derived.Carry
import Derived.SizedLaws
import Derived.KernelRfl
import Derived.HandedShaped
namespace Go.Proofs.Ythfhiepgdeghpaa.fnExactLogOf
open Go.ChangeShapes Go.WideShapes Go.ChangeAt Go.RowKit Go.TV
open Go.ChangeMaps (open_string shut_string)
set_option linter.unusedVariables false
set_option linter.unusedSimpArgs false
theorem own : ownKnob Try.prog.godebug = none := by kernel_rfl
theorem laidOut : laidOutB Try.prog = true := by kernel_rfl
set_option maxRecDepth 100000 in
theorem opens_T_laws_Name {H : Type} {enc : TypeId × Value → H} {W : World} : Opens enc Try.prog W 222 (r_T_laws_Name false) (fun x => x.Path.size ≤ reachBytes ∧ (Lit.int .i64 x.Id).wf = true ∧ (Lit.int .i64 x.Version).wf = true) := fun fuel cs d ps h => by
  have ht := Try.underlying222
  obtain ⟨xs, m, _, hx, hl, hxl, hf⟩ := DataW.trod_struct ht h
  obtain ⟨y0, x0, e0, p0, s0⟩ := fieldAt hf hxl 0 rfl (opens_string (by kernel_rfl))
  obtain ⟨y1, x1, e1, p1, s1⟩ := fieldAt hf hxl 1 rfl (opens_int (k := .i64) (by kernel_rfl))
  obtain ⟨y2, x2, e2, p2, s2⟩ := fieldAt hf hxl 2 rfl (opens_int (k := .i64) (by kernel_rfl))
  injection hx with hd _
  subst hd
  refine ⟨⟨x0, x1, x2⟩, hl.trans (by kernel_rfl), ?_, fun hq => ⟨s0 (weights_field ht rfl e0 hq), s1 (weights_field ht rfl e1 hq), s2 (weights_field ht rfl e2 hq)⟩⟩
  exact (joinE (pieceE p0) (joinE (pieceE p1) (pieceE p2)))
set_option maxRecDepth 100000 in
theorem opens_T_laws_Commit {H : Type} {enc : TypeId × Value → H} {W : World} : Opens enc Try.prog W 152 (r_T_laws_Commit false) (fun x => (x.Parents.length * 8 ≤ reachBytes ∧ ∀ y ∈ x.Parents, (Lit.int .i64 y).wf = true) ∧ x.Note.size ≤ reachBytes ∧ (x.Names.length * 32 ≤ reachBytes ∧ ∀ y ∈ x.Names, (y.Path.size ≤ reachBytes ∧ (Lit.int .i64 y.Id).wf = true ∧ (Lit.int .i64 y.Version).wf = true))) := fun fuel cs d ps h => by
  have ht := Try.underlying152
  obtain ⟨xs, m, _, hx, hl, hxl, hf⟩ := DataW.trod_struct ht h
  obtain ⟨y0, x0, e0, p0, s0⟩ := fieldAt hf hxl 0 rfl (opens_slice (e := 3) (n := 1) (B := 8) (by kernel_rfl) (by kernel_rfl) (by kernel_rfl) (by decide) (fun _ => rfl) (opens_int (k := .i64) (by kernel_rfl)))
  obtain ⟨y1, x1, e1, p1, s1⟩ := fieldAt hf hxl 1 rfl (opens_string (by kernel_rfl))
  obtain ⟨y2, x2, e2, p2, s2⟩ := fieldAt hf hxl 2 rfl (opens_slice (e := 222) (n := 3) (B := 32) (by kernel_rfl) (by kernel_rfl) (by kernel_rfl) (by decide) (fun _ => rfl) opens_T_laws_Name)
  injection hx with hd _
  subst hd
  refine ⟨⟨x0, x1, x2⟩, hl.trans (by kernel_rfl), ?_, fun hq => ⟨s0 (weights_field ht rfl e0 hq), s1 (weights_field ht rfl e1 hq), s2 (weights_field ht rfl e2 hq)⟩⟩
  exact (joinE (pieceE p0) (joinE (pieceE p1) (pieceE p2)))
set_option maxRecDepth 100000 in
theorem lifted (os : Os) (started : os.Started) (H : Type) (enc : TypeId × Value → H) :
    ReturnsInHanded {} Try.checked os 7 .any (Rows.fnExactLogOfSpec.pre6 enc Try.prog Try.f7 Rows.fnExactLogOfRow.domain false) (Rows.fnExactLogOfSpec.post enc Try.prog Try.f7 false true false false) := by
  refine returnsInHanded_of_change_shaped (C := Try.checked) own started (by kernel_rfl) Try.func7
    (ChangeSpec.witness6 (enc := enc) (C := Try.checked) false ⟨#[], #[.slice none 0 0, .slice none 0 0, .int .i64 0], []⟩ 8 (by kernel_rfl) (by kernel_rfl) (by kernel_rfl) (by kernel_rfl)) ?_
  intro W base args ds gs before hval0 hW hcnd hsz0 hshape _
  have hsz : (DataW.weightsEach Try.prog (Try.f7.params.toList ++ Rows.fnExactLogOfSpec.plain.varTypes Try.prog) (ds ++ gs)).all (· ≤ reachBytes) = true := hsz0
  have hval : ∀ (j : Nat) t v, Try.f7.params[j]? = some t → args[j]? = some v → Value.okWide Try.prog W .any base t v := hval0
  have hW' := hW
  obtain ⟨p, q, hA0, hV, rfl, hfz, hnd⟩ := hW
  have hA : DataW.TrodAll enc Try.prog W 0 (fun _ => true) true Try.f7.params.toList args.toList ds p := hA0
  rw [Try.params7] at hA hval hsz
  obtain ⟨v0, vs0, d0, ds0, p0, q0, hargs, rfl, rfl, h0, r0⟩ := trodAll_cons hA
  obtain ⟨v1, vs1, d1, ds1, p1, q1, rfl, rfl, rfl, h1, r1⟩ := trodAll_cons r0
  obtain ⟨v2, vs2, d2, ds2, p2, q2, rfl, rfl, rfl, h2, r2⟩ := trodAll_cons r1
  obtain ⟨rfl, rfl, rfl⟩ := trodAll_nil r2
  obtain rfl : args = #[v0, v1, v2] := by cases args; simp_all
  obtain ⟨rfl, rfl⟩ := trodVars_none hV
  have k0 := h0
  have lt0 : ∀ x ∈ p0, x.block < W.heap.size := by obtain ⟨m, hm⟩ := k0; exact DataW.trod_lt m _ _ _ hm
  have c0 : v0.cells = #[v0] := okWide_one (u := .slice 152) (by kernel_rfl) rfl (hval 0 67 v0 rfl rfl)
  obtain ⟨x0, _, o0, s0⟩ := (fun (h : ∃ fuel, _) => h.elim fun fuel hf => (opens_slice (e := 152) (n := 3) (B := 64) (by kernel_rfl) (by kernel_rfl) (by kernel_rfl) (by decide) (fun _ => rfl) opens_T_laws_Commit) fuel _ _ _ hf) h0
  rw [c0] at o0
  have m0 := s0 fun n hn => by
    have := List.all_eq_true.1 hsz n (DataW.weights_mem_each (j := 0) rfl rfl n hn)
    simpa using this
  have k1 := h1
  have lt1 : ∀ x ∈ p1, x.block < W.heap.size := by obtain ⟨m, hm⟩ := k1; exact DataW.trod_lt m _ _ _ hm
  have c1 : v1.cells = #[v1] := okWide_one (u := .slice 3) (by kernel_rfl) rfl (hval 1 44 v1 rfl rfl)
  obtain ⟨x1, _, o1, s1⟩ := (fun (h : ∃ fuel, _) => h.elim fun fuel hf => (opens_slice (e := 3) (n := 1) (B := 8) (by kernel_rfl) (by kernel_rfl) (by kernel_rfl) (by decide) (fun _ => rfl) (opens_int (k := .i64) (by kernel_rfl))) fuel _ _ _ hf) h1
  rw [c1] at o1
  have m1 := s1 fun n hn => by
    have := List.all_eq_true.1 hsz n (DataW.weights_mem_each (j := 1) rfl rfl n hn)
    simpa using this
  have k2 := h2
  have lt2 : ∀ x ∈ p2, x.block < W.heap.size := by obtain ⟨m, hm⟩ := k2; exact DataW.trod_lt m _ _ _ hm
  have c2 : v2.cells = #[v2] := okWide_one (u := .int .i64) (by kernel_rfl) rfl (hval 2 3 v2 rfl rfl)
  obtain ⟨x2, _, o2, s2⟩ := (fun (h : ∃ fuel, _) => h.elim fun fuel hf => (opens_int (k := .i64) (by kernel_rfl)) fuel _ _ _ hf) h2
  rw [c2] at o2
  have m2 := s2 fun n hn => by
    have := List.all_eq_true.1 hsz n (DataW.weights_mem_each (j := 2) rfl rfl n hn)
    simpa using this
  have z3 := args_nil (W := W)
  have z2 := args_one o2 z3.1 z3.2
  have z1 := args_one o1 z2.1 z2.2
  have z0 := args_one o0 z1.1 z1.2
  have hp : Go.TV.F.laws_FnExactLogOf x0 x1 x2 = some true := Go.TV.F.logOf_law m0
  refine (law_below (X := Go.TV.KFnExactLogOf.X) (Go.TV.KFnExactLogOf.W_laws_FnExactLogOf x0 x1 x2 true hp) z0.1 z0.2 (fun b q => by obtain rfl : b = Go.Proofs.Try.lays144_ren.g 1 := q; obtain ⟨m, hm⟩ := Go.Proofs.Try.lays144.s1_3 W hshape; exact ⟨cell_lt hm, m, hm⟩)).mono fun e W' ⟨he, bel⟩ => ?_
  subst he
  exact ⟨_, rfl, _, _, _, [], _, [], hW', trodAll_mk1 (shut_bool Try.underlying4 _), (trodAll_cons_mk (Below.trod laidOut (by kernel_rfl) (of_decide_eq_true (by kernel_rfl)) k0 bel lt0) (trodAll_cons_mk (Below.trod laidOut (by kernel_rfl) (of_decide_eq_true (by kernel_rfl)) k1 bel lt1) (trodAll_cons_mk (Below.trod laidOut (by kernel_rfl) (of_decide_eq_true (by kernel_rfl)) k2 bel lt2) trodAll_mk0))), rfl, bel.frame _, fun h => by cases h⟩
theorem over : Rows.fnExactLogOfRow.holds Try.pinned (OpenSpec.ofChange Rows.fnExactLogOfSpec) :=
  OpenClaim.holds_of_wide 7 Try.f7 rfl rfl rfl rfl rfl rfl rfl ⟨rfl, rfl, rfl, rfl, rfl⟩ rfl rfl rfl rfl rfl (by kernel_rfl) Try.func7 (by kernel_rfl)
    (of_decide_eq_true (by kernel_rfl)) (by unfold Func.isWrapper; first | (rw [if_pos (by decide +kernel)]; kernel_rfl) | (rw [if_neg (by decide +kernel)]; exact ⟨rfl, rfl⟩))
    (fun os started H enc _ => lifted os started H enc)
theorem proved : Rows.FnExactLogOfSaid := over
#print axioms proved
end Go.Proofs.Ythfhiepgdeghpaa.fnExactLogOf
namespace Go.Proofs.Ythfhiepgdeghpaa
/-- The row, under a short name, for the claim. -/
theorem fnExactLogOf_holds : Rows.FnExactLogOfSaid := fnExactLogOf.proved
end Go.Proofs.Ythfhiepgdeghpaa
