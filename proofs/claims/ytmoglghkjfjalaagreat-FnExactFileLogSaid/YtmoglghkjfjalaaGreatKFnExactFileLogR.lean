/- FnExactFileLog: for every input, read as data, the law returns true and leaves its arguments as they were. No conditions. -/
import Derived.Test.YtmoglghkjfjalaaGreatRows
import Derived.Test.YtmoglghkjfjalaaGreatKFnExactFileLogW7
import Derived.Test.YtmoglghkjfjalaaGreatKFnExactFileLogP
import Derived.Test.YtmoglghkjfjalaaGreatKFnExactFileLogT3
import Derived.WalkKit
import Derived.ProofKit
import Derived.OpenShut
import Derived.ShutString
import Derived.ChangeOld
import Derived.Below
import Derived.Carry
import Derived.SizedLaws
import Derived.KernelRfl
import Derived.HandedShaped
namespace Go.Proofs.YtmoglghkjfjalaaGreat.fnExactFileLog
open Go.ChangeShapes Go.WideShapes Go.ChangeAt Go.RowKit Go.TV
open Go.ChangeMaps (open_string shut_string)
set_option linter.unusedVariables false
set_option linter.unusedSimpArgs false
theorem own : ownKnob Tryz.prog.godebug = none := by kernel_rfl
theorem laidOut : laidOutB Tryz.prog = true := by kernel_rfl
set_option maxRecDepth 100000 in
theorem opens_T_laws_Name {H : Type} {enc : TypeId × Value → H} {W : World} : Opens enc Tryz.prog W 287 (zY true) (fun x => x.Path.size ≤ reachBytes ∧ (Lit.int .i64 x.Id).wf = true ∧ (Lit.int .i64 x.Version).wf = true) := fun fuel cs d ps h => by
  have ht := Tryz.underlying287
  obtain ⟨xs, m, _, hx, hl, hxl, hf⟩ := DataW.trod_struct ht h
  obtain ⟨y0, x0, e0, p0, s0⟩ := fieldAt hf hxl 0 rfl (opens_string (by kernel_rfl))
  obtain ⟨y1, x1, e1, p1, s1⟩ := fieldAt hf hxl 1 rfl (opens_int (k := .i64) (by kernel_rfl))
  obtain ⟨y2, x2, e2, p2, s2⟩ := fieldAt hf hxl 2 rfl (opens_int (k := .i64) (by kernel_rfl))
  injection hx with hd _
  subst hd
  refine ⟨⟨x0, x1, x2⟩, hl.trans (by kernel_rfl), ?_, fun hq => ⟨s0 (jA ht rfl e0 hq), s1 (jA ht rfl e1 hq), s2 (jA ht rfl e2 hq)⟩⟩
  exact (joinE (pieceE p0) (joinE (pieceE p1) (pieceE p2)))
set_option maxRecDepth 100000 in
theorem opens_T_laws_Commit {H : Type} {enc : TypeId × Value → H} {W : World} : Opens enc Tryz.prog W 219 (zK false) (fun x => (x.Parents.length * 8 ≤ reachBytes ∧ ∀ y ∈ x.Parents, (Lit.int .i64 y).wf = true) ∧ x.Note.size ≤ reachBytes ∧ (x.Names.length * 32 ≤ reachBytes ∧ ∀ y ∈ x.Names, (y.Path.size ≤ reachBytes ∧ (Lit.int .i64 y.Id).wf = true ∧ (Lit.int .i64 y.Version).wf = true))) := fun fuel cs d ps h => by
  have ht := Tryz.underlying219
  obtain ⟨xs, m, _, hx, hl, hxl, hf⟩ := DataW.trod_struct ht h
  obtain ⟨y0, x0, e0, p0, s0⟩ := fieldAt hf hxl 0 rfl (opens_slice (e := 3) (n := 1) (B := 8) (by kernel_rfl) (by kernel_rfl) (by kernel_rfl) (by decide) (fun _ => rfl) (opens_int (k := .i64) (by kernel_rfl)))
  obtain ⟨y1, x1, e1, p1, s1⟩ := fieldAt hf hxl 1 rfl (opens_string (by kernel_rfl))
  obtain ⟨y2, x2, e2, p2, s2⟩ := fieldAt hf hxl 2 rfl (opens_slice (e := 287) (n := 3) (B := 32) (by kernel_rfl) (by kernel_rfl) (by kernel_rfl) (by decide) (fun _ => rfl) opens_T_laws_Name)
  injection hx with hd _
  subst hd
  refine ⟨⟨x0, x1, x2⟩, hl.trans (by kernel_rfl), ?_, fun hq => ⟨s0 (jA ht rfl e0 hq), s1 (jA ht rfl e1 hq), s2 (jA ht rfl e2 hq)⟩⟩
  exact (joinE (pieceE p0) (joinE (pieceE p1) (pieceE p2)))
set_option maxRecDepth 100000 in
theorem opens_T_laws_Body {H : Type} {enc : TypeId × Value → H} {W : World} : Opens enc Tryz.prog W 289 (zT false) (fun x => x.Line.size ≤ reachBytes ∧ (Lit.int .i64 x.Ins).wf = true ∧ (Lit.int .i64 x.Ord).wf = true ∧ (x.Dels.length * 8 ≤ reachBytes ∧ ∀ y ∈ x.Dels, (Lit.int .i64 y).wf = true)) := fun fuel cs d ps h => by
  have ht := Tryz.underlying289
  obtain ⟨xs, m, _, hx, hl, hxl, hf⟩ := DataW.trod_struct ht h
  obtain ⟨y0, x0, e0, p0, s0⟩ := fieldAt hf hxl 0 rfl (opens_string (by kernel_rfl))
  obtain ⟨y1, x1, e1, p1, s1⟩ := fieldAt hf hxl 1 rfl (opens_int (k := .i64) (by kernel_rfl))
  obtain ⟨y2, x2, e2, p2, s2⟩ := fieldAt hf hxl 2 rfl (opens_int (k := .i64) (by kernel_rfl))
  obtain ⟨y3, x3, e3, p3, s3⟩ := fieldAt hf hxl 3 rfl (opens_slice (e := 3) (n := 1) (B := 8) (by kernel_rfl) (by kernel_rfl) (by kernel_rfl) (by decide) (fun _ => rfl) (opens_int (k := .i64) (by kernel_rfl)))
  injection hx with hd _
  subst hd
  refine ⟨⟨x0, x1, x2, x3⟩, hl.trans (by kernel_rfl), ?_, fun hq => ⟨s0 (jA ht rfl e0 hq), s1 (jA ht rfl e1 hq), s2 (jA ht rfl e2 hq), s3 (jA ht rfl e3 hq)⟩⟩
  exact (joinE (pieceE p0) (joinE (pieceE p1) (joinE (pieceE p2) (pieceE p3))))
set_option maxRecDepth 100000 in
theorem opens_T_laws_Weave {H : Type} {enc : TypeId × Value → H} {W : World} : Opens enc Tryz.prog W 223 (zL false) (fun x => (x.Parents.length * 24 ≤ reachBytes ∧ ∀ y ∈ x.Parents, (y.length * 8 ≤ reachBytes ∧ ∀ z ∈ y, (Lit.int .i64 z).wf = true)) ∧ (x.Bodies.length * 56 ≤ reachBytes ∧ ∀ y ∈ x.Bodies, (y.Line.size ≤ reachBytes ∧ (Lit.int .i64 y.Ins).wf = true ∧ (Lit.int .i64 y.Ord).wf = true ∧ (y.Dels.length * 8 ≤ reachBytes ∧ ∀ z ∈ y.Dels, (Lit.int .i64 z).wf = true)))) := fun fuel cs d ps h => by
  have ht := Tryz.underlying223
  obtain ⟨xs, m, _, hx, hl, hxl, hf⟩ := DataW.trod_struct ht h
  obtain ⟨y0, x0, e0, p0, s0⟩ := fieldAt hf hxl 0 rfl (opens_slice (e := 40) (n := 1) (B := 24) (by kernel_rfl) (by kernel_rfl) (by kernel_rfl) (by decide) (fun _ => rfl) (opens_slice (e := 3) (n := 1) (B := 8) (by kernel_rfl) (by kernel_rfl) (by kernel_rfl) (by decide) (fun _ => rfl) (opens_int (k := .i64) (by kernel_rfl))))
  obtain ⟨y1, x1, e1, p1, s1⟩ := fieldAt hf hxl 1 rfl (opens_slice (e := 289) (n := 4) (B := 56) (by kernel_rfl) (by kernel_rfl) (by kernel_rfl) (by decide) (fun _ => rfl) opens_T_laws_Body)
  injection hx with hd _
  subst hd
  refine ⟨⟨x0, x1⟩, hl.trans (by kernel_rfl), ?_, fun hq => ⟨s0 (jA ht rfl e0 hq), s1 (jA ht rfl e1 hq)⟩⟩
  exact (joinE (pieceE p0) (pieceE p1))
set_option maxRecDepth 100000 in
theorem opens_T_laws_Store {H : Type} {enc : TypeId × Value → H} {W : World} : Opens enc Tryz.prog W 51 (r_T_laws_Store false) (fun x => (x.Commits.length * 64 ≤ reachBytes ∧ ∀ y ∈ x.Commits, ((y.Parents.length * 8 ≤ reachBytes ∧ ∀ z ∈ y.Parents, (Lit.int .i64 z).wf = true) ∧ y.Note.size ≤ reachBytes ∧ (y.Names.length * 32 ≤ reachBytes ∧ ∀ z ∈ y.Names, (z.Path.size ≤ reachBytes ∧ (Lit.int .i64 z.Id).wf = true ∧ (Lit.int .i64 z.Version).wf = true)))) ∧ (x.Files.length * 48 ≤ reachBytes ∧ ∀ y ∈ x.Files, ((y.Parents.length * 24 ≤ reachBytes ∧ ∀ z ∈ y.Parents, (z.length * 8 ≤ reachBytes ∧ ∀ y ∈ z, (Lit.int .i64 y).wf = true)) ∧ (y.Bodies.length * 56 ≤ reachBytes ∧ ∀ z ∈ y.Bodies, (z.Line.size ≤ reachBytes ∧ (Lit.int .i64 z.Ins).wf = true ∧ (Lit.int .i64 z.Ord).wf = true ∧ (z.Dels.length * 8 ≤ reachBytes ∧ ∀ y ∈ z.Dels, (Lit.int .i64 y).wf = true)))))) := fun fuel cs d ps h => by
  have ht := Tryz.underlying51
  obtain ⟨xs, m, _, hx, hl, hxl, hf⟩ := DataW.trod_struct ht h
  obtain ⟨y0, x0, e0, p0, s0⟩ := fieldAt hf hxl 0 rfl (opens_slice (e := 219) (n := 3) (B := 64) (by kernel_rfl) (by kernel_rfl) (by kernel_rfl) (by decide) (fun _ => rfl) opens_T_laws_Commit)
  obtain ⟨y1, x1, e1, p1, s1⟩ := fieldAt hf hxl 1 rfl (opens_slice (e := 223) (n := 2) (B := 48) (by kernel_rfl) (by kernel_rfl) (by kernel_rfl) (by decide) (fun _ => rfl) opens_T_laws_Weave)
  injection hx with hd _
  subst hd
  refine ⟨⟨x0, x1⟩, hl.trans (by kernel_rfl), ?_, fun hq => ⟨s0 (jA ht rfl e0 hq), s1 (jA ht rfl e1 hq)⟩⟩
  exact (joinE (pieceE p0) (pieceE p1))
set_option maxRecDepth 100000 in
theorem lifted (os : Os) (started : os.Started) (H : Type) (enc : TypeId × Value → H) :
    ReturnsInHanded {} Tryz.checked os 4 .any (Rows.fnExactFileLogSpec.pre6 enc Tryz.prog Tryz.f4 Rows.fnExactFileLogRow.domain false) (Rows.fnExactFileLogSpec.post enc Tryz.prog Tryz.f4 false true false false) := by
  refine returnsInHanded_of_change_shaped (C := Tryz.checked) own started (by kernel_rfl) Tryz.func4
    (ChangeSpec.witness6 (enc := enc) (C := Tryz.checked) false ⟨#[], #[.agg #[.slice none 0 0, .slice none 0 0], .string (ByteArray.mk #[]), .int .i64 0], []⟩ 8 (by kernel_rfl) (by kernel_rfl) (by kernel_rfl) (by kernel_rfl)) ?_
  intro W base args ds gs before hval0 hW hcnd hsz0 hshape _
  have hsz : (DataW.weightsEach Tryz.prog (Tryz.f4.params.toList ++ Rows.fnExactFileLogSpec.plain.varTypes Tryz.prog) (ds ++ gs)).all (· ≤ reachBytes) = true := hsz0
  have hval : ∀ (j : Nat) t v, Tryz.f4.params[j]? = some t → args[j]? = some v → Value.okWide Tryz.prog W .any base t v := hval0
  have hW' := hW
  obtain ⟨p, q, hA0, hV, rfl, hfz, hnd⟩ := hW
  have hA : DataW.TrodAll enc Tryz.prog W 0 (fun _ => true) true Tryz.f4.params.toList args.toList ds p := hA0
  rw [Tryz.params4] at hA hval hsz
  obtain ⟨v0, vs0, d0, ds0, p0, q0, hargs, rfl, rfl, h0, r0⟩ := trodAll_cons hA
  obtain ⟨v1, vs1, d1, ds1, p1, q1, rfl, rfl, rfl, h1, r1⟩ := trodAll_cons r0
  obtain ⟨v2, vs2, d2, ds2, p2, q2, rfl, rfl, rfl, h2, r2⟩ := trodAll_cons r1
  obtain ⟨rfl, rfl, rfl⟩ := trodAll_nil r2
  obtain rfl : args = #[v0, v1, v2] := by cases args; simp_all
  obtain ⟨rfl, rfl⟩ := trodVars_none hV
  have k0 := h0
  have lt0 : ∀ x ∈ p0, x.block < W.heap.size := by obtain ⟨m, hm⟩ := k0; exact DataW.trod_lt m _ _ _ hm
  obtain ⟨cs0, hv0⟩ := okWide_agg Tryz.underlying51 (hval 0 51 v0 rfl rfl)
  subst hv0
  obtain ⟨x0, l0, o0, s0⟩ := (fun (h : ∃ fuel, _) => h.elim fun fuel hf => opens_T_laws_Store fuel _ _ _ hf) h0
  have m0 := s0 fun n hn => by
    have := List.all_eq_true.1 hsz n (DataW.weights_mem_each (j := 0) rfl rfl n hn)
    simpa using this
  have k1 := h1
  have lt1 : ∀ x ∈ p1, x.block < W.heap.size := by obtain ⟨m, hm⟩ := k1; exact DataW.trod_lt m _ _ _ hm
  have c1 : v1.cells = #[v1] := okWide_one (u := .string) (by kernel_rfl) rfl (hval 1 9 v1 rfl rfl)
  obtain ⟨x1, _, o1, s1⟩ := (fun (h : ∃ fuel, _) => h.elim fun fuel hf => (opens_string (by kernel_rfl)) fuel _ _ _ hf) h1
  rw [c1] at o1
  have m1 := s1 fun n hn => by
    have := List.all_eq_true.1 hsz n (DataW.weights_mem_each (j := 1) rfl rfl n hn)
    simpa using this
  have k2 := h2
  have lt2 : ∀ x ∈ p2, x.block < W.heap.size := by obtain ⟨m, hm⟩ := k2; exact DataW.trod_lt m _ _ _ hm
  have c2 : v2.cells = #[v2] := okWide_one (u := .int .i64) (by kernel_rfl) rfl (hval 2 3 v2 rfl rfl)
  obtain ⟨x2, _, o2, s2⟩ := (fun (h : ∃ fuel, _) => h.elim fun fuel hf => (opens_int (k := .i64) (by kernel_rfl)) fuel _ _ _ hf) h2
  rw [c2] at o2
  have m2 := s2 fun n hn => by
    have := List.all_eq_true.1 hsz n (DataW.weights_mem_each (j := 2) rfl rfl n hn)
    simpa using this
  have z3 := args_nil (W := W)
  have z2 := args_one o2 z3.1 z3.2
  have z1 := args_one o1 z2.1 z2.2
  have z0 := args_agg l0 o0 z1.1 z1.2
  have hp : Go.TV.F.laws_FnExactFileLog x0 x1 x2 = some true := Go.TV.F.fileLog_law m0
  refine (law_below (X := Go.TV.KFnExactFileLog.X) (Go.TV.KFnExactFileLog.W_laws_FnExactFileLog x0 x1 x2 true hp) z0.1 z0.2 (fun b φ q => by
    have hm := Cfg.ofG_mem (l := [(Go.Proofs.Tryz.lays144_ren.g 1, isNum)]) (b := b) (φ := φ) q
    simp only [List.mem_cons, List.not_mem_nil, or_false, Prod.mk.injEq] at hm
    rcases hm with ⟨rfl, rfl⟩
    · obtain ⟨m, hm⟩ := Go.Proofs.Tryz.lays144.s1_3 W hshape
      exact ⟨cell_lt hm, cell_isNum hm⟩)).mono fun e W' ⟨he, bel⟩ => ?_
  subst he
  exact ⟨_, rfl, _, _, _, [], _, [], hW', trodAll_mk1 (shut_bool Tryz.underlying4 _), (trodAll_cons_mk (Below.trod laidOut (by kernel_rfl) (of_decide_eq_true (by kernel_rfl)) k0 bel lt0) (trodAll_cons_mk (Below.trod laidOut (by kernel_rfl) (of_decide_eq_true (by kernel_rfl)) k1 bel lt1) (trodAll_cons_mk (Below.trod laidOut (by kernel_rfl) (of_decide_eq_true (by kernel_rfl)) k2 bel lt2) trodAll_mk0))), rfl, bel.frame _, fun h => by cases h⟩
theorem over : Rows.fnExactFileLogRow.holds Tryz.pinned (OpenSpec.ofChange Rows.fnExactFileLogSpec) :=
  OpenClaim.holds_of_wide 4 Tryz.f4 rfl rfl rfl rfl rfl rfl rfl ⟨rfl, rfl, rfl, rfl, rfl⟩ rfl rfl rfl rfl rfl (by kernel_rfl) Tryz.func4 (by kernel_rfl)
    (of_decide_eq_true (by kernel_rfl)) (by unfold Func.isWrapper; first | (rw [if_pos (by decide +kernel)]; kernel_rfl) | (rw [if_neg (by decide +kernel)]; exact ⟨rfl, rfl⟩))
    (fun os started H enc _ => lifted os started H enc)
theorem proved : Rows.FnExactFileLogSaid := over
#print axioms proved
end Go.Proofs.YtmoglghkjfjalaaGreat.fnExactFileLog
namespace Go.Proofs.YtmoglghkjfjalaaGreat
/-- The row, under a short name, for the claim. -/
theorem fnExactFileLog_holds : Rows.FnExactFileLogSaid := fnExactFileLog.proved
end Go.Proofs.YtmoglghkjfjalaaGreat
