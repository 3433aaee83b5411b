/- FnExactShowTold: for every input, read as data, the law returns true and leaves its arguments as they were. No conditions. -/
import Derived.Test.YthfhiepgdeghpaaDoorRows
import Derived.Test.YthfhiepgdeghpaaDoorTie
import Derived.Test.YthfhiepgdeghpaaDoorCards
import Derived.LaidMore
import Derived.SevenTiedAt
import Derived.Stop.Joined
import Derived.Test.YthfhiepgdeghpaaDoorKFnExactShowToldW0
import Derived.Test.YthfhiepgdeghpaaDoorKFnExactShowToldP
import Derived.Test.YthfhiepgdeghpaaDoorKFnExactShowToldT3
import Derived.WalkKit
import Derived.ProofKit
import Derived.OpenShut
import Derived.ShutString
import Derived.ChangeOld
import Derived.Below
import Derived.Carry
import Derived.SizedLaws
import Derived.KernelRfl
import Derived.LaidSub
import Derived.MakeChecks
import Derived.Lib.LaidTab
namespace Go.Proofs.YthfhiepgdeghpaaDoor.fnExactShowTold
open Go.ChangeShapes Go.WideShapes Go.ChangeAt Go.RowKit Go.TV
open Go.ChangeMaps (open_string shut_string)
set_option linter.unusedVariables false
set_option linter.unusedSimpArgs false
theorem own : ownKnob Tryd.prog.godebug = none := by kernel_rfl
theorem laidOut : laidOutB Tryd.prog = true := by kernel_rfl
noncomputable def laidL {H : Type} : List (String × DataW H) := [("math/bits.deBruijn32tab", Rows.laid_math_bits_deBruijn32tab), ("math/bits.deBruijn64tab", Rows.laid_math_bits_deBruijn64tab), ("internal/strconv.uint64pow10", Rows.laid_internal_strconv_uint64pow10)]
theorem door_met (os : Os) (args : Array Value) : laidMetH Tryd.prog laidL ((World.doorLaid Tryd.prog 400 os).forCall (fun _ _ => 0) ⟨#[], args, []⟩).memory :=
  laidMetH_of_parts3 (fuel := 8) (laidMet_of_run' 8 (by kernel_rfl) (by kernel_rfl)) (by kernel_rfl) (by kernel_rfl)
set_option maxRecDepth 100000 in
theorem opens_T_laws_Told {H : Type} {enc : TypeId × Value → H} {W : World} : Opens enc Tryd.prog W 24 (r_T_laws_Told false) (fun x => (Lit.int .i64 x.Kind).wf = true ∧ (Lit.int .i64 x.Code).wf = true ∧ (Lit.int .i64 x.Number).wf = true ∧ (x.Lines.length * 16 ≤ reachBytes ∧ ∀ y ∈ x.Lines, y.size ≤ reachBytes)) := fun fuel cs d ps h => by
  have ht := Tryd.underlying24
  obtain ⟨xs, m, _, hx, hl, hxl, hf⟩ := DataW.trod_struct ht h
  obtain ⟨y0, x0, e0, p0, s0⟩ := fieldAt hf hxl 0 rfl (opens_int (k := .i64) (by kernel_rfl))
  obtain ⟨y1, x1, e1, p1, s1⟩ := fieldAt hf hxl 1 rfl (opens_int (k := .i64) (by kernel_rfl))
  obtain ⟨y2, x2, e2, p2, s2⟩ := fieldAt hf hxl 2 rfl (opens_int (k := .i64) (by kernel_rfl))
  obtain ⟨y3, x3, e3, p3, s3⟩ := fieldAt hf hxl 3 rfl (opens_slice (e := 9) (n := 1) (B := 16) (by kernel_rfl) (by kernel_rfl) (by kernel_rfl) (by decide) (fun _ => rfl) (opens_string (by kernel_rfl)))
  injection hx with hd _
  subst hd
  refine ⟨⟨x0, x1, x2, x3⟩, hl.trans (by kernel_rfl), ?_, fun hq => ⟨s0 (weights_field ht rfl e0 hq), s1 (weights_field ht rfl e1 hq), s2 (weights_field ht rfl e2 hq), s3 (weights_field ht rfl e3 hq)⟩⟩
  exact (joinE (pieceE p0) (joinE (pieceE p1) (joinE (pieceE p2) (pieceE p3))))
set_option maxRecDepth 100000 in
theorem lifted (os : Os) (started : os.Started) (H : Type) (enc : TypeId × Value → H) :
    ReturnsInHanded {} Tryd.checked os 3 .any (fun w args => (Rows.fnExactShowToldSpec.pre enc Tryd.prog Tryd.f3 [] false w args ∧ laidMetH Tryd.prog laidL w) ∧ sizedMet enc Tryd.prog Tryd.f3 (OpenSpec.ofChange Rows.fnExactShowToldSpec) false w args) (Rows.fnExactShowToldSpec.post enc Tryd.prog Tryd.f3 false true false false) := by
  refine returnsInHanded_of_change_and (C := Tryd.checked) (X := fun w _ => laidMetH Tryd.prog laidL w) (fun _ _ _ hh h => h.of_heap hh) own started (by kernel_rfl) Tryd.func3
    (ChangeSpec.witness_shaped (enc := enc) (C := Tryd.checked) (os := os) (X := fun w _ => laidMetH Tryd.prog laidL w) false (World.doorLaid Tryd.prog 400 os) #[.agg #[.int .i64 0, .int .i64 0, .int .i64 0, .slice none 0 0]] 8 rfl (World.shaped_of_RefB (by kernel_rfl) (by kernel_rfl)) (by kernel_rfl) (by kernel_rfl) (by kernel_rfl) (door_met os _)) ?_
  intro W base args ds gs before hval0 hW hcnd hsz0 hLaid _
  have hsz : (DataW.weightsEach Tryd.prog (Tryd.f3.params.toList ++ Rows.fnExactShowToldSpec.plain.varTypes Tryd.prog) (ds ++ gs)).all (· ≤ reachBytes) = true := hsz0
  have hval : ∀ (j : Nat) t v, Tryd.f3.params[j]? = some t → args[j]? = some v → Value.okWide Tryd.prog W .any base t v := hval0
  have hW' := hW
  obtain ⟨p, q, hA0, hV, rfl, hfz, hnd⟩ := hW
  have hA : DataW.TrodAll enc Tryd.prog W 0 (fun _ => true) true Tryd.f3.params.toList args.toList ds p := hA0
  rw [Tryd.params3] at hA hval hsz
  obtain ⟨v0, vs0, d0, ds0, p0, q0, hargs, rfl, rfl, h0, r0⟩ := trodAll_cons hA
  obtain ⟨rfl, rfl, rfl⟩ := trodAll_nil r0
  obtain rfl : args = #[v0] := by cases args; simp_all
  obtain ⟨rfl, rfl⟩ := trodVars_none hV
  have k0 := h0
  have lt0 : ∀ x ∈ p0, x.block < W.heap.size := by obtain ⟨m, hm⟩ := k0; exact DataW.trod_lt m _ _ _ hm
  obtain ⟨cs0, hv0⟩ := okWide_agg Tryd.underlying24 (hval 0 24 v0 rfl rfl)
  subst hv0
  obtain ⟨x0, l0, o0, s0⟩ := (fun (h : ∃ fuel, _) => h.elim fun fuel hf => opens_T_laws_Told fuel _ _ _ hf) h0
  have m0 := s0 fun n hn => by
    have := List.all_eq_true.1 hsz n (DataW.weights_mem_each (j := 0) rfl rfl n hn)
    simpa using this
  have z1 := args_nil (W := W)
  have z0 := args_agg l0 o0 z1.1 z1.2
  have hp : Go.TV.F.laws_FnExactShowTold x0 = some true := Go.TV.F.showTold_law m0
  refine (law_below (X := Go.TV.KFnExactShowTold.X) (Go.TV.KFnExactShowTold.W_laws_FnExactShowTold x0 true hp) z0.1 z0.2 (fun b φ q => by
    have hm := Cfg.ofG_mem (l := [(0, isTab .u64 Go.Lib.pow10Tab)]) (b := b) (φ := φ) q
    simp only [List.mem_cons, List.not_mem_nil, or_false, Prod.mk.injEq] at hm
    rcases hm with ⟨rfl, rfl⟩
    · have hT := Go.Lib.tabIs_of_head (g := 0) (t := 100) (e := 94) (n := 20) (rest := []) (zs := Go.Lib.pow10Tab) (k := .u64) (name := "internal/strconv.uint64pow10") (by kernel_rfl) (by kernel_rfl) (by kernel_rfl) (by kernel_rfl) (by kernel_rfl) (by kernel_rfl) ((Go.MakeChecks.laidMetH_plain Tryd.prog _ W (by kernel_rfl)) ▸ hLaid.filter (fun x => x.1 == "internal/strconv.uint64pow10"))
      obtain ⟨x, hx, hx2⟩ := var_isTab (by kernel_rfl) hT
      have hlt : 0 < W.heap.size := by
        rcases Nat.lt_or_ge 0 W.heap.size with q | q
        · exact q
        · rw [Array.getElem?_eq_none q] at hx
          cases hx
      exact ⟨hlt, x, hx, hx2⟩)).mono fun e W' ⟨he, bel⟩ => ?_
  subst he
  exact ⟨_, rfl, _, _, _, [], _, [], hW', trodAll_mk1 (shut_bool Tryd.underlying4 _), (trodAll_cons_mk (Below.trod laidOut (by kernel_rfl) (of_decide_eq_true (by kernel_rfl)) k0 bel lt0) trodAll_mk0), rfl, bel.frame _, fun h => by cases h⟩
theorem over : Rows.fnExactShowToldRow.holds Tryd.pinned (OpenSpec.ofChange Rows.fnExactShowToldSpec) :=
  OpenClaim.holds_of_wide 3 Tryd.f3 rfl rfl rfl rfl rfl rfl rfl ⟨rfl, rfl, rfl, rfl, rfl⟩ rfl rfl rfl rfl rfl (by kernel_rfl) Tryd.func3 (by kernel_rfl)
    (of_decide_eq_true (by kernel_rfl)) (by unfold Func.isWrapper; first | (rw [if_pos (by decide +kernel)]; kernel_rfl) | (rw [if_neg (by decide +kernel)]; exact ⟨rfl, rfl⟩))
    (fun os started H enc _ => lifted os started H enc)
theorem proved : Rows.FnExactShowToldCardSaid :=
  Claim7.holds_tied_plain_at .later [] [.data, .data, .data] true (true, "37c8be55d40abdd6399d8766d1d9e65beb954bfd2e989d09ca690d6a9368845e") false
    over (fun _ h => by cases h) (by kernel_rfl) (fun _ h => by cases h) fnExactShowTold_row_tie rfl ⟨rfl, rfl⟩ (by kernel_rfl) rfl
    (fun f fn hf hfn => by
      obtain rfl : f = 3 := Option.some.inj ((show Tryd.prog.funcNamed "loop.example/g00073/laws.FnExactShowTold" = some 3 by kernel_rfl).symm.trans hf) |>.symm
      obtain rfl : fn = Tryd.f3 := (Option.some.inj (Tryd.func3.symm.trans hfn)).symm
      exact ⟨by kernel_rfl, fun j t ht => by
        rw [Tryd.params3] at ht
        have hm : t ∈ [24] := by simpa using Array.mem_of_getElem? ht
        have hall : ([24].all fun u => !Tryd.prog.wantsStandIn u) = true := by kernel_rfl
        exact (show Tryd.prog.wantsStandIn t = false by simpa using List.all_eq_true.1 hall t hm)⟩)
    (by kernel_rfl)
#print axioms proved
end Go.Proofs.YthfhiepgdeghpaaDoor.fnExactShowTold
namespace Go.Proofs.YthfhiepgdeghpaaDoor
/-- The row, under a short name, for the claim. -/
theorem fnExactShowTold_holds : Rows.FnExactShowToldCardSaid := fnExactShowTold.proved
end Go.Proofs.YthfhiepgdeghpaaDoor
