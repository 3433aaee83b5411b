/- The plain laws. -/
import Derived.Test.YtmoglghkjfjalaaKFnExactReadBundleT4
import Derived.Laws.BitsLemmas
import Derived.Test.YtmoglghkjfjalaaKFnExactReadBundleD
set_option linter.unusedVariables false
set_option linter.unusedSimpArgs false
set_option maxHeartbeats 8000000
set_option maxRecDepth 100000
/- Plain Lean: loops and small steps. -/
namespace Go.TV.F
open Go.TV

theorem wk64 {x : Int} (h1 : -9223372036854775808 ≤ x) (h2 : x < 9223372036854775808) : wk .i64 x = x := by
  simp only [wk, IntKind.wrap, IntKind.bits, IntKind.signed, Bool.true_and, decide_eq_true_eq, Nat.reduceSub, Int.reducePow]
  split
  · rename_i h; simp at h; omega
  · rename_i h; simp at h; omega
theorem wku32 {x : Int} (h1 : 0 ≤ x) (h2 : x < 4294967296) : wk .u32 x = x := by
  simp only [wk, IntKind.wrap, IntKind.bits, IntKind.signed, Bool.true_and, Bool.false_and, decide_eq_true_eq, Bool.false_eq_true, if_false, Nat.reduceSub, Int.reducePow]
  first | omega | (split <;> omega)
theorem wku8 {x : Int} (h1 : 0 ≤ x) (h2 : x < 256) : wk .u8 x = x := by
  simp only [wk, IntKind.wrap, IntKind.bits, IntKind.signed, Bool.true_and, Bool.false_and, decide_eq_true_eq, Bool.false_eq_true, if_false, Nat.reduceSub, Int.reducePow]
  first | omega | (split <;> omega)
theorem wku32_mod (x : Int) : wk .u32 x = x % 4294967296 := by
  simp only [wk, IntKind.wrap, IntKind.bits, IntKind.signed, Bool.false_and, Bool.false_eq_true, if_false, Int.reducePow]
theorem geti_nat {α : Type} (l : List α) (k : Nat) : geti l (k : Int) = l[k]? := by
  unfold geti
  rw [if_neg (by omega), Int.toNat_natCast]
theorem appn_in {α : Type} {l m : List α} (h : l.length + m.length ≤ 549755813888) : appn l m = some (l ++ m) := by
  unfold appn
  rw [if_pos h]
theorem sapp_in {s t : ByteArray} (h : s.size + t.size ≤ 4611686018427387904) : sapp s t = some (s ++ t) := by
  unfold sapp
  rw [if_pos h]
/-- A loop that goes through known states. -/
theorem loopM_at {σ ρ : Type} {body : σ → Option (σ ⊕ ρ)} {r : ρ} (f : Nat → σ) (n : Nat) (hs : ∀ k, k < n → body (f k) = some (.inl (f (k + 1)))) (he : body (f n) = some (.inr r)) : loopM body (f 0) = some r := by
  have key : ∀ m k, k + m = n → loopM body (f k) = some r := by
    intro m
    induction m with
    | zero => intro k hk; rw [Nat.add_zero] at hk; subst hk; rw [loopM_eq, he]; rfl
    | succ m ih => intro k hk; rw [loopM_eq, hs k (by omega)]; exact ih (k + 1) (by omega)
  exact key n 0 (by omega)
/-- A loop that looks at all, and leaves at the first bad one. -/
theorem loopM_all {σ ρ : Type} {body : σ → Option (σ ⊕ ρ)} {good bad : ρ} (f : Nat → σ) (n : Nat) (p : Nat → Bool) (hs : ∀ k, k < n → (∀ j, j < k → p j = true) → p k = true → body (f k) = some (.inl (f (k + 1))))
    (hb : ∀ k, k < n → (∀ j, j < k → p j = true) → p k = false → body (f k) = some (.inr bad)) (he : (∀ j, j < n → p j = true) → body (f n) = some (.inr good)) : loopM body (f 0) = some (if (List.range n).all p = true then good else bad) := by
  have key : ∀ m k, k + m = n → (∀ j, j < k → p j = true) → loopM body (f k) = some (if (List.range n).all p = true then good else bad) := by
    intro m
    induction m with
    | zero =>
      intro k hk hp
      rw [Nat.add_zero] at hk
      subst hk
      rw [loopM_eq, he hp, if_pos (by simpa using hp)]
      rfl
    | succ m ih =>
      intro k hk hp
      rw [loopM_eq]
      cases q : p k with
      | true =>
        rw [hs k (by omega) hp q]
        refine ih (k + 1) (by omega) (fun j hj => ?_)
        rcases Nat.lt_succ_iff_lt_or_eq.1 hj with h | rfl
        · exact hp j h
        · exact q
      | false =>
        rw [hb k (by omega) hp q, if_neg]
        · rfl
        · intro hq
          have := List.all_eq_true.1 hq k (List.mem_range.2 (by omega))
          rw [q] at this
          cases this
  exact key n 0 (by omega) (fun j hj => by omega)
end Go.TV.F
/- Plain Lean: the loops of the laws' own helpers. -/
namespace Go.TV.F
open Go.TV

def sumOf {α : Type} (w : α → Nat) : List α → Nat
  | [] => 0
  | x :: l => w x + sumOf w l
theorem sumOf_mem {α : Type} {w : α → Nat} {l : List α} {x : α} (h : x ∈ l) : w x ≤ sumOf w l := by
  induction l with
  | nil => cases h
  | cons y l ih =>
    rcases List.mem_cons.1 h with rfl | h
    · simp [sumOf]
    · have := ih h
      simp [sumOf]
      omega
/-- Alike with itself. -/
theorem eq_loop {ρ : Type} {body : Int → Option (Int ⊕ ρ)} {r : ρ} (n : Nat) (hs : ∀ i : Nat, i < n → body (i : Int) = some (.inl ((i + 1 : Nat) : Int))) (he : body (n : Int) = some (.inr r)) : loopM body 0 = some r :=
  loopM_at (fun k => (k : Int)) n hs he
/-- What marks make of a list. -/
def mkL {α : Type} (c : α → Nat) (mk : α → Int → α) : List α → Int → List α
  | [], _ => []
  | x :: l, k => mk x k :: mkL c mk l (k + c x)
theorem mkL_len {α : Type} (c : α → Nat) (mk : α → Int → α) : ∀ (l : List α) (k : Int), (mkL c mk l k).length = l.length
  | [], _ => rfl
  | x :: l, k => by simp [mkL, mkL_len c mk l]
theorem mark_loop {α : Type} {body : Int × Int × List α → Option ((Int × Int × List α) ⊕ (Int × List α))} (c : α → Nat) (mk : α → Int → α) (a : List α) (k0 B : Int) (h1 : 1 ≤ k0) (hB : k0 + sumOf c a ≤ B)
    (hs : ∀ (k : Int) (i : Nat) (x : α) (l : List α), l[i]? = some x → x ∈ a → l.length = a.length → 1 ≤ k → k + c x ≤ B → body (k, (i : Int), l) = some (.inl (k + c x, ((i + 1 : Nat) : Int), l.set i (mk x k))))
    (he : ∀ (k : Int) (l : List α), l.length = a.length → body (k, (a.length : Int), l) = some (.inr (k, l))) : loopM body (k0, (0 : Int), a) = some (k0 + sumOf c a, mkL c mk a k0) := by
  have key : ∀ (l pre : List α) (k : Int), (∀ x ∈ l, x ∈ a) → pre.length + l.length = a.length → 1 ≤ k → k + sumOf c l ≤ B → loopM body (k, (pre.length : Int), pre ++ l) = some (k + sumOf c l, pre ++ mkL c mk l k) := by
    intro l
    induction l with
    | nil =>
      intro pre k _ hl h1 hB
      rw [loopM_eq, show (pre.length : Int) = (a.length : Int) by simp at hl; omega, he _ _ (by simpa using hl)]
      simp [sumOf, mkL]
    | cons x l ih =>
      intro pre k hm hl h1 hB
      simp only [sumOf] at hB
      rw [loopM_eq, hs k pre.length x _ (by simp) (hm x (by simp)) (by simpa using hl) h1 (by omega)]
      have := ih (pre ++ [mk x k]) (k + c x) (fun y hy => hm y (by simp [hy])) (by simp at hl ⊢; omega) (by omega) (by omega)
      have e : (pre ++ x :: l).set pre.length (mk x k) = pre ++ [mk x k] ++ l := by
        rw [List.set_append_right _ _ (by simp)]
        simp
      rw [e]
      rw [List.length_append] at this
      refine this.trans ?_
      simp only [sumOf, mkL, List.append_assoc, List.cons_append, List.nil_append, Option.some.injEq, Prod.mk.injEq, and_true]
      omega
  exact key a [] k0 (fun _ h => h) (by simp) h1 hB
theorem held_loop {α : Type} {ρ : Type} {body : Int × Int → Option ((Int × Int) ⊕ ρ)} {r : Int → ρ} (c : α → Nat) (mk : α → Int → α) (a : List α) (k0 B : Int) (h1 : 1 ≤ k0) (hB : k0 + sumOf c a ≤ B)
    (hs : ∀ (k : Int) (i : Nat) (x : α), (mkL c mk a k0)[i]? = some (mk x k) → i < a.length → x ∈ a → 1 ≤ k → k + c x ≤ B → body (k, (i : Int)) = some (.inl (k + c x, ((i + 1 : Nat) : Int))))
    (he : ∀ (k : Int), body (k, (a.length : Int)) = some (.inr (r k))) : loopM body (k0, (0 : Int)) = some (r (k0 + sumOf c a)) := by
  have key : ∀ (l : List α) (pre : List α) (k : Int), (∀ x ∈ l, x ∈ a) → mkL c mk a k0 = pre ++ mkL c mk l k → pre.length + l.length = a.length → 1 ≤ k → k + sumOf c l ≤ B → loopM body (k, (pre.length : Int)) = some (r (k + sumOf c l)) := by
    intro l
    induction l with
    | nil =>
      intro pre k _ _ hl h1 hB
      rw [loopM_eq, show (pre.length : Int) = (a.length : Int) by simp at hl; omega, he]
      simp [sumOf]
    | cons x l ih =>
      intro pre k hm hp hl h1 hB
      simp only [sumOf] at hB
      rw [loopM_eq, hs k pre.length x (by rw [hp]; simp [mkL]) (by simp at hl; omega) (hm x (by simp)) h1 (by omega)]
      have := ih (pre ++ [mk x k]) (k + c x) (fun y hy => hm y (by simp [hy])) (by rw [hp]; simp [mkL]) (by simp at hl ⊢; omega) (by omega) (by omega)
      rw [List.length_append] at this
      refine this.trans ?_
      simp only [sumOf, Option.some.injEq]
      congr 1
      omega
  exact key a [] k0 (fun _ h => h) rfl (by simp) h1 hB
end Go.TV.F
/- Plain Lean: graphs of versions. -/
namespace Go.TV.F
open Go.TV

/-! ### Right graphs -/
/-! ### Sets as bits -/
/-! ### Closures -/
/-! ### The reference's way -/
def mark (b : List Bool) (l : List Int) : List Bool := l.foldl (fun (b : List Bool) (x : Int) => if 0 ≤ x ∧ x < b.length then b.set x.toNat true else b) b
def step (g : List (List Int)) (b : List Bool) (v : Nat) : List Bool := if b.getD v false = true then mark b (g.getD v []) else b
def down (g : List (List Int)) : Nat → List Bool → List Bool
  | 0, b => b
  | n + 1, b => down g n (step g b n)
end Go.TV.F
/- Plain Lean: two loops, side by side; the check sums. -/
namespace Go.TV.F
open Go.TV
theorem loopM_total2 {σ τ ρ κ : Type} {f : σ → Option (σ ⊕ ρ)} {g : τ → Option (τ ⊕ κ)} (R : σ → τ → Prop) (m : σ → Nat) (Q : ρ → κ → Prop) {s : σ} {t : τ} (h0 : R s t)
    (h : ∀ s t, R s t → (∃ s' t', f s = some (.inl s') ∧ g t = some (.inl t') ∧ R s' t' ∧ m s' < m s) ∨ ∃ r r', f s = some (.inr r) ∧ g t = some (.inr r') ∧ Q r r') :
    ∃ r r', loopM f s = some r ∧ loopM g t = some r' ∧ Q r r' := by
  have key : ∀ n s t, R s t → m s = n → ∃ r r', loopM f s = some r ∧ loopM g t = some r' ∧ Q r r' := by
    intro n
    induction n using Nat.strongRecOn with
    | _ n ih =>
      intro s t hs hm
      rw [loopM_eq f, loopM_eq g]
      rcases h s t hs with ⟨s', t', h1, h2, h3, h4⟩ | ⟨r, r', h1, h2, h3⟩
      · rw [h1, h2]
        exact ih (m s') (by omega) s' t' h3 rfl
      · rw [h1, h2]
        exact ⟨r, r', rfl, rfl, h3⟩
  exact key _ s t h0 rfl
theorem and32 {a b : Nat} (ha : a < 2 ^ 32) (hb : b < 2 ^ 32) : bits .and .u32 a b = ((a &&& b : Nat) : Int) := (bits_nat .u32 32 (by decide) (fun n h0 h1 => wku32 h0 (by simpa using h1)) a b ha hb).1
theorem tmod_nat (a b : Nat) : ((a : Int)).tmod (b : Int) = ((a % b : Nat) : Int) := by
  rw [Int.tmod_eq_emod_of_nonneg (by omega)]
  rfl
theorem tdiv_nat (a b : Nat) : ((a : Int)).tdiv (b : Int) = ((a / b : Nat) : Int) := by
  rw [Int.tdiv_eq_ediv_of_nonneg (by omega)]
  rfl
theorem shr32_1 (a : Nat) : shrI .u32 (a : Int) 1 = ((a / 2 : Nat) : Int) := by
  unfold shrI
  simp [IntKind.bits]
/-! ### Check sums -/
def isW32 (x : Int) : Prop := 0 ≤ x ∧ x < 4294967296
theorem sum_l2 {x k : Int} (hx : isW32 x) : impl_SumMore_l2 x k = spec_SumMore_l2 x k := by
  obtain ⟨n, rfl⟩ : ∃ n : Nat, x = n := ⟨x.toNat, by have := hx.1; omega⟩
  have hn : n < 2 ^ 32 := by have := hx.2; omega
  unfold impl_SumMore_l2 spec_SumMore_l2
  have e1 : bits .and .u32 (n : Int) 1 = ((n : Int)).tmod 2 := by
    rw [show ((1 : Int)) = ((1 : Nat) : Int) from rfl, and32 hn (by decide), show ((2 : Int)) = ((2 : Nat) : Int) from rfl, tmod_nat, Nat.and_one_is_mod]
  have e2 : wk .u32 (((n : Int)).tdiv 2) = shrI .u32 (n : Int) 1 := by
    rw [shr32_1, show ((2 : Int)) = ((2 : Nat) : Int) from rfl, tdiv_nat, wku32 (by omega) (by omega)]
  rw [e1, e2]
theorem w32_xor (x y : Int) : isW32 (bits .xor .u32 x y) := by
  unfold isW32
  show 0 ≤ wk .u32 _ ∧ wk .u32 _ < _
  rw [wku32_mod]
  omega
theorem w32_shr {x : Int} (hx : isW32 x) : isW32 (shrI .u32 x 1) := by
  obtain ⟨n, rfl⟩ : ∃ n : Nat, x = n := ⟨x.toNat, by have := hx.1; omega⟩
  have := hx.2
  rw [shr32_1]
  constructor <;> omega
theorem sum_inner {x : Int} (hx : isW32 x) : ∃ r, loopM (fun (s' : Int × Int) => impl_SumMore_l2 s'.1 s'.2) (x, 0) = some r ∧ loopM (fun (s' : Int × Int) => spec_SumMore_l2 s'.1 s'.2) (x, 0) = some r ∧ isW32 r := by
  obtain ⟨r, r', h1, h2, h3, h4⟩ := loopM_total2 (f := fun (s' : Int × Int) => impl_SumMore_l2 s'.1 s'.2) (g := fun (s' : Int × Int) => spec_SumMore_l2 s'.1 s'.2) (fun s t => s = t ∧ isW32 s.1 ∧ 0 ≤ s.2 ∧ s.2 ≤ 8) (fun s => (8 - s.2).toNat) (fun r r' => r = r' ∧ isW32 r)
    (s := (x, 0)) (t := (x, 0)) ⟨rfl, hx, by simp, by simp⟩ (fun s t hs => by
    obtain ⟨v, k⟩ := s
    obtain ⟨rfl, hv, h0, h8⟩ := hs
    simp only at hv h0 h8 ⊢
    rw [← sum_l2 hv]
    unfold impl_SumMore_l2
    by_cases q : k < 8
    · rw [ifT (by simpa using q), wk64 (x := k + 1) (by omega) (by omega)]
      split
      · exact .inl ⟨_, _, rfl, rfl, ⟨rfl, w32_xor _ _, by simp only; omega, by simp only; omega⟩, by simp only; omega⟩
      · exact .inl ⟨_, _, rfl, rfl, ⟨rfl, w32_shr hv, by simp only; omega, by simp only; omega⟩, by simp only; omega⟩
    · rw [ifF (by simpa using q)]
      exact .inr ⟨_, _, rfl, rfl, rfl, hv⟩)
  subst h3
  exact ⟨r, h1, h2, h4⟩
theorem sidx_in {s : ByteArray} {k : Nat} (h : k < s.size) : ∃ b : Nat, sidx s (k : Int) = some (b : Int) ∧ b < 256 := by
  unfold sidx
  rw [if_neg (by omega), Int.toNat_natCast, if_pos h]
  exact ⟨_, rfl, UInt8.toNat_lt _⟩
theorem sumMore_eq {x : Int} (hx : isW32 x) {text : ByteArray} (ht : text.size ≤ 1000000000) : ∃ r, impl_SumMore x text = some r ∧ spec_SumMore x text = some r ∧ isW32 r := by
  unfold impl_SumMore spec_SumMore
  obtain ⟨r, r', h1, h2, h3, h4⟩ := loopM_total2 (f := fun (s' : Int × Int) => impl_SumMore_l1 text s'.1 s'.2) (g := fun (s' : Int × Int) => spec_SumMore_l1 text s'.1 s'.2) (fun s t => s = t ∧ isW32 s.1 ∧ 0 ≤ s.2 ∧ s.2 ≤ text.size) (fun s => (text.size - s.2).toNat) (fun r r' => r = r' ∧ isW32 r)
    (s := (x, 0)) (t := (x, 0)) ⟨rfl, hx, by simp, by simp⟩ (fun s t hs => by
    obtain ⟨v, k⟩ := s
    obtain ⟨rfl, hv, h0, h8⟩ := hs
    simp only at hv h0 h8 ⊢
    obtain ⟨k, rfl⟩ : ∃ n : Nat, k = n := ⟨k.toNat, by omega⟩
    unfold impl_SumMore_l1 spec_SumMore_l1
    by_cases q : k < text.size
    · rw [ifT (by simpa using q), ifT (by simpa using q)]
      obtain ⟨b, hb, _⟩ := sidx_in q
      rw [hb, Option.bind_some, Option.bind_some]
      obtain ⟨z, g1, g2, g3⟩ := sum_inner (w32_xor v (wk .u32 (b : Int)))
      rw [g1, g2, Option.bind_some, Option.bind_some]
      unfold impl_SumMore_j2 spec_SumMore_j2
      rw [wk64 (by omega) (by omega)]
      exact .inl ⟨_, _, rfl, rfl, ⟨rfl, g3, by simp only; omega, by simp only; omega⟩, by simp only; omega⟩
    · rw [ifF (by simpa using q), ifF (by simpa using q)]
      exact .inr ⟨_, _, rfl, rfl, rfl, hv⟩)
  subst h3
  rw [h1, h2]
  exact ⟨r, rfl, rfl, h4⟩
theorem sumOf_eq {text : ByteArray} (ht : text.size ≤ 1000000000) : ∃ r, impl_SumOf text = some r ∧ spec_SumOf text = some r ∧ isW32 r := by
  obtain ⟨r, h1, h2, h3⟩ := sumMore_eq (x := 4294967295) ⟨by decide, by decide⟩ ht
  refine ⟨r, ?_, ?_, h3⟩
  · unfold impl_SumOf
    rw [h1]
    rfl
  · unfold spec_SumOf
    rw [h2]
    rfl
end Go.TV.F
/- Plain Lean: a sealed text. -/
namespace Go.TV.F
open Go.TV
theorem subL_in {s : ByteArray} {lo : Int} (h0 : 0 ≤ lo) (h : lo ≤ s.size) : subL s lo = some (s.extract lo.toNat s.size) := by
  unfold subL
  rw [if_neg (by omega), if_pos (by omega)]
theorem subH_in {s : ByteArray} {hi : Int} (h0 : 0 ≤ hi) (h : hi ≤ s.size) : subH s hi = some (s.extract 0 hi.toNat) := by
  unfold subH
  rw [if_neg (by omega), if_pos (by omega)]
theorem sub2_in {s : ByteArray} {lo hi : Int} (h0 : 0 ≤ lo) (h1 : lo ≤ hi) (h : hi ≤ s.size) : sub2 s lo hi = some (s.extract lo.toNat hi.toNat) := by
  unfold sub2
  rw [if_neg (by omega), if_neg (by omega), if_pos (by omega)]
/-- What is left of a sealed text. -/
theorem unsealed_eq {text : ByteArray} (ht : text.size ≤ 1000000000) : ∃ t ok, impl_Unsealed text = some (t, ok) ∧ spec_Unsealed text = some (t, ok) ∧ t.size ≤ 60000 := by
  unfold impl_Unsealed spec_Unsealed
  rw [wk64 (x := (text.size : Int) - 4) (by omega) (by omega)]
  by_cases q : (text.size : Int) - 4 < 0
  · rw [ifT (by simpa using q)]
    exact ⟨_, _, rfl, rfl, by decide⟩
  rw [ifF (by simpa using q)]
  simp only [Option.bind_some]
  by_cases q2 : (text.size : Int) - 4 > 60000
  · have q2' : decide ((text.size : Int) - 4 > 60000) = true := by simpa using q2
    rw [q2']
    exact ⟨_, _, rfl, rfl, by decide⟩
  have q2' : decide ((text.size : Int) - 4 > 60000) = false := by simpa using q2
  rw [q2']
  simp only [Bool.false_eq_true, if_false]
  rw [subL_in (by omega) (by omega), subH_in (by omega) (by omega)]
  simp only [Option.bind_some]
  have hsz : (text.extract 0 ((text.size : Int) - 4).toNat).size ≤ 60000 := by
    rw [ByteArray.size_extract]
    omega
  obtain ⟨r, h1, h2, h3⟩ := sumOf_eq (text := text.extract 0 ((text.size : Int) - 4).toNat) (by omega)
  unfold impl_sumText spec_l02Four
  rw [h1, h2]
  simp only [Option.bind_some]
  generalize mkS _ = u
  generalize text.extract ((text.size : Int) - 4).toNat text.size = v
  have e : (!(u.toList == v.toList)) = (!(v.toList == u.toList)) := by
    rw [Bool.beq_comm]
  rw [e]
  split
  · exact ⟨_, _, rfl, rfl, by decide⟩
  · exact ⟨_, _, rfl, rfl, hsz⟩
end Go.TV.F
/- Plain Lean: bytes; lines that are right. -/
namespace Go.TV.F
open Go.TV
theorem wkS (k : Nat) (h : k < 1000000000) : wk .i64 ((k : Int) + 1) = ((k + 1 : Nat) : Int) := by rw [wk64 (by omega) (by omega)]; omega
theorem toList_loop (bs : ByteArray) : ∀ (m i : Nat) (r : List UInt8), i + m = bs.size → ByteArray.toList.loop bs i r = r.reverse ++ bs.data.toList.drop i
  | 0, i, r, h => by
    rw [ByteArray.toList.loop, if_neg (by omega), List.drop_eq_nil_of_le (by show bs.data.toList.length ≤ i; have : bs.data.toList.length = bs.size := rfl; omega), List.append_nil]
  | m + 1, i, r, h => by
    have hi : i < bs.data.toList.length := by have : bs.data.toList.length = bs.size := rfl; omega
    rw [ByteArray.toList.loop, if_pos (by omega), toList_loop bs m (i + 1) _ (by omega), List.drop_eq_getElem_cons hi]
    have e : bs.get! i = bs.data.toList[i] := by
      show bs.data[i]! = _
      rw [getElem!_pos bs.data i (by simpa using hi)]
      simp
    rw [e]
    simp
theorem toList_eq (bs : ByteArray) : bs.toList = bs.data.toList := by
  unfold ByteArray.toList
  rw [toList_loop bs bs.size 0 [] (by omega)]
  simp
/-- The bytes of a text, as numbers. -/
def nb (s : ByteArray) : List Nat := s.data.toList.map UInt8.toNat
theorem nb_len (s : ByteArray) : (nb s).length = s.size := by simp [nb]
theorem nb_inj {s t : ByteArray} (h : nb s = nb t) : s = t := by
  have : s.data.toList = t.data.toList := List.map_inj_right (fun a b hab => UInt8.toNat_inj.1 hab) |>.1 h
  exact ByteArray.ext (Array.toList_inj.1 this)
theorem beq_nb (s t : ByteArray) : (s.toList == t.toList) = decide (nb s = nb t) := by
  rw [toList_eq, toList_eq]
  by_cases h : nb s = nb t
  · have := nb_inj h
    subst this
    simp
  · rw [decide_eq_false h, beq_eq_false_iff_ne]
    intro he
    exact h (by unfold nb; rw [he])
theorem sidx_nb {s : ByteArray} {k : Nat} (h : k < s.size) : ∃ b : Nat, sidx s (k : Int) = some (b : Int) ∧ (nb s)[k]? = some b ∧ b < 256 := by
  unfold sidx
  rw [if_neg (by omega), Int.toNat_natCast, if_pos h]
  have hk : k < s.data.size := h
  refine ⟨(s.data[k]).toNat, ?_, ?_, UInt8.toNat_lt _⟩
  · unfold bt
    congr 2
    rw [Array.getD_eq_getD_getElem?, Array.getElem?_eq_getElem hk]
    rfl
  · simp [nb, hk, Array.getElem?_eq_getElem hk]
theorem nb_extract (s : ByteArray) (a b : Nat) : nb (s.extract a b) = ((nb s).drop a).take (b - a) := by
  have : (s.extract a b).data = s.data.extract a b := ByteArray.data_extract
  unfold nb
  rw [this, Array.toList_extract]
  simp [List.extract]
theorem nb_mkS {l : List Nat} (h : ∀ x ∈ l, x < 256) : nb (mkS (l.map fun x : Nat => (x : Int))) = l := by
  unfold nb mkS
  simp only [List.map_map]
  conv => rhs; rw [← List.map_id l]
  apply List.map_congr_left
  intro x hx
  have := h x hx
  simp
  omega
theorem nb_append (s t : ByteArray) : nb (s ++ t) = nb s ++ nb t := by
  unfold nb
  rw [ByteArray.data_append]
  simp
theorem mkS_size (l : List Int) : (mkS l).size = l.length := by
  show (mkS l).data.size = _
  simp [mkS]
/-- A number's bytes. -/
def lineB (s : ByteArray) : Bool := decide (s.size ≤ 60) && decide ((10 : Nat) ∉ nb s)
theorem lineS_eq {s : ByteArray} (h : s.size ≤ 1000000000) : spec_LineOk s = some (lineB s) := by
  unfold spec_LineOk lineB
  have hl := nb_len s
  have := loopM_all (body := fun s' => spec_LineOk_l1 s s') (good := .inr ()) (bad := .inl false) (fun k => (k : Int)) s.size (fun k => decide ((nb s)[k]? ≠ some 10)) (fun k hk _ hp => by
    obtain ⟨b, g1, g2, _⟩ := sidx_nb hk
    unfold spec_LineOk_l1
    rw [ifT (by simpa using hk), g1, Option.bind_some]
    rw [g2] at hp
    have hb : ¬ b = 10 := by simpa using hp
    rw [ifF (by simp; omega), wkS k (by omega)]) (fun k hk _ hp => by
    obtain ⟨b, g1, g2, _⟩ := sidx_nb hk
    unfold spec_LineOk_l1
    rw [ifT (by simpa using hk), g1, Option.bind_some]
    rw [g2] at hp
    have hb : b = 10 := by simpa using hp
    rw [ifT (by simp; omega)]) (fun _ => by
    unfold spec_LineOk_l1
    rw [ifF (by simp)])
  have e0 : ((0 : Nat) : Int) = 0 := rfl
  rw [e0] at this
  rw [this]
  have hiff : ((List.range s.size).all fun k => decide ((nb s)[k]? ≠ some 10)) = decide ((10 : Nat) ∉ nb s) := by
    rw [Bool.eq_iff_iff, List.all_eq_true, decide_eq_true_eq]
    constructor
    · intro hh hm
      obtain ⟨k, hk, hk2⟩ := List.getElem_of_mem hm
      have := hh k (List.mem_range.2 (by omega))
      rw [List.getElem?_eq_getElem hk, hk2] at this
      simp at this
    · intro hh k hk
      simp only [decide_eq_true_eq]
      intro hq
      exact hh (List.mem_of_getElem? hq)
  rw [hiff]
  unfold spec_LineOk_j1
  cases decide ((10 : Nat) ∉ nb s) with
  | true =>
    simp
    omega
  | false => simp
theorem contains_one (l : List UInt8) (c : UInt8) : Go.Lib.contains l [c] = decide (c.toNat ∈ l.map UInt8.toNat) := by
  unfold Go.Lib.contains
  induction l with
  | nil => rfl
  | cons b l ih =>
    have hp : [c].isPrefixOf (b :: l) = (c == b) := by simp [List.isPrefixOf]
    unfold Go.Lib.index
    rw [hp, List.map_cons]
    by_cases h : c = b
    · subst h
      simp
    · have h' : (c == b) = false := by simpa using h
      have hn : c.toNat ≠ b.toNat := fun q => h (UInt8.toNat_inj.1 q)
      rw [h', if_neg (by simp)]
      have hm : decide (c.toNat ∈ b.toNat :: l.map UInt8.toNat) = decide (c.toNat ∈ l.map UInt8.toNat) := by
        rw [decide_eq_decide, List.mem_cons]
        exact ⟨fun q => q.resolve_left hn, .inr⟩
      rw [hm, ← ih]
      have hge := Go.Lib.index_ge l [c]
      by_cases hr : Go.Lib.index l [c] = -1
      · rw [hr]; rfl
      · rw [if_neg (by simpa using hr)]
        rw [decide_eq_decide]
        omega
theorem lineI_eq {s : ByteArray} : impl_LineOk s = some (lineB s) := by
  unfold impl_LineOk lineB
  by_cases q : s.size ≤ 60
  · rw [ifT (by simp; omega)]
    have hc : strings_Contains s (ByteArray.mk #[10]) = some (decide ((10 : Nat) ∈ nb s)) := by
      unfold strings_Contains
      rw [if_pos (by omega)]
      exact congrArg some (contains_one s.data.toList 10)
    rw [hc]
    simp only [Option.bind_some]
    have : decide (s.size ≤ 60) = true := decide_eq_true q
    rw [this, Bool.true_and]
    congr 1
    by_cases h : (10 : Nat) ∈ nb s <;> simp [h]
  · rw [ifF (by simp; omega)]
    simp [q]
def linesB (l : List ByteArray) : Bool := decide (l.length ≤ 80) && l.all lineB
theorem all_range {α : Type} (l : List α) (p : α → Bool) : ((List.range l.length).all fun k => (l[k]?.map p).getD true) = l.all p := by
  rw [Bool.eq_iff_iff, List.all_eq_true, List.all_eq_true]
  constructor
  · intro h x hx
    obtain ⟨k, hk, rfl⟩ := List.getElem_of_mem hx
    have := h k (List.mem_range.2 hk)
    rw [List.getElem?_eq_getElem hk] at this
    exact this
  · intro h k hk
    rw [List.getElem?_eq_getElem (List.mem_range.1 hk)]
    exact h _ (List.getElem_mem _)
theorem linesI_eq {l : List ByteArray} : impl_LinesOk l = some (linesB l) := by
  unfold impl_LinesOk linesB
  by_cases q : l.length ≤ 80
  · rw [ifT (by simp; omega), decide_eq_true q, Bool.true_and]
    unfold impl_areLines
    have := loopM_all (body := fun s' => impl_areLines_l1 l s') (good := .inr ()) (bad := .inl false) (fun k => (k : Int)) l.length (fun k => (l[k]?.map lineB).getD true) (fun k hk _ hp => by
      unfold impl_areLines_l1
      rw [List.getElem?_eq_getElem hk] at hp
      rw [ifT (by simpa using hk), geti_nat, List.getElem?_eq_getElem hk, Option.bind_some, lineI_eq, Option.bind_some, ifF (by simpa using hp), wkS k (by omega)]) (fun k hk _ hp => by
      unfold impl_areLines_l1
      rw [List.getElem?_eq_getElem hk] at hp
      rw [ifT (by simpa using hk), geti_nat, List.getElem?_eq_getElem hk, Option.bind_some, lineI_eq, Option.bind_some, ifT (by simpa using hp)]) (fun _ => by
      unfold impl_areLines_l1
      rw [ifF (by simp)])
    have e0 : ((0 : Nat) : Int) = 0 := rfl
    rw [e0] at this
    rw [this, all_range]
    cases l.all lineB <;> rfl
  · rw [ifF (by simp; omega), decide_eq_false q]
    rfl
theorem linesS_eq {l : List ByteArray} (hx : ∀ x ∈ l, x.size ≤ 1000000000) : spec_LinesOk l = some (linesB l) := by
  unfold spec_LinesOk spec_l03All linesB
  by_cases q : l.length ≤ 80
  · rw [ifF (by simp; omega), decide_eq_true q, Bool.true_and]
    have := loopM_all (body := fun s' => spec_l03All_l1 l s') (good := .inr ()) (bad := .inl false) (fun k => (k : Int)) l.length (fun k => (l[k]?.map lineB).getD true) (fun k hk _ hp => by
      unfold spec_l03All_l1
      rw [List.getElem?_eq_getElem hk] at hp
      rw [ifT (by simpa using hk), geti_nat, List.getElem?_eq_getElem hk, Option.bind_some, lineS_eq (hx _ (List.getElem_mem hk)), Option.bind_some, ifF (by simpa using hp), wkS k (by omega)]) (fun k hk _ hp => by
      unfold spec_l03All_l1
      rw [List.getElem?_eq_getElem hk] at hp
      rw [ifT (by simpa using hk), geti_nat, List.getElem?_eq_getElem hk, Option.bind_some, lineS_eq (hx _ (List.getElem_mem hk)), Option.bind_some, ifT (by simpa using hp)]) (fun _ => by
      unfold spec_l03All_l1
      rw [ifF (by simp)])
    have e0 : ((0 : Nat) : Int) = 0 := rfl
    rw [e0] at this
    rw [this, all_range]
    cases l.all lineB <;> rfl
  · rw [ifT (by simp; omega), decide_eq_false q]
    rfl
end Go.TV.F
/- Plain Lean: numbers of seven bits a byte. -/
namespace Go.TV.F
open Go.TV
/-- The bytes of a number, seven bits a byte. -/
def encL (n : Nat) : List Nat := if h : n ≤ 127 then [n] else (n % 128 + 128) :: encL (n / 128)
termination_by n
decreasing_by omega
def valL : List Nat → Nat
  | [] => 0
  | c :: l => c % 128 + 128 * valL l
theorem encL_lo {n : Nat} (h : n ≤ 127) : encL n = [n] := by rw [encL, dif_pos h]
theorem encL_hi {n : Nat} (h : ¬ n ≤ 127) : encL n = (n % 128 + 128) :: encL (n / 128) := by rw [encL, dif_neg h]
theorem valL_enc : ∀ n : Nat, valL (encL n) = n := by
  intro n
  induction n using Nat.strongRecOn with
  | _ n ih =>
    by_cases h : n ≤ 127
    · rw [encL_lo h]
      simp only [valL]
      omega
    · rw [encL_hi h, valL, ih (n / 128) (by omega)]
      omega
theorem valL_snoc (l : List Nat) (c : Nat) : valL (l ++ [c]) = valL l + c % 128 * 128 ^ l.length := by
  induction l with
  | nil => simp [valL]
  | cons x l ih =>
    rw [List.cons_append, valL, ih, valL, List.length_cons, Nat.pow_succ, Nat.mul_add]
    have : 128 * (c % 128 * 128 ^ l.length) = c % 128 * (128 ^ l.length * 128) := by
      rw [Nat.mul_comm, Nat.mul_assoc]
    omega
theorem valL_lt (l : List Nat) : valL l < 128 ^ l.length := by
  induction l with
  | nil => simp [valL]
  | cons x l ih =>
    rw [valL, List.length_cons, Nat.pow_succ]
    omega
theorem valL_pos {l : List Nat} {c : Nat} (h0 : c ≠ 0) (h1 : c < 128) : 0 < valL (l ++ [c]) := by
  rw [valL_snoc, Nat.mod_eq_of_lt h1]
  have := Nat.pow_pos (n := l.length) (show 0 < 128 by decide)
  have := Nat.mul_pos (Nat.pos_of_ne_zero h0) this
  omega
theorem enc_val_good : ∀ (l : List Nat) {c : Nat}, c ≠ 0 → c < 128 → (∀ x ∈ l, 128 ≤ x ∧ x < 256) → encL (valL (l ++ [c])) = l ++ [c]
  | [], c, _, h1, _ => by
    have e : valL ([] ++ [c]) = c := by simp only [List.nil_append, valL]; omega
    rw [e, encL_lo (by omega)]
    rfl
  | x :: l, c, h0, h1, hl => by
    have hx := hl x (by simp)
    have hp := valL_pos (l := l) h0 h1
    have ih := enc_val_good l h0 h1 (fun y hy => hl y (by simp [hy]))
    rw [List.cons_append, valL, encL_hi (by omega)]
    have e1 : (x % 128 + 128 * valL (l ++ [c])) % 128 + 128 = x := by omega
    have e2 : (x % 128 + 128 * valL (l ++ [c])) / 128 = valL (l ++ [c]) := by omega
    rw [e1, e2, ih]
theorem enc_last0 : ∀ (n : Nat) (l : List Nat), encL n = l ++ [0] → l = [] := by
  intro n
  induction n using Nat.strongRecOn with
  | _ n ih =>
    intro l h
    by_cases q : n ≤ 127
    · rw [encL_lo q] at h
      cases l with
      | nil => rfl
      | cons x l =>
        have := congrArg List.length h
        simp at this
    · rw [encL_hi q] at h
      cases l with
      | nil => rfl
      | cons x l =>
        rw [List.cons_append] at h
        injection h with h1 h2
        have e := ih (n / 128) (by omega) l h2
        subst e
        have := congrArg valL h2
        rw [valL_enc] at this
        simp only [List.nil_append, valL] at this
        omega
/-- Bytes are those of their number just when they are as few as can be. -/
theorem enc_val {l : List Nat} {c : Nat} (h1 : c < 128) (hl : ∀ x ∈ l, 128 ≤ x ∧ x < 256) : encL (valL (l ++ [c])) = l ++ [c] ↔ ¬ (c = 0 ∧ l ≠ []) := by
  constructor
  · rintro h ⟨rfl, hn⟩
    exact hn (enc_last0 _ _ h)
  · intro h
    by_cases h0 : c = 0
    · have : l = [] := by
        by_cases q : l = []
        · exact q
        · exact absurd ⟨h0, q⟩ h
      subst this
      subst h0
      rw [show valL ([] ++ [0]) = 0 from rfl, encL_lo (by omega)]
      rfl
    · exact enc_val_good l h0 h1 hl
theorem encL_byte : ∀ (n : Nat) (x : Nat), x ∈ encL n → x < 256 := by
  intro n
  induction n using Nat.strongRecOn with
  | _ n ih =>
    intro x hx
    by_cases q : n ≤ 127
    · rw [encL_lo q] at hx
      simp at hx
      omega
    · rw [encL_hi q] at hx
      rcases List.mem_cons.1 hx with rfl | h
      · omega
      · exact ih (n / 128) (by omega) x h
end Go.TV.F
/- Plain Lean: numbers and texts read. -/
namespace Go.TV.F
open Go.TV
def encS (n : Nat) : ByteArray := mkS ((encL n).map fun x : Nat => (x : Int))
theorem nb_encS (n : Nat) : nb (encS n) = encL n := nb_mkS (encL_byte n)
theorem var_loop : ∀ (n : Nat) (out : List Int), out.length + n ≤ 68719476736 → ∃ (c : Int) (o : List Int), loopM (fun (s' : Int × (List Int)) => spec_l01Var_l1 s'.1 s'.2) ((n : Int), out) = some (c, o) ∧ 0 ≤ c ∧ c ≤ 127 ∧ o ++ [c] = out ++ (encL n).map (fun x : Nat => (x : Int)) ∧ o.length ≤ 68719476736 := by
  intro n
  induction n using Nat.strongRecOn with
  | _ n ih =>
    intro out h
    rw [loopM_eq]
    simp only [spec_l01Var_l1]
    by_cases q : n ≤ 127
    · rw [ifF (by simp; omega)]
      refine ⟨_, _, rfl, by omega, by omega, ?_, by omega⟩
      rw [encL_lo q]
      rfl
    · rw [ifT (by simp; omega), show (128 : Int) = ((128 : Nat) : Int) from rfl, tmod_nat, tdiv_nat, wk64 (x := ((n % 128 : Nat) : Int) + ((128 : Nat) : Int)) (by omega) (by omega), wku8 (by omega) (by omega), appn_in (by simp; omega)]
      simp only [Option.bind_some, List.append_eq]
      rw [wk64 (x := ((n / 128 : Nat) : Int)) (by omega) (by omega)]
      obtain ⟨c, o, h1, h2, h3, h4, h5⟩ := ih (n / 128) (by omega) (out ++ [((n % 128 : Nat) : Int) + ((128 : Nat) : Int)]) (by simp; omega)
      refine ⟨c, o, h1, h2, h3, ?_, h5⟩
      rw [h4, encL_hi q]
      simp
theorem l01Var_eq {n : Nat} (h : n ≤ 34359738368) : spec_l01Var (n : Int) = some (encS n) := by
  unfold spec_l01Var
  obtain ⟨c, o, h1, h2, h3, h4, h5⟩ := var_loop n [] (by simp; omega)
  rw [h1]
  simp only [Option.bind_some]
  unfold spec_l01Var_j1
  rw [wku8 h2 (by omega), appn_in (by simp; omega), Option.bind_some, h4]
  rfl
end Go.TV.F
/- Plain Lean: numbers read. -/
namespace Go.TV.F
open Go.TV
/-- A number, read. -/
theorem readVar_eq {text : ByteArray} (ht : text.size ≤ 1000000000) {a : Nat} (ha : a ≤ text.size) : ∃ (n next : Nat) (ok : Bool), impl_ReadVar text (a : Int) = some ((n : Int), (next : Int), ok) ∧ spec_ReadVar text (a : Int) = some ((n : Int), (next : Int), ok) ∧
    n ≤ 1000000000 ∧ (ok = true → a < next ∧ next ≤ text.size ∧ ((nb text).drop a).take (next - a) = encL n) := by
  unfold impl_ReadVar spec_ReadVar
  rw [ifF (by simp)]
  simp only [Option.bind_some]
  rw [ifF (by simp; omega)]
  have hin : spec_l01In (a : Int) 0 (text.size : Int) = some true := by
    unfold spec_l01In
    rw [ifT (by simp)]
    simp
    omega
  rw [hin, Option.bind_some, ifF (by simp)]
  have hnl := nb_len text
  obtain ⟨r, r', h1, h2, h3⟩ := loopM_total2 (f := fun (s' : Int × Int × Int) => impl_ReadVar_l1 text (a : Int) s'.1 s'.2.1 s'.2.2) (g := fun (s' : Int × Int × Int) => spec_ReadVar_l1 text (a : Int) s'.1 s'.2.1 s'.2.2)
    (fun s t => ∃ k : Nat, k ≤ 5 ∧ a + k ≤ text.size ∧ s = (((valL (((nb text).drop a).take k) : Nat) : Int), ((128 ^ k : Nat) : Int), (k : Int)) ∧ t = (((valL (((nb text).drop a).take k) : Nat) : Int), ((128 ^ k : Nat) : Int), ((a + k : Nat) : Int)) ∧ ∀ x ∈ ((nb text).drop a).take k, 128 ≤ x ∧ x < 256)
    (fun s => (5 - s.2.2).toNat) (fun r r' => r = r' ∧ (r = .inr () ∨ r = .inl (0, 0, false) ∨ ∃ n next : Nat, r = .inl ((n : Int), (next : Int), true) ∧ n ≤ 1000000000 ∧ a < next ∧ next ≤ text.size ∧ ((nb text).drop a).take (next - a) = encL n))
    (s := (0, 1, 0)) (t := (0, 1, (a : Int))) ⟨0, by omega, by omega, by simp [valL], by simp [valL], by simp⟩ (fun s t hs => by
    obtain ⟨k, hk5, hks, rfl, rfl, hall⟩ := hs
    simp only
    unfold impl_ReadVar_l1 spec_ReadVar_l1
    have e1 : wk .i64 ((a : Int) + (k : Int)) = ((a + k : Nat) : Int) := by rw [wk64 (by omega) (by omega)]; omega
    have e2 : wk .i64 ((a : Int) + 5) = ((a + 5 : Nat) : Int) := by rw [wk64 (by omega) (by omega)]; omega
    rw [e1, e2]
    have c1 : (if decide ((k : Int) < 5) = true then some (decide (((a + k : Nat) : Int) < (text.size : Int))) else some false) = some (decide (k < 5 ∧ a + k < text.size)) := by
      by_cases q : k < 5
      · rw [ifT (by simp; omega)]
        congr 1
        simp [q]
        omega
      · rw [ifF (by simp; omega)]
        simp [q]
    have c2 : (if decide (((a + k : Nat) : Int) < (text.size : Int)) = true then some (decide (((a + k : Nat) : Int) < ((a + 5 : Nat) : Int))) else some false) = some (decide (k < 5 ∧ a + k < text.size)) := by
      by_cases q : a + k < text.size
      · rw [ifT (by simp; omega)]
        congr 1
        simp [q]
        omega
      · rw [ifF (by simp; omega)]
        simp [q]
    rw [c1, c2]
    simp only [Option.bind_some]
    by_cases q : k < 5 ∧ a + k < text.size
    · obtain ⟨q1, q2⟩ := q
      rw [ifT (by simp [q1, q2]), ifT (by simp [q1, q2])]
      obtain ⟨b, g1, g2, g3⟩ := sidx_nb q2
      rw [g1]
      simp only [Option.bind_some]
      have hb : wk .i64 (b : Int) = (b : Int) := wk64 (by omega) (by omega)
      rw [hb]
      have hpw : 128 ^ k ≤ 128 ^ 4 := Nat.pow_le_pow_right (by omega) (by omega)
      have hpw' : 128 ^ k ≤ 268435456 := by simpa using hpw
      have hlen : (((nb text).drop a).take k).length = k := by simp; omega
      have hval := valL_lt (((nb text).drop a).take k)
      rw [hlen] at hval
      have hmul : b % 128 * 128 ^ k ≤ 127 * 268435456 := Nat.mul_le_mul (by omega) hpw'
      obtain ⟨M, hM⟩ : ∃ M, M = b % 128 * 128 ^ k := ⟨_, rfl⟩
      rw [← hM] at hmul
      have e3 : wk .i64 (((b : Int)).tmod 128 * ((128 ^ k : Nat) : Int)) = (M : Int) := by
        rw [show (128 : Int) = ((128 : Nat) : Int) from rfl, tmod_nat, ← Int.natCast_mul, ← hM, wk64 (by omega) (by omega)]
      have htk : ((nb text).drop a).take (k + 1) = ((nb text).drop a).take k ++ [b] := by
        rw [List.take_add_one, List.getElem?_drop, g2]
        rfl
      have hv1 : valL (((nb text).drop a).take (k + 1)) = valL (((nb text).drop a).take k) + M := by
        rw [htk, valL_snoc, hlen, ← hM]
      have e4 : wk .i64 (((valL (((nb text).drop a).take k) : Nat) : Int) + (M : Int)) = ((valL (((nb text).drop a).take (k + 1)) : Nat) : Int) := by
        rw [hv1, wk64 (by omega) (by omega)]
        omega
      have e5 : wk .i64 (((128 ^ k : Nat) : Int) * 128) = ((128 ^ (k + 1) : Nat) : Int) := by
        rw [wk64 (by omega) (by omega), Nat.pow_succ]
        omega
      have e6 : wk .i64 ((k : Int) + 1) = ((k + 1 : Nat) : Int) := by rw [wk64 (by omega) (by omega)]; omega
      have e7 : wk .i64 (((a + k : Nat) : Int) + 1) = ((a + (k + 1) : Nat) : Int) := by rw [wk64 (by omega) (by omega)]; omega
      simp only [e3, e4, e5, e6, e7]
      obtain ⟨v, hv⟩ : ∃ v, v = valL (((nb text).drop a).take (k + 1)) := ⟨_, rfl⟩
      rw [← hv] at hv1 ⊢
      have hvb : v ≤ 34359738368 := by omega
      by_cases qb : b < 128
      · have d0 : decide ((b : Int) ≥ 128) = false := decide_eq_false (by omega)
        have d0' : decide ((b : Int) < 128) = true := decide_eq_true (by omega)
        simp only [d0, d0', Bool.false_eq_true, if_false, if_true]
        have hcan := enc_val (l := ((nb text).drop a).take k) qb hall
        rw [← htk, ← hv] at hcan
        have hsub : sub2 text (a : Int) ((a + (k + 1) : Nat) : Int) = some (text.extract a (a + (k + 1))) := by
          rw [sub2_in (by omega) (by omega) (by omega)]
          rfl
        have hne : (((nb text).drop a).take k ≠ []) ↔ k > 0 := by
          rw [← List.length_pos_iff, hlen]
        have d2 : (if ((b : Int) == 0) = true then some (decide ((k : Int) > 0)) else some false) = some (decide (b = 0 ∧ k > 0)) := by
          by_cases qz : b = 0
          · rw [ifT (by simp [qz]), show decide (b = 0 ∧ k > 0) = decide ((k : Int) > 0) from by simp [qz]]
          · rw [ifF (by simpa using qz)]
            simp [qz]
        rw [d2]
        simp only [Option.bind_some]
        by_cases qn : v > 1000000000
        · have d1 : decide ((v : Int) > 1000000000) = true := decide_eq_true (by omega)
          refine .inr ⟨.inl (0, 0, false), .inl (0, 0, false), ?_, ?_, rfl, .inr (.inl rfl)⟩
          · by_cases q0 : b = 0 ∧ k > 0
            · simp only [decide_eq_true q0, d1, if_true, Option.bind_some]
            · simp only [decide_eq_false q0, d1, if_true, if_false, Bool.false_eq_true, Option.bind_some]
          · simp only [d1, if_true, Option.bind_some]
        · have d1 : decide ((v : Int) > 1000000000) = false := decide_eq_false (by omega)
          simp only [d1, Bool.false_eq_true, if_false]
          rw [l01Var_eq hvb]
          simp only [Option.bind_some]
          rw [hsub]
          simp only [Option.bind_some]
          rw [beq_nb, nb_encS, nb_extract, show a + (k + 1) - a = k + 1 by omega]
          by_cases q0 : b = 0 ∧ k > 0
          · have hc : ¬ encL v = ((nb text).drop a).take (k + 1) := fun h => (hcan.1 h) ⟨q0.1, hne.2 q0.2⟩
            simp only [decide_eq_true q0, decide_eq_false hc, if_true, Option.bind_some, Bool.not_false]
            exact .inr ⟨_, _, rfl, rfl, rfl, .inr (.inl rfl)⟩
          · have hc := hcan.2 (fun h => q0 ⟨h.1, hne.1 h.2⟩)
            simp only [decide_eq_false q0, decide_eq_true hc, Bool.false_eq_true, if_false, Option.bind_some, Bool.not_true]
            refine .inr ⟨_, _, rfl, rfl, rfl, .inr (.inr ⟨_, _, rfl, by omega, by omega, by omega, ?_⟩)⟩
            rw [show a + (k + 1) - a = k + 1 by omega]
            exact hc.symm
      · have d0 : decide ((b : Int) ≥ 128) = true := decide_eq_true (by omega)
        have d0' : decide ((b : Int) < 128) = false := decide_eq_false (by omega)
        simp only [d0, d0', Bool.false_eq_true, if_false, if_true]
        refine .inl ⟨_, _, rfl, rfl, ⟨k + 1, by omega, by omega, by rw [← hv], by rw [← hv], ?_⟩, ?_⟩
        · intro x hx
          rw [htk] at hx
          rcases List.mem_append.1 hx with hx | hx
          · exact hall x hx
          · simp at hx
            omega
        · simp only
          omega
    · rw [ifF (by simpa using q), ifF (by simpa using q)]
      exact .inr ⟨_, _, rfl, rfl, rfl, .inl rfl⟩)
  obtain ⟨rfl, h4⟩ := h3
  rw [h1, h2]
  rcases h4 with rfl | rfl | ⟨n, next, rfl, g1, g2, g3, g4⟩
  · exact ⟨0, 0, false, rfl, rfl, by omega, fun h => by cases h⟩
  · exact ⟨0, 0, false, rfl, rfl, by omega, fun h => by cases h⟩
  · exact ⟨n, next, true, rfl, rfl, g1, fun _ => ⟨g2, g3, g4⟩⟩
end Go.TV.F
/- Plain Lean: the program's scanner and the reference's, side by side. -/
namespace Go.TV.F
open Go.TV
/-- The bytes from a to b. -/
def seg (text : ByteArray) (a b : Nat) : List Nat := ((nb text).drop a).take (b - a)
theorem seg_self (text : ByteArray) (a : Nat) : seg text a a = [] := by simp [seg]
theorem seg_app {text : ByteArray} {a b c : Nat} (h1 : a ≤ b) (h2 : b ≤ c) : seg text a b ++ seg text b c = seg text a c := by
  unfold seg
  rw [show c - a = (b - a) + (c - b) by omega, List.take_add, List.drop_drop]
  congr 3
  omega
theorem seg_extract (text : ByteArray) (a b : Nat) : nb (text.extract a b) = seg text a b := nb_extract text a b
/-- Both at one place. -/
structure Sim (text : ByteArray) (s : T_impl_scanner) (c : T_spec_l08Cur) : Prop where
  st : s.text = text
  ct : c.text = text
  bad : s.bad = c.bad
  at_ : ∃ a b : Nat, s.at_ = a ∧ c.at_ = b ∧ a ≤ text.size ∧ b ≤ text.size ∧ (s.bad = false → a = b)
/-- What was read. -/
def Rd (text : ByteArray) (s s' : T_impl_scanner) (l : List Nat) : Prop := ∃ a b : Nat, s.at_ = a ∧ s'.at_ = b ∧ a ≤ b ∧ b ≤ text.size ∧ seg text a b = l
theorem Rd.trans {text : ByteArray} {s1 s2 s3 : T_impl_scanner} {l m : List Nat} (h : Rd text s1 s2 l) (k : Rd text s2 s3 m) : Rd text s1 s3 (l ++ m) := by
  obtain ⟨a, b, h1, h2, h3, h4, h5⟩ := h
  obtain ⟨b', c, k1, k2, k3, k4, k5⟩ := k
  have : b = b' := by omega
  subst this
  exact ⟨a, c, h1, k2, by omega, k4, by rw [← seg_app h3 k3, h5, k5]⟩
theorem Rd.refl {text : ByteArray} {s : T_impl_scanner} {a : Nat} (h : s.at_ = a) (h2 : a ≤ text.size) : Rd text s s [] := ⟨a, a, h, h, Nat.le_refl _, h2, seg_self text a⟩
section
variable {text : ByteArray} (ht : text.size ≤ 60000)
theorem num_sim (ht : text.size ≤ 60000) {s : T_impl_scanner} {c : T_spec_l08Cur} (h : Sim text s c) : ∃ (n : Nat) (s' : T_impl_scanner) (m : Nat), impl_scanner_number s = some ((n : Int), s') ∧ n ≤ 1000000000 ∧ (s'.bad = true → n = 0) ∧
    (∀ most : Nat, most ≤ 1000000000 → ∃ c', spec_l08Var c (most : Int) = some (((if n ≤ most then n else 0 : Nat) : Int), c') ∧ (n ≤ most → Sim text s' c') ∧ (¬ n ≤ most → c'.bad = true ∧ c'.text = text ∧ ∃ b : Nat, c'.at_ = b ∧ b ≤ text.size)) ∧
    (∃ a : Nat, s'.at_ = a ∧ a ≤ text.size) ∧ s'.text = text ∧ (s'.bad = false → s.bad = false ∧ Rd text s s' (encL n)) := by
  obtain ⟨st, sa, sb⟩ := s
  obtain ⟨ct, ca, cb⟩ := c
  obtain ⟨h1, h2, h3, a, b, h4, h5, h6, h7, h8⟩ := h
  simp only at h1 h2 h3 h4 h5 h8
  subst h3 h4 h5
  obtain rfl : ct = st := h2.trans h1.symm
  subst h1
  obtain ⟨n, next, ok, g1, g2, g3, g4⟩ := readVar_eq (text := ct) (by omega) h6
  cases sb with
  | true =>
    refine ⟨0, ⟨ct, a, true⟩, 0, ?_, by omega, fun _ => rfl, ?_, ⟨a, rfl, h6⟩, rfl, fun h => by cases h⟩
    · unfold impl_scanner_number
      simp only [g1, Option.bind_some, if_true]
      rfl
    · intro most hm
      obtain ⟨n', next', ok', g1', g2', g3', g4'⟩ := readVar_eq (text := ct) (by omega) h7
      refine ⟨⟨ct, b, true⟩, ?_, fun _ => ⟨rfl, rfl, rfl, a, b, rfl, rfl, h6, h7, fun h => by cases h⟩, fun h => by omega⟩
      unfold spec_l08Var
      simp only [g2', Option.bind_some, if_true]
      simp
  | false =>
    have hab := h8 rfl
    subst hab
    cases ok with
    | false =>
      refine ⟨0, ⟨ct, a, true⟩, 0, ?_, by omega, fun _ => rfl, ?_, ⟨a, rfl, h6⟩, rfl, fun h => by cases h⟩
      · unfold impl_scanner_number
        simp only [g1, Option.bind_some, Bool.false_eq_true, if_false, Bool.not_false, if_true]
        rfl
      · intro most hm
        refine ⟨⟨ct, a, true⟩, ?_, fun _ => ⟨rfl, rfl, rfl, a, a, rfl, rfl, h6, h6, fun h => by cases h⟩, fun h => by omega⟩
        unfold spec_l08Var
        simp only [g2, Option.bind_some, Bool.false_eq_true, if_false, Bool.not_false, if_true]
        simp
    | true =>
      obtain ⟨g5, g6, g7⟩ := g4 rfl
      refine ⟨n, ⟨ct, next, false⟩, 0, ?_, g3, (fun h => by cases h), ?_, ⟨next, rfl, g6⟩, rfl, fun _ => ⟨rfl, a, next, rfl, rfl, by omega, g6, g7⟩⟩
      · unfold impl_scanner_number
        simp only [g1, Option.bind_some, Bool.false_eq_true, if_false, Bool.not_true]
      · intro most hm
        unfold spec_l08Var
        simp only [g2, Option.bind_some, Bool.false_eq_true, if_false, Bool.not_true]
        by_cases q : n ≤ most
        · have d : decide ((n : Int) > (most : Int)) = false := decide_eq_false (by omega)
          simp only [d, Bool.false_eq_true, if_false, if_pos q]
          exact ⟨_, rfl, fun _ => ⟨rfl, rfl, rfl, next, next, rfl, rfl, g6, g6, fun _ => rfl⟩, fun h => absurd q h⟩
        · have d : decide ((n : Int) > (most : Int)) = true := decide_eq_true (by omega)
          simp only [d, if_true, if_neg q]
          exact ⟨_, rfl, fun h => absurd h q, fun _ => ⟨rfl, rfl, a, rfl, h6⟩⟩
/-- A number. -/
theorem number_sim (ht : text.size ≤ 60000) {s : T_impl_scanner} {c : T_spec_l08Cur} (h : Sim text s c) : ∃ (n : Nat) (s' : T_impl_scanner) (c' : T_spec_l08Cur), impl_scanner_number s = some ((n : Int), s') ∧ spec_l08Var c 1000000000 = some ((n : Int), c') ∧ Sim text s' c' ∧ n ≤ 1000000000 ∧
    (s'.bad = false → s.bad = false ∧ Rd text s s' (encL n)) := by
  obtain ⟨n, s', _, h1, h2, h3, h4, h5, h6, h7⟩ := num_sim ht h
  obtain ⟨c', g1, g2, g3⟩ := h4 1000000000 (by omega)
  rw [if_pos h2] at g1
  exact ⟨n, s', c', h1, g1, g2 h2, h2, h7⟩
/-- How many there are. -/
theorem count_sim (ht : text.size ≤ 60000) {s : T_impl_scanner} {c : T_spec_l08Cur} (h : Sim text s c) {most : Nat} (hm : most ≤ 1000000000) : ∃ (n : Nat) (s' : T_impl_scanner) (c' : T_spec_l08Cur), impl_scanner_count s (most : Int) = some ((n : Int), s') ∧ spec_l08Var c (most : Int) = some ((n : Int), c') ∧ Sim text s' c' ∧ n ≤ most ∧
    (s'.bad = false → s.bad = false ∧ Rd text s s' (encL n)) := by
  obtain ⟨n, s', _, h1, h2, h3, h4, ⟨a, h5, h5'⟩, h6, h7⟩ := num_sim ht h
  obtain ⟨c', g1, g2, g3⟩ := h4 most hm
  unfold impl_scanner_count
  rw [show T_impl_scanner.mk s.text s.at_ s.bad = s from rfl, h1]
  simp only [Option.bind_some]
  by_cases q : n ≤ most
  · have d : decide ((n : Int) > (most : Int)) = false := decide_eq_false (by omega)
    rw [if_pos q] at g1
    simp only [d, Bool.false_eq_true, if_false]
    exact ⟨n, s', c', rfl, g1, g2 q, q, h7⟩
  · have d : decide ((n : Int) > (most : Int)) = true := decide_eq_true (by omega)
    rw [if_neg q] at g1
    obtain ⟨k1, k2, b, k3, k4⟩ := g3 q
    simp only [d, if_true]
    exact ⟨0, _, c', rfl, g1, ⟨h6, k2, k1.symm, a, b, h5, k3, h5', k4, fun h => by cases h⟩, by omega, fun h => by cases h⟩
/-- Some bytes. -/
theorem take_sim (ht : text.size ≤ 60000) {s : T_impl_scanner} {c : T_spec_l08Cur} (h : Sim text s c) {n : Nat} (hn : n ≤ 1000000000) : ∃ (t : ByteArray) (s' : T_impl_scanner) (c' : T_spec_l08Cur), impl_scanner_take s (n : Int) = some (t, s') ∧ spec_l08Take c (n : Int) = some (t, c') ∧ Sim text s' c' ∧
    (s'.bad = false → s.bad = false ∧ t.size = n ∧ Rd text s s' (nb t)) ∧ (s.bad = true → t = ByteArray.mk #[]) ∧ (∀ a : Nat, s.at_ = a → n + a ≤ text.size → s.bad = false → s'.bad = false ∧ s'.at_ = ((a + n : Nat) : Int) ∧ t = text.extract a (a + n)) ∧ (∀ a : Nat, s.at_ = a → ¬ n + a ≤ text.size → t = ByteArray.mk #[] ∧ s'.bad = true) := by
  obtain ⟨st, sa, sb⟩ := s
  obtain ⟨ct, ca, cb⟩ := c
  obtain ⟨h1, h2, h3, a, b, h4, h5, h6, h7, h8⟩ := h
  simp only at h1 h2 h3 h4 h5 h8
  subst h3 h4 h5
  obtain rfl : ct = st := h2.trans h1.symm
  subst h1
  have bi : impl_scanner_take ⟨ct, (a : Int), true⟩ (n : Int) = some (ByteArray.mk #[], ⟨ct, (a : Int), true⟩) := by
    unfold impl_scanner_take
    simp only [if_true, Option.bind_some]
  have bs : spec_l08Take ⟨ct, (b : Int), true⟩ (n : Int) = some (ByteArray.mk #[], ⟨ct, (b : Int), true⟩) := by
    unfold spec_l08Take
    simp only [if_true, Option.bind_some]
  cases sb with
  | true =>
    rw [bi, bs]
    exact ⟨_, _, _, rfl, rfl, ⟨rfl, rfl, rfl, a, b, rfl, rfl, h6, h7, fun h => by cases h⟩, (fun h => by cases h), (fun _ => rfl), (fun _ _ _ h => by cases h), fun _ _ _ => ⟨rfl, rfl⟩⟩
  | false =>
    have hab := h8 rfl
    subst hab
    have e1 : wk .i64 ((ct.size : Int) - (a : Int)) = ((ct.size - a : Nat) : Int) := by rw [wk64 (by omega) (by omega)]; omega
    by_cases q : n + a ≤ ct.size
    · have d : decide ((n : Int) > ((ct.size - a : Nat) : Int)) = false := decide_eq_false (by omega)
      have e2 : wk .i64 ((a : Int) + (n : Int)) = ((a + n : Nat) : Int) := by rw [wk64 (by omega) (by omega)]; omega
      have e3 : wk .i64 (((a + n : Nat) : Int) - (n : Int)) = (a : Int) := by rw [wk64 (by omega) (by omega)]; omega
      have hi : impl_scanner_take ⟨ct, (a : Int), false⟩ (n : Int) = some (ct.extract a (a + n), ⟨ct, ((a + n : Nat) : Int), false⟩) := by
        unfold impl_scanner_take
        simp only [e1, d, e2, e3, Bool.false_eq_true, if_false, Option.bind_some]
        rw [sub2_in (by omega) (by omega) (by omega)]
        rfl
      have hs : spec_l08Take ⟨ct, (a : Int), false⟩ (n : Int) = some (ct.extract a (a + n), ⟨ct, ((a + n : Nat) : Int), false⟩) := by
        unfold spec_l08Take
        simp only [e1, d, e2, e3, Bool.false_eq_true, if_false, Option.bind_some]
        rw [sub2_in (by omega) (by omega) (by omega)]
        rfl
      rw [hi, hs]
      refine ⟨_, _, _, rfl, rfl, ⟨rfl, rfl, rfl, a + n, a + n, rfl, rfl, by omega, by omega, fun _ => rfl⟩, fun _ => ⟨rfl, ?_, a, a + n, rfl, rfl, by omega, by omega, (seg_extract ct a (a + n)).symm⟩, (fun h => by cases h), ?_, ?_⟩
      · rw [ByteArray.size_extract]
        omega
      · intro a' ha' _ _
        have : a = a' := by simp only at ha'; omega
        subst this
        exact ⟨rfl, rfl, rfl⟩
      · intro a' ha' hq
        have : a = a' := by simp only at ha'; omega
        subst this
        exact absurd q hq
    · have d : decide ((n : Int) > ((ct.size - a : Nat) : Int)) = true := decide_eq_true (by omega)
      have hi : impl_scanner_take ⟨ct, (a : Int), false⟩ (n : Int) = some (ByteArray.mk #[], ⟨ct, (a : Int), true⟩) := by
        unfold impl_scanner_take
        simp only [e1, d, Bool.false_eq_true, if_false, if_true, Option.bind_some]
      have hs : spec_l08Take ⟨ct, (a : Int), false⟩ (n : Int) = some (ByteArray.mk #[], ⟨ct, (a : Int), true⟩) := by
        unfold spec_l08Take
        simp only [e1, d, Bool.false_eq_true, if_false, if_true, Option.bind_some]
      rw [hi, hs]
      refine ⟨_, _, _, rfl, rfl, ⟨rfl, rfl, rfl, a, a, rfl, rfl, h6, h6, fun h => by cases h⟩, (fun h => by cases h), (fun h => by cases h), ?_, fun _ _ _ => ⟨rfl, rfl⟩⟩
      intro a' ha' hq _
      have : a = a' := by simp only at ha'; omega
      subst this
      exact absurd hq q
/-- A text that its length stands ahead of. -/
theorem short_sim (ht : text.size ≤ 60000) {s : T_impl_scanner} {c : T_spec_l08Cur} (h : Sim text s c) : ∃ (t : ByteArray) (s' : T_impl_scanner) (c' : T_spec_l08Cur), impl_scanner_short s = some (t, s') ∧ spec_l08Short c = some (t, c') ∧ Sim text s' c' ∧ t.size ≤ 60000 ∧
    (s'.bad = false → s.bad = false ∧ Rd text s s' (encL t.size ++ nb t)) := by
  obtain ⟨st, sa, sb⟩ := s
  obtain ⟨ct, ca, cb⟩ := c
  obtain ⟨h1, h2, h3, a, b, h4, h5, h6, h7, h8⟩ := h
  simp only at h1 h2 h3 h4 h5 h8
  subst h3 h4 h5
  obtain rfl : ct = st := h2.trans h1.symm
  subst h1
  obtain ⟨n, next, ok, g1, g2, g3, g4⟩ := readVar_eq (text := ct) (by omega) h6
  have es : (ByteArray.mk #[]).size ≤ 60000 := by decide
  cases sb with
  | true =>
    obtain ⟨n', next', ok', g1', g2', g3', g4'⟩ := readVar_eq (text := ct) (by omega) h7
    refine ⟨ByteArray.mk #[], ⟨ct, a, true⟩, ⟨ct, b, true⟩, ?_, ?_, ⟨rfl, rfl, rfl, a, b, rfl, rfl, h6, h7, fun h => by cases h⟩, es, fun h => by cases h⟩
    · unfold impl_scanner_short impl_scanner_number
      simp only [g1, Option.bind_some, if_true]
      rw [ifF (by simp)]
      unfold impl_scanner_short_j1 impl_scanner_take
      simp only [if_true, Option.bind_some]
    · unfold spec_l08Short spec_ReadShort
      simp only [g2', Option.bind_some, if_true]
      cases ok' with
      | false => simp only [Bool.not_false, if_true, Option.bind_some]
      | true =>
        obtain ⟨g5, g6, g7⟩ := g4' rfl
        simp only [Bool.not_true, Bool.false_eq_true, if_false, Option.bind_some]
        have e1 : wk .i64 ((ct.size : Int) - (next' : Int)) = ((ct.size - next' : Nat) : Int) := by rw [wk64 (by omega) (by omega)]; omega
        have e2 : wk .i64 ((next' : Int) + (n' : Int)) = ((next' + n' : Nat) : Int) := by rw [wk64 (by omega) (by omega)]; omega
        rw [e1, e2]
        by_cases q : n' > 60000 ∨ n' + next' > ct.size
        · have d : (if decide ((n' : Int) > 60000) = true then some true else some (decide ((n' : Int) > ((ct.size - next' : Nat) : Int)))) = some true := by
            by_cases q1 : n' > 60000
            · rw [ifT (by simp; omega)]
            · rw [ifF (by simp; omega), decide_eq_true (by omega)]
          rw [d]
          simp only [Option.bind_some, if_true]
        · have d : (if decide ((n' : Int) > 60000) = true then some true else some (decide ((n' : Int) > ((ct.size - next' : Nat) : Int)))) = some false := by
            rw [ifF (by simp; omega), decide_eq_false (by omega)]
          rw [d]
          simp only [Option.bind_some, Bool.false_eq_true, if_false]
          rw [sub2_in (by omega) (by omega) (by omega)]
          simp only [Option.bind_some, if_true]
  | false =>
    have hab := h8 rfl
    subst hab
    cases ok with
    | false =>
      refine ⟨ByteArray.mk #[], ⟨ct, a, true⟩, ⟨ct, a, true⟩, ?_, ?_, ⟨rfl, rfl, rfl, a, a, rfl, rfl, h6, h7, fun h => by cases h⟩, es, fun h => by cases h⟩
      · unfold impl_scanner_short impl_scanner_number
        simp only [g1, Option.bind_some, Bool.false_eq_true, if_false, Bool.not_false, if_true]
        rw [ifF (by simp)]
        unfold impl_scanner_short_j1 impl_scanner_take
        simp only [if_true, Option.bind_some]
      · unfold spec_l08Short spec_ReadShort
        simp only [g2, Option.bind_some, if_true, Bool.not_false, Bool.false_eq_true, if_false]
    | true =>
      obtain ⟨g5, g6, g7⟩ := g4 rfl
      have e1 : wk .i64 ((ct.size : Int) - (next : Int)) = ((ct.size - next : Nat) : Int) := by rw [wk64 (by omega) (by omega)]; omega
      have e2 : wk .i64 ((next : Int) + (n : Int)) = ((next + n : Nat) : Int) := by rw [wk64 (by omega) (by omega)]; omega
      have e3 : wk .i64 (((next + n : Nat) : Int) - (n : Int)) = (next : Int) := by rw [wk64 (by omega) (by omega)]; omega
      have hi : impl_scanner_short ⟨ct, (a : Int), false⟩ = if n > 60000 ∨ n + next > ct.size then some (ByteArray.mk #[], ⟨ct, (next : Int), true⟩) else some (ct.extract next (next + n), ⟨ct, ((next + n : Nat) : Int), false⟩) := by
        unfold impl_scanner_short impl_scanner_number
        simp only [g1, Option.bind_some, Bool.false_eq_true, if_false, Bool.not_true]
        unfold impl_scanner_short_j1 impl_scanner_take
        by_cases q1 : n > 60000
        · rw [ifT (by simp; omega), if_pos (c := n > 60000 ∨ n + next > ct.size) (.inl q1)]
          simp only [if_true, Option.bind_some]
        · rw [ifF (by simp; omega)]
          simp only [Bool.false_eq_true, if_false, Option.bind_some, e1, e2, e3]
          by_cases q2 : n + next > ct.size
          · rw [decide_eq_true (by omega), if_pos (c := n > 60000 ∨ n + next > ct.size) (.inr q2)]
            simp only [if_true, Option.bind_some]
          · rw [decide_eq_false (by omega), if_neg (c := n > 60000 ∨ n + next > ct.size) (by omega)]
            simp only [Bool.false_eq_true, if_false]
            rw [sub2_in (by omega) (by omega) (by omega)]
            rfl
      have hs : spec_l08Short ⟨ct, (a : Int), false⟩ = if n > 60000 ∨ n + next > ct.size then some (ByteArray.mk #[], ⟨ct, (a : Int), true⟩) else some (ct.extract next (next + n), ⟨ct, ((next + n : Nat) : Int), false⟩) := by
        unfold spec_l08Short spec_ReadShort
        simp only [g2, Option.bind_some, Bool.false_eq_true, if_false, Bool.not_true, e1, e2]
        by_cases q1 : n > 60000 ∨ n + next > ct.size
        · have d : (if decide ((n : Int) > 60000) = true then some true else some (decide ((n : Int) > ((ct.size - next : Nat) : Int)))) = some true := by
            by_cases q1 : n > 60000
            · rw [ifT (by simp; omega)]
            · rw [ifF (by simp; omega), decide_eq_true (by omega)]
          rw [d, if_pos (c := n > 60000 ∨ n + next > ct.size) q1]
          simp only [Option.bind_some, if_true, Bool.not_false]
        · have d : (if decide ((n : Int) > 60000) = true then some true else some (decide ((n : Int) > ((ct.size - next : Nat) : Int)))) = some false := by
            rw [ifF (by simp; omega), decide_eq_false (by omega)]
          rw [d, if_neg (c := n > 60000 ∨ n + next > ct.size) q1]
          simp only [Option.bind_some, Bool.false_eq_true, if_false]
          rw [sub2_in (by omega) (by omega) (by omega)]
          simp only [Option.bind_some, Bool.not_true, Bool.false_eq_true, if_false]
          rfl
      rw [hi, hs]
      by_cases q : n > 60000 ∨ n + next > ct.size
      · rw [if_pos q, if_pos q]
        exact ⟨_, _, _, rfl, rfl, ⟨rfl, rfl, rfl, next, a, rfl, rfl, g6, h6, fun h => by cases h⟩, es, fun h => by cases h⟩
      · rw [if_neg q, if_neg q]
        have hsz : (ct.extract next (next + n)).size = n := by rw [ByteArray.size_extract]; omega
        refine ⟨_, _, _, rfl, rfl, ⟨rfl, rfl, rfl, next + n, next + n, rfl, rfl, by omega, by omega, fun _ => rfl⟩, by omega, fun _ => ⟨rfl, ?_⟩⟩
        rw [hsz, seg_extract]
        refine Rd.trans (s2 := ⟨ct, next, false⟩) ⟨a, next, rfl, rfl, by omega, g6, g7⟩ ⟨next, next + n, rfl, rfl, by omega, by omega, rfl⟩
end
end Go.TV.F
/- Plain Lean: lists of items read, side by side. -/
namespace Go.TV.F
open Go.TV
theorem items_sim {text : ByteArray} {α : Type} {I : T_impl_scanner → Option (α × T_impl_scanner)} {G : T_spec_l08Cur → Option (α × T_spec_l08Cur)} (enc : α → List Nat) (P P2 : α → Prop)
    (hit : ∀ s c, Sim text s c → ∃ x s' y c', I s = some (x, s') ∧ G c = some (y, c') ∧ Sim text s' c' ∧ P2 y ∧ (s'.bad = false → x = y ∧ P x ∧ s.bad = false ∧ Rd text s s' (enc x)))
    {n : Nat} {f : Int × ByteArray × Int × Bool × List α → Option ((Int × ByteArray × Int × Bool × List α) ⊕ (ByteArray × Int × Bool × List α))} {g : Int × ByteArray × Int × Bool × List α → Option ((Int × ByteArray × Int × Bool × List α) ⊕ (ByteArray × Int × Bool × List α))}
    (hf : ∀ (k : Nat) (t : ByteArray) (a : Int) (b : Bool) (out : List α), k < n → out.length = k → f ((k : Int), t, a, b, out) = (I ⟨t, a, b⟩).bind fun r => some (.inl (((k + 1 : Nat) : Int), r.2.text, r.2.at_, r.2.bad, out ++ [r.1])))
    (hf0 : ∀ (t : ByteArray) (a : Int) (b : Bool) (out : List α), f ((n : Int), t, a, b, out) = some (.inr (t, a, b, out)))
    (hg : ∀ (k : Nat) (t : ByteArray) (a : Int) (out : List α), k < n → out.length = k → g ((k : Int), t, a, false, out) = (G ⟨t, a, false⟩).bind fun r => some (.inl (((k + 1 : Nat) : Int), r.2.text, r.2.at_, r.2.bad, out ++ [r.1])))
    (hg0 : ∀ (k : Nat) (t : ByteArray) (a : Int) (out : List α), k ≤ n → g ((k : Int), t, a, true, out) = some (.inr (t, a, true, out)))
    (hg1 : ∀ (t : ByteArray) (a : Int) (b : Bool) (out : List α), g ((n : Int), t, a, b, out) = some (.inr (t, a, b, out)))
    {s : T_impl_scanner} {c : T_spec_l08Cur} (h : Sim text s c) :
    ∃ s' l c' l', loopM f (0, s.text, s.at_, s.bad, []) = some (s'.text, s'.at_, s'.bad, l) ∧ loopM g (0, c.text, c.at_, c.bad, []) = some (c'.text, c'.at_, c'.bad, l') ∧ Sim text s' c' ∧ l'.length ≤ n ∧ (∀ y ∈ l', P2 y) ∧
      (s'.bad = false → l = l' ∧ s.bad = false ∧ l.length = n ∧ (∀ x ∈ l, P x) ∧ Rd text s s' (l.map enc).flatten) := by
  have badrun : ∀ (m k : Nat) (s : T_impl_scanner) (out : List α), k + m = n → out.length = k → s.bad = true → (∃ c, Sim text s c) → ∃ s' l, loopM f ((k : Int), s.text, s.at_, s.bad, out) = some (s'.text, s'.at_, s'.bad, l) ∧ s'.bad = true ∧ ∃ c', Sim text s' c' := by
    intro m
    induction m with
    | zero =>
      intro k s out hk ho hb hc
      have : k = n := by omega
      subst this
      rw [loopM_eq, hf0]
      exact ⟨s, out, rfl, hb, hc⟩
    | succ m ih =>
      intro k s out hk ho hb ⟨c, hc⟩
      obtain ⟨x, s', y, c', h1, h2, h3, _, h4⟩ := hit s c hc
      have hb' : s'.bad = true := by
        cases q : s'.bad with
        | true => rfl
        | false =>
          have := (h4 q).2.2.1
          rw [hb] at this
          cases this
      rw [loopM_eq, hf k _ _ _ _ (by omega) ho, show T_impl_scanner.mk s.text s.at_ s.bad = s from rfl, h1]
      simp only [Option.bind_some]
      exact ih (k + 1) s' (out ++ [x]) (by omega) (by simp [ho]) hb' ⟨c', h3⟩
  have simBad : ∀ {s1 : T_impl_scanner} {c1 c2 : T_spec_l08Cur} {s2 : T_impl_scanner}, Sim text s1 c1 → Sim text s2 c2 → s1.bad = true → s2.bad = true → Sim text s1 c2 := by
    intro s1 c1 c2 s2 h1 h2 b1 b2
    obtain ⟨a1, b1', q1, q2, q3, q4, q5⟩ := h1.at_
    obtain ⟨a2, b2', r1, r2, r3, r4, r5⟩ := h2.at_
    exact ⟨h1.st, h2.ct, by rw [b1, ← h2.bad, b2], a1, b2', q1, r2, q3, r4, fun h => by rw [b1] at h; cases h⟩
  have main : ∀ (m k : Nat) (s : T_impl_scanner) (c : T_spec_l08Cur) (out : List α), k + m = n → out.length = k → Sim text s c → s.bad = false → (∀ x ∈ out, P x) → (∀ x ∈ out, P2 x) → ∃ s' l c' l', loopM f ((k : Int), s.text, s.at_, s.bad, out) = some (s'.text, s'.at_, s'.bad, l) ∧ loopM g ((k : Int), c.text, c.at_, c.bad, out) = some (c'.text, c'.at_, c'.bad, l') ∧ Sim text s' c' ∧ l'.length ≤ n ∧ (∀ y ∈ l', P2 y) ∧
      (s'.bad = false → l = l' ∧ l.length = n ∧ (∀ x ∈ l, P x) ∧ ∃ l2, l = out ++ l2 ∧ Rd text s s' (l2.map enc).flatten) := by
    intro m
    induction m with
    | zero =>
      intro k s c out hk ho hs hb hP hP2
      have : k = n := by omega
      subst this
      rw [loopM_eq, hf0, loopM_eq, hg1]
      obtain ⟨a1, b1', q1, q2, q3, q4, q5⟩ := hs.at_
      exact ⟨s, out, c, out, rfl, rfl, hs, by omega, hP2, fun _ => ⟨rfl, ho, hP, [], by simp, Rd.refl q1 q3⟩⟩
    | succ m ih =>
      intro k s c out hk ho hs hb hP hP2
      have hcb : c.bad = false := by rw [← hs.bad, hb]
      obtain ⟨x, s', y, c', h1, h2, h3, hy2, h4⟩ := hit s c hs
      have hP2' : ∀ z ∈ out ++ [y], P2 z := fun z hz => by
        rcases List.mem_append.1 hz with hz | hz
        · exact hP2 z hz
        · simp at hz
          subst hz
          exact hy2
      rw [loopM_eq, hf k _ _ _ _ (by omega) ho, show T_impl_scanner.mk s.text s.at_ s.bad = s from rfl, h1]
      rw [loopM_eq, hcb, hg k _ _ _ (by omega) ho, show T_spec_l08Cur.mk c.text c.at_ false = c from by cases c with | mk t a b => simp only at hcb; rw [hcb], h2]
      simp only [Option.bind_some]
      cases q : s'.bad with
      | true =>
        have hcb' : c'.bad = true := by rw [← h3.bad, q]
        obtain ⟨s2, l, g1, g2, c2, g3⟩ := badrun m (k + 1) s' (out ++ [x]) (by omega) (by simp [ho]) q ⟨c', h3⟩
        rw [q] at g1
        rw [g1, hcb', loopM_eq, hg0 (k + 1) _ _ _ (by omega)]
        refine ⟨s2, l, c', out ++ [y], rfl, by rw [hcb']; rfl, simBad g3 h3 g2 q, by simp; omega, hP2', fun h => ?_⟩
        rw [g2] at h
        cases h
      | false =>
        obtain ⟨rfl, hPx, _, hr⟩ := h4 q
        obtain ⟨s2, l, c2, l2, g1, g2, g3, g5, g6, g4⟩ := ih (k + 1) s' c' (out ++ [x]) (by omega) (by simp [ho]) h3 q (fun z hz => by
          rcases List.mem_append.1 hz with hz | hz
          · exact hP z hz
          · simp at hz
            subst hz
            exact hPx) hP2'
        rw [q] at g1
        rw [g1, g2]
        refine ⟨s2, l, c2, l2, rfl, rfl, g3, g5, g6, fun h => ?_⟩
        obtain ⟨k1, k2, k3, l3, k4, k5⟩ := g4 h
        refine ⟨k1, k2, k3, x :: l3, by rw [k4]; simp, ?_⟩
        rw [List.map_cons, List.flatten_cons]
        exact hr.trans k5
  cases hb : s.bad with
  | true =>
    have hcb : c.bad = true := by rw [← h.bad, hb]
    obtain ⟨s', l, h1, h2, c', h3⟩ := badrun n 0 s [] (by omega) rfl hb ⟨c, h⟩
    rw [hb] at h1
    have := hg0 0 c.text c.at_ [] (by omega)
    refine ⟨s', l, c, [], h1, ?_, simBad h3 h h2 hb, by simp, (fun _ h => by cases h), fun q => ?_⟩
    · rw [hcb, loopM_eq]
      have e : ((0 : Nat) : Int) = 0 := rfl
      rw [e] at this
      rw [this]
      rfl
    · rw [h2] at q
      cases q
  | false =>
    obtain ⟨s', l, c', l', h1, h2, h3, h5, h6, h4⟩ := main n 0 s c [] (by omega) rfl h hb (fun _ h => by cases h) (fun _ h => by cases h)
    rw [hb] at h1
    refine ⟨s', l, c', l', h1, h2, h3, h5, h6, fun q => ?_⟩
    obtain ⟨k1, k2, k3, l3, k4, k5⟩ := h4 q
    rw [List.nil_append] at k4
    subst k4
    exact ⟨k1, rfl, k2, k3, k5⟩
end Go.TV.F
/- Plain Lean: steps: how large they are, copies, compares. -/
namespace Go.TV.F
open Go.TV
/-- A loop, by what stays true. -/
theorem loopM_inv {σ ρ : Type} {f : σ → Option (σ ⊕ ρ)} (I : σ → Prop) (m : σ → Nat) (Q : ρ → Prop) {s : σ} (h0 : I s)
    (h : ∀ s, I s → (∃ s', f s = some (.inl s') ∧ I s' ∧ m s' < m s) ∨ ∃ r, f s = some (.inr r) ∧ Q r) : ∃ r, loopM f s = some r ∧ Q r := by
  have key : ∀ n s, I s → m s = n → ∃ r, loopM f s = some r ∧ Q r := by
    intro n
    induction n using Nat.strongRecOn with
    | _ n ih =>
      intro s hs hm
      rw [loopM_eq f]
      rcases h s hs with ⟨s', h1, h2, h3⟩ | ⟨r, h1, h2⟩
      · rw [h1]
        exact ih (m s') (by omega) s' h2 rfl
      · rw [h1]
        exact ⟨r, rfl, h2⟩
  exact key _ s h0 rfl
def BB : Nat := 1000000000000000
/-! ### Copies -/
/-! ### Compares -/
end Go.TV.F
/- Plain Lean: BundleText is the reference's. -/
namespace Go.TV.F
open Go.TV
theorem empty_app (s : ByteArray) : ByteArray.mk #[] ++ s = s := by
  apply ByteArray.ext
  rw [ByteArray.data_append]
  simp
theorem app_empty (s : ByteArray) : s ++ ByteArray.mk #[] = s := by
  apply ByteArray.ext
  rw [ByteArray.data_append]
  simp
theorem app_assoc (s t u : ByteArray) : s ++ t ++ u = s ++ (t ++ u) := by
  apply ByteArray.ext
  simp only [ByteArray.data_append, Array.append_assoc]
def cat : List ByteArray → ByteArray
  | [] => ByteArray.mk #[]
  | s :: l => s ++ cat l
theorem cat_app (l m : List ByteArray) : cat (l ++ m) = cat l ++ cat m := by
  induction l with
  | nil => simp [cat, empty_app]
  | cons s l ih => simp [cat, ih, app_assoc]
theorem cat_one (s : ByteArray) : cat [s] = s := by simp [cat, app_empty]
theorem cat_size {l : List ByteArray} {M : Nat} (h : ∀ x ∈ l, x.size ≤ M) : (cat l).size ≤ l.length * M := by
  induction l with
  | nil => exact Nat.zero_le _
  | cons s l ih =>
    have h1 := h s (by simp)
    have h2 := ih (fun x hx => h x (by simp [hx]))
    simp only [cat, ByteArray.size_append, List.length_cons, Nat.add_mul]
    omega
theorem cat_take {α : Type} {l : List α} {f : α → ByteArray} {k : Nat} (hk : k < l.length) : cat ((l.take (k + 1)).map f) = cat ((l.take k).map f) ++ f l[k] := by
  rw [List.take_add_one, List.getElem?_eq_getElem hk, List.map_append, cat_app]
  simp only [Option.toList_some, List.map_cons, List.map_nil, cat_one]
theorem cat_take_le {α : Type} {l : List α} {f : α → ByteArray} (k : Nat) : (cat ((l.take k).map f)).size ≤ (cat (l.map f)).size := by
  have : l.map f = (l.take k).map f ++ (l.drop k).map f := by rw [← List.map_append, List.take_append_drop]
  rw [this, cat_app, ByteArray.size_append]
  omega
theorem acc_loop {α : Type} {l : List α} {f : α → ByteArray} {M : Nat} {body : Int × ByteArray → Option ((Int × ByteArray) ⊕ ByteArray)} {b0 : ByteArray} (hb : b0.size + l.length * M ≤ 400000000) (hf : ∀ x ∈ l, (f x).size ≤ M)
    (hs : ∀ (i : Nat) (x : α) (b : ByteArray), l[i]? = some x → x ∈ l → b.size + M ≤ 400000000 → body ((i : Int), b) = some (.inl (((i + 1 : Nat) : Int), b ++ f x)))
    (he : ∀ b : ByteArray, body ((l.length : Int), b) = some (.inr b)) : loopM body (0, b0) = some (b0 ++ cat (l.map f)) := by
  have h0 : (0, b0) = ((((0 : Nat) : Int), b0 ++ cat ((l.take 0).map f)) : Int × ByteArray) := by simp [cat, app_empty]
  rw [h0]
  refine loopM_at (fun k => ((k : Int), b0 ++ cat ((l.take k).map f))) l.length (fun k hk => ?_) (by rw [he, List.take_length])
  have hsz : (cat ((l.take k).map f)).size ≤ k * M := by
    have := cat_size (l := (l.take k).map f) (M := M) (fun x hx => by
      obtain ⟨y, hy, rfl⟩ := List.mem_map.1 hx
      exact hf y (List.mem_of_mem_take hy))
    rw [List.length_map, List.length_take, Nat.min_eq_left (by omega)] at this
    exact this
  have hkM : (k + 1) * M ≤ l.length * M := Nat.mul_le_mul_right _ hk
  rw [Nat.add_mul, Nat.one_mul] at hkM
  rw [hs k l[k] _ (List.getElem?_eq_getElem hk) (List.getElem_mem hk) (by rw [ByteArray.size_append]; omega), cat_take hk, app_assoc]
theorem acc_loop2 {α : Type} {l : List α} {f : α → ByteArray} {M : Nat} {body : ByteArray × Int → Option ((ByteArray × Int) ⊕ ByteArray)} {b0 : ByteArray} (hb : b0.size + l.length * M ≤ 400000000) (hf : ∀ x ∈ l, (f x).size ≤ M)
    (hs : ∀ (i : Nat) (x : α) (b : ByteArray), l[i]? = some x → x ∈ l → b.size + M ≤ 400000000 → body (b, (i : Int)) = some (.inl (b ++ f x, ((i + 1 : Nat) : Int))))
    (he : ∀ b : ByteArray, body (b, (l.length : Int)) = some (.inr b)) : loopM body (b0, 0) = some (b0 ++ cat (l.map f)) := by
  have h0 : (b0, 0) = ((b0 ++ cat ((l.take 0).map f), ((0 : Nat) : Int)) : ByteArray × Int) := by simp [cat, app_empty]
  rw [h0]
  refine loopM_at (fun k => (b0 ++ cat ((l.take k).map f), (k : Int))) l.length (fun k hk => ?_) (by rw [he, List.take_length])
  have hsz : (cat ((l.take k).map f)).size ≤ k * M := by
    have := cat_size (l := (l.take k).map f) (M := M) (fun x hx => by
      obtain ⟨y, hy, rfl⟩ := List.mem_map.1 hx
      exact hf y (List.mem_of_mem_take hy))
    rw [List.length_map, List.length_take, Nat.min_eq_left (by omega)] at this
    exact this
  have hkM : (k + 1) * M ≤ l.length * M := Nat.mul_le_mul_right _ hk
  rw [Nat.add_mul, Nat.one_mul] at hkM
  rw [hs k l[k] _ (List.getElem?_eq_getElem hk) (List.getElem_mem hk) (by rw [ByteArray.size_append]; omega), cat_take hk, app_assoc]
/-! ### Numbers and texts in bytes -/
theorem encL_len5 : ∀ (k n : Nat), n < 128 ^ (k + 1) → (encL n).length ≤ k + 1
  | 0, n, h => by rw [encL_lo (by simpa using Nat.le_of_lt_succ h)]; simp
  | k + 1, n, h => by
    by_cases q : n ≤ 127
    · rw [encL_lo q]
      simp
    · rw [encL_hi q]
      have := encL_len5 k (n / 128) (by rw [Nat.pow_succ] at h; exact Nat.div_lt_of_lt_mul (by rw [Nat.mul_comm]; exact h))
      simp
      exact this
theorem encS_size {n : Nat} (h : n ≤ 1000000000) : (encS n).size ≤ 5 := by
  rw [← nb_len, nb_encS]
  exact encL_len5 4 n (by omega)
theorem var_loopI : ∀ (n : Nat) (out : List Int), out.length + n ≤ 68719476736 → ∃ (c : Int) (o : List Int), loopM (fun (s' : Int × (List Int)) => impl_varText_l1 s'.1 s'.2) ((n : Int), out) = some (c, o) ∧ 0 ≤ c ∧ c ≤ 127 ∧ o ++ [c] = out ++ (encL n).map (fun x : Nat => (x : Int)) ∧ o.length ≤ 68719476736 := by
  intro n
  induction n using Nat.strongRecOn with
  | _ n ih =>
    intro out h
    rw [loopM_eq]
    simp only [impl_varText_l1]
    by_cases q : n ≤ 127
    · rw [ifF (by simp; omega)]
      refine ⟨_, _, rfl, by omega, by omega, ?_, by omega⟩
      rw [encL_lo q]
      rfl
    · rw [ifT (by simp; omega), show (128 : Int) = ((128 : Nat) : Int) from rfl, tmod_nat, tdiv_nat, wk64 (x := ((128 : Nat) : Int) + ((n % 128 : Nat) : Int)) (by omega) (by omega), wku8 (by omega) (by omega), appn_in (by simp; omega)]
      simp only [Option.bind_some, List.append_eq]
      rw [wk64 (x := ((n / 128 : Nat) : Int)) (by omega) (by omega)]
      obtain ⟨c, o, h1, h2, h3, h4, h5⟩ := ih (n / 128) (by omega) (out ++ [((128 : Nat) : Int) + ((n % 128 : Nat) : Int)]) (by simp; omega)
      refine ⟨c, o, h1, h2, h3, ?_, h5⟩
      rw [h4, encL_hi q]
      simp
      omega
theorem varText_eq {n : Nat} (h : n ≤ 34359738368) : impl_varText (n : Int) = some (encS n) := by
  unfold impl_varText
  obtain ⟨c, o, h1, h2, h3, h4, h5⟩ := var_loopI n [] (by simp; omega)
  rw [h1]
  simp only [Option.bind_some]
  unfold impl_varText_j1
  rw [wku8 h2 (by omega), appn_in (by simp; omega), Option.bind_some, h4]
  rfl
def shS (s : ByteArray) : ByteArray := encS s.size ++ s
theorem shS_size {s : ByteArray} (h : s.size ≤ 1000000000) : (shS s).size ≤ 5 + s.size := by
  have := encS_size h
  unfold shS
  rw [ByteArray.size_append]
  omega
theorem shortI_eq {s : ByteArray} (h : s.size ≤ 1000000000) : impl_shortText s = some (shS s) := by
  have := encS_size h
  unfold impl_shortText
  rw [varText_eq (by omega), Option.bind_some, sapp_in (by omega)]
  rfl
theorem shortS_eq {s : ByteArray} (h : s.size ≤ 1000000000) : spec_l17Short s = some (shS s) := by
  have := encS_size h
  unfold spec_l17Short
  rw [l01Var_eq (by omega), Option.bind_some, sapp_in (by omega)]
  rfl
theorem wstr_in {b x : ByteArray} (h : b.size + x.size ≤ 549755813888) : strings_Builder_WriteString b x = some (b ++ x) := by
  unfold strings_Builder_WriteString
  rw [if_pos h]
/-! ### What can be told -/
end Go.TV.F
/- Plain Lean: loops by what stays true, and small lemmas. -/
namespace Go.TV.F
open Go.TV
theorem loopK1 {σ ρ : Type} {f : σ → Option (σ ⊕ ρ)} (I : σ → Prop) (m : σ → Nat) (Q : ρ → Prop) {s : σ} (h0 : I s)
    (h : ∀ s, I s → (∃ s', f s = some (.inl s') ∧ I s' ∧ m s' < m s) ∨ ∃ r, f s = some (.inr r) ∧ Q r) : ∃ r, loopM f s = some r ∧ Q r := by
  have key : ∀ n s, I s → m s = n → ∃ r, loopM f s = some r ∧ Q r := by
    intro n
    induction n using Nat.strongRecOn with
    | _ n ih =>
      intro s hs hm
      rw [loopM_eq f]
      rcases h s hs with ⟨s', h1, h2, h3⟩ | ⟨r, h1, h2⟩
      · rw [h1]
        exact ih (m s') (by omega) s' h2 rfl
      · rw [h1]
        exact ⟨r, rfl, h2⟩
  exact key _ s h0 rfl
theorem tdivK (a b : Nat) : ((a : Int)).tdiv (b : Int) = ((a / b : Nat) : Int) := by
  rw [Int.tdiv_eq_ediv_of_nonneg (by omega)]
  rfl
theorem mkSK (l : List Int) : (mkS l).size = l.length := by
  show (List.toArray (l.map fun x => UInt8.ofNat x.toNat)).size = _
  simp
theorem gset {α : Type} {l : List α} {i : Nat} {x : α} (h : i < l.length) : (l.set i x)[i]? = some x := by simp [h]
theorem inl3 {α β γ ρ : Type} {a a' : α} {b b' : β} {c c' : γ} (h1 : a = a') (h2 : b = b') (h3 : c = c') : (some (.inl (a, b, c)) : Option ((α × β × γ) ⊕ ρ)) = some (.inl (a', b', c')) := by rw [h1, h2, h3]
theorem inl2 {α β ρ : Type} {a a' : α} {b b' : β} (h1 : a = a') (h2 : b = b') : (some (.inl (a, b)) : Option ((α × β) ⊕ ρ)) = some (.inl (a', b')) := by rw [h1, h2]
theorem ltF {a : Int} (h : 0 ≤ a) : decide (a < 0) = false := by simp; omega
theorem sumK1 {α : Type} (a : List α) : sumOf (fun _ => 1) a = a.length := by
  induction a with
  | nil => rfl
  | cons x l ih => simp [sumOf, ih]; omega
theorem sumOf_leK {α : Type} {w : α → Nat} {B : Nat} : ∀ {a : List α}, (∀ x ∈ a, w x ≤ B) → sumOf w a ≤ a.length * B
  | [], _ => by simp [sumOf]
  | x :: l, h => by
    have h1 := h x (by simp)
    have h2 := sumOf_leK (a := l) (fun y hy => h y (by simp [hy]))
    simp only [sumOf, List.length_cons, Nat.add_mul]
    omega
end Go.TV.F
/- Plain Lean: the functions over graphs, and what they come to. -/
namespace Go.TV.F
open Go.TV

/-- Sets, as the program holds them. -/
abbrev us (c : List Nat) : List Int := c.map fun (s : Nat) => (s : Int)
/-! ### The reference -/
end Go.TV.F
/- Plain Lean: loops that look at all of a list; small steps. -/
namespace Go.TV.F
open Go.TV
theorem orO (a b : Bool) : (if a = true then some true else some b) = some (a || b) := by cases a <;> rfl
theorem getD_some {α : Type} {l : List α} {i : Nat} {d x : α} (h : l[i]? = some x) : l.getD i d = x := by
  rw [List.getD_eq_getElem?_getD, h]
  rfl
end Go.TV.F
/- Plain Lean: reading what is there. -/
namespace Go.TV.F
open Go.TV
/-- These bytes stand at a place. -/
def At (text : ByteArray) (a : Nat) (l : List Nat) : Prop := a ≤ text.size ∧ ∃ r, (nb text).drop a = l ++ r
theorem At.len {text : ByteArray} {a : Nat} {l : List Nat} (h : At text a l) : a + l.length ≤ text.size := by
  obtain ⟨h0, r, h⟩ := h
  have := congrArg List.length h
  rw [List.length_drop, List.length_append, nb_len] at this
  omega
theorem At.get {text : ByteArray} {a : Nat} {l : List Nat} (h : At text a l) {k : Nat} (hk : k < l.length) : (nb text)[a + k]? = some l[k] := by
  obtain ⟨h0, r, h⟩ := h
  rw [← List.getElem?_drop, h, List.getElem?_append_left hk, List.getElem?_eq_getElem hk]
theorem At.take {text : ByteArray} {a : Nat} {l : List Nat} (h : At text a l) : nb (text.extract a (a + l.length)) = l := by
  obtain ⟨h0, r, h⟩ := h
  rw [nb_extract, h, Nat.add_sub_cancel_left, List.take_left]
end Go.TV.F
/- Plain Lean: lists of items read and looked at, side by side. -/
namespace Go.TV.F
open Go.TV
theorem simSelf {text : ByteArray} {s : T_impl_scanner} {c : T_spec_l08Cur} (h : Sim text s c) (b : Bool) (hb : b = true) : Sim text ⟨s.text, s.at_, b⟩ ⟨text, s.at_, b⟩ := by
  obtain ⟨a1, b1, q1, q2, q3, q4, q5⟩ := h.at_
  exact ⟨h.st, rfl, rfl, a1, a1, q1, q1, q3, q3, fun _ => rfl⟩
theorem items_simC {text : ByteArray} {α : Type} {I : T_impl_scanner → Option (α × T_impl_scanner)} {G : T_spec_l08Cur → Option (α × T_spec_l08Cur)} (enc : α → List Nat) (P P2 : α → Prop) (ck : α → Bool)
    (hit : ∀ s c, Sim text s c → ∃ x s' y c', I s = some (x, s') ∧ G c = some (y, c') ∧ Sim text s' c' ∧ P2 y ∧ (s'.bad = false → x = y ∧ P x ∧ s.bad = false ∧ Rd text s s' (enc x)))
    {n : Nat} {f g : Int × ByteArray × Int × Bool × List α → Option ((Int × ByteArray × Int × Bool × List α) ⊕ (ByteArray × Int × Bool × List α))}
    (hf : ∀ (k : Nat) (t : ByteArray) (a : Int) (b : Bool) (out : List α), k < n → out.length = k → ∀ x s' , I ⟨t, a, b⟩ = some (x, s') → P2 x ∨ s'.bad = true → f ((k : Int), t, a, b, out) = some (.inl (((k + 1 : Nat) : Int), s'.text, s'.at_, s'.bad || !ck x, out ++ [x])))
    (hf0 : ∀ (t : ByteArray) (a : Int) (b : Bool) (out : List α), f ((n : Int), t, a, b, out) = some (.inr (t, a, b, out)))
    (hg : ∀ (k : Nat) (t : ByteArray) (a : Int) (out : List α), k < n → out.length = k → g ((k : Int), t, a, false, out) = (G ⟨t, a, false⟩).bind fun r => some (.inl (((k + 1 : Nat) : Int), r.2.text, r.2.at_, r.2.bad, out ++ [r.1])))
    (hg0 : ∀ (k : Nat) (t : ByteArray) (a : Int) (out : List α), k ≤ n → g ((k : Int), t, a, true, out) = some (.inr (t, a, true, out)))
    (hg1 : ∀ (t : ByteArray) (a : Int) (b : Bool) (out : List α), g ((n : Int), t, a, b, out) = some (.inr (t, a, b, out)))
    {s : T_impl_scanner} {c : T_spec_l08Cur} (h : Sim text s c) :
    ∃ s' l c' l', loopM f (0, s.text, s.at_, s.bad, []) = some (s'.text, s'.at_, s'.bad, l) ∧ loopM g (0, c.text, c.at_, c.bad, []) = some (c'.text, c'.at_, c'.bad, l') ∧ (∃ c2, Sim text s' c2) ∧ l'.length ≤ n ∧ (∀ y ∈ l', P2 y) ∧
      (s'.bad = false → Sim text s' c' ∧ l = l' ∧ s.bad = false ∧ l.length = n ∧ (∀ x ∈ l, P x ∧ ck x = true) ∧ Rd text s s' (l.map enc).flatten) ∧
      (s'.bad = true → c'.bad = true ∨ ∃ y ∈ l', ck y = false) := by
  have badrun : ∀ (m k : Nat) (s : T_impl_scanner) (out : List α), k + m = n → out.length = k → s.bad = true → (∃ c, Sim text s c) → ∃ s' l, loopM f ((k : Int), s.text, s.at_, s.bad, out) = some (s'.text, s'.at_, s'.bad, l) ∧ s'.bad = true ∧ ∃ c', Sim text s' c' := by
    intro m
    induction m with
    | zero =>
      intro k s out hk ho hb hc
      have : k = n := by omega
      subst this
      rw [loopM_eq, hf0]
      exact ⟨s, out, rfl, hb, hc⟩
    | succ m ih =>
      intro k s out hk ho hb ⟨c, hc⟩
      obtain ⟨x, s', y, c', h1, h2, h3, _, h4⟩ := hit s c hc
      have hb' : s'.bad = true := by
        cases q : s'.bad with
        | true => rfl
        | false =>
          have := (h4 q).2.2.1
          rw [hb] at this
          cases this
      rw [loopM_eq, hf k _ _ _ _ (by omega) ho x s' h1 (.inr hb'), hb']
      simp only [Bool.true_or]
      have := simSelf h3 true rfl
      exact ih (k + 1) ⟨s'.text, s'.at_, true⟩ (out ++ [x]) (by omega) (by simp [ho]) rfl ⟨_, this⟩
  have main : ∀ (m k : Nat) (s : T_impl_scanner) (c : T_spec_l08Cur) (out : List α), k + m = n → out.length = k → Sim text s c → s.bad = false → (∀ x ∈ out, P x ∧ ck x = true) → (∀ x ∈ out, P2 x) → ∃ s' l c' l', loopM f ((k : Int), s.text, s.at_, s.bad, out) = some (s'.text, s'.at_, s'.bad, l) ∧ loopM g ((k : Int), c.text, c.at_, c.bad, out) = some (c'.text, c'.at_, c'.bad, l') ∧ (∃ c2, Sim text s' c2) ∧ l'.length ≤ n ∧ (∀ y ∈ l', P2 y) ∧ (∃ ext, l' = out ++ ext) ∧
      (s'.bad = false → Sim text s' c' ∧ l = l' ∧ l.length = n ∧ (∀ x ∈ l, P x ∧ ck x = true) ∧ ∃ l2, l = out ++ l2 ∧ Rd text s s' (l2.map enc).flatten) ∧ (s'.bad = true → c'.bad = true ∨ ∃ y ∈ l', ck y = false) := by
    intro m
    induction m with
    | zero =>
      intro k s c out hk ho hs hb hP hP2
      have : k = n := by omega
      subst this
      rw [loopM_eq, hf0, loopM_eq, hg1]
      obtain ⟨a1, b1', q1, q2, q3, q4, q5⟩ := hs.at_
      exact ⟨s, out, c, out, rfl, rfl, ⟨c, hs⟩, by omega, hP2, ⟨[], by simp⟩, fun _ => ⟨hs, rfl, ho, hP, [], by simp, Rd.refl q1 q3⟩, fun q => by rw [hb] at q; cases q⟩
    | succ m ih =>
      intro k s c out hk ho hs hb hP hP2
      have hcb : c.bad = false := by rw [← hs.bad, hb]
      obtain ⟨x, s', y, c', h1, h2, h3, hy2, h4⟩ := hit s c hs
      have hP2' : ∀ z ∈ out ++ [y], P2 z := fun z hz => by
        rcases List.mem_append.1 hz with hz | hz
        · exact hP2 z hz
        · simp at hz
          subst hz
          exact hy2
      have h1' : I ⟨s.text, s.at_, s.bad⟩ = some (x, s') := h1
      have h2' : G ⟨c.text, c.at_, false⟩ = some (y, c') := by
        have : T_spec_l08Cur.mk c.text c.at_ false = c := by cases c with | mk t a b => simp only at hcb; rw [hcb]
        rw [this, h2]
      cases q : s'.bad with
      | true =>
        rw [loopM_eq, hf k _ _ _ _ (by omega) ho x s' h1' (.inr q), q]
        rw [loopM_eq, hcb, hg k _ _ _ (by omega) ho, h2']
        simp only [Option.bind_some, Bool.true_or]
        have hcb' : c'.bad = true := by rw [← h3.bad, q]
        obtain ⟨s2, l, g1, g2, c2, g3⟩ := badrun m (k + 1) ⟨s'.text, s'.at_, true⟩ (out ++ [x]) (by omega) (by simp [ho]) rfl ⟨_, simSelf h3 true rfl⟩
        rw [g1, hcb', loopM_eq, hg0 (k + 1) _ _ _ (by omega)]
        refine ⟨s2, l, c', out ++ [y], rfl, by rw [hcb']; rfl, ⟨c2, g3⟩, by simp; omega, hP2', ⟨[y], rfl⟩, fun h => ?_, fun _ => .inl hcb'⟩
        rw [g2] at h
        cases h
      | false =>
        obtain ⟨rfl, hPx, _, hr⟩ := h4 q
        rw [loopM_eq, hf k _ _ _ _ (by omega) ho x s' h1' (.inl hy2), q]
        rw [loopM_eq, hcb, hg k _ _ _ (by omega) ho, h2']
        simp only [Option.bind_some, Bool.false_or]
        have hcb' : c'.bad = false := by rw [← h3.bad, q]
        cases hk2 : ck x with
        | true =>
          obtain ⟨s2, l, c2, l2, g1, g2, g3, g4, g5, ⟨ext, g6⟩, g7, g8⟩ := ih (k + 1) s' c' (out ++ [x]) (by omega) (by simp [ho]) h3 q (fun z hz => by
            rcases List.mem_append.1 hz with hz | hz
            · exact hP z hz
            · simp at hz
              subst hz
              exact ⟨hPx, hk2⟩) hP2'
          rw [q] at g1
          simp only [Bool.not_true]
          rw [g1, g2]
          refine ⟨s2, l, c2, l2, rfl, rfl, g3, g4, g5, ⟨x :: ext, by rw [g6]; simp⟩, fun h => ?_, g8⟩
          obtain ⟨k0, k1, k2, k3, l3, k4, k5⟩ := g7 h
          refine ⟨k0, k1, k2, k3, x :: l3, by rw [k4]; simp, ?_⟩
          rw [List.map_cons, List.flatten_cons]
          exact hr.trans k5
        | false =>
          simp only [Bool.not_false]
          obtain ⟨s2, l, g1, g2, c2, g3⟩ := badrun m (k + 1) ⟨s'.text, s'.at_, true⟩ (out ++ [x]) (by omega) (by simp [ho]) rfl ⟨_, simSelf h3 true rfl⟩
          rw [g1]
          -- the reference goes on: what it has stays
          have grun : ∀ (m k : Nat) (s : T_impl_scanner) (c : T_spec_l08Cur) (out : List α), k + m = n → out.length = k → Sim text s c → (∀ x ∈ out, P2 x) → ∃ (c' : T_spec_l08Cur) (l' ext : List α), loopM g ((k : Int), c.text, c.at_, c.bad, out) = some (c'.text, c'.at_, c'.bad, l') ∧ l' = out ++ ext ∧ l'.length ≤ n ∧ ∀ y ∈ l', P2 y := by
            intro m
            induction m with
            | zero =>
              intro k s c out hk ho hs hP2
              have : k = n := by omega
              subst this
              rw [loopM_eq, hg1]
              exact ⟨c, out, [], rfl, by simp, by omega, hP2⟩
            | succ m ih =>
              intro k s c out hk ho hs hP2
              cases qc : c.bad with
              | true =>
                rw [loopM_eq, hg0 k _ _ _ (by omega)]
                exact ⟨c, out, [], by rw [qc]; rfl, by simp, by omega, hP2⟩
              | false =>
                obtain ⟨x, s', y, c', h1, h2, h3, hy2, _⟩ := hit s c hs
                have h2' : G ⟨c.text, c.at_, false⟩ = some (y, c') := by
                  have : T_spec_l08Cur.mk c.text c.at_ false = c := by cases c with | mk t a b => simp only at qc; rw [qc]
                  rw [this, h2]
                rw [loopM_eq, hg k _ _ _ (by omega) ho, h2']
                simp only [Option.bind_some]
                obtain ⟨c2, l2, ext, e1, e2, e3, e4⟩ := ih (k + 1) s' c' (out ++ [y]) (by omega) (by simp [ho]) h3 (fun z hz => by
                  rcases List.mem_append.1 hz with hz | hz
                  · exact hP2 z hz
                  · simp at hz
                    subst hz
                    exact hy2)
                exact ⟨c2, l2, y :: ext, e1, by rw [e2]; simp, e3, e4⟩
          obtain ⟨c3, l3, ext, e1, e2, e3, e4⟩ := grun m (k + 1) s' c' (out ++ [x]) (by omega) (by simp [ho]) h3 hP2'
          rw [e1]
          refine ⟨s2, l, c3, l3, rfl, rfl, ⟨c2, g3⟩, e3, e4, ⟨x :: ext, by rw [e2]; simp⟩, fun h => ?_, fun _ => .inr ⟨x, by rw [e2]; simp, hk2⟩⟩
          rw [g2] at h
          cases h
  cases hb : s.bad with
  | true =>
    have hcb : c.bad = true := by rw [← h.bad, hb]
    obtain ⟨s', l, h1, h2, c', h3⟩ := badrun n 0 s [] (by omega) rfl hb ⟨c, h⟩
    rw [hb] at h1
    have := hg0 0 c.text c.at_ [] (by omega)
    refine ⟨s', l, c, [], h1, ?_, ⟨c', h3⟩, by simp, (fun y hy => by cases hy), (fun q => ?_), fun _ => .inl hcb⟩
    · rw [hcb, loopM_eq]
      have e : ((0 : Nat) : Int) = 0 := rfl
      rw [e] at this
      rw [this]
      rfl
    · rw [h2] at q
      cases q
  | false =>
    obtain ⟨s', l, c', l', h1, h2, h3, h4, h5, _, h6, h7⟩ := main n 0 s c [] (by omega) rfl h hb (fun _ h => by cases h) (fun _ h => by cases h)
    rw [hb] at h1
    refine ⟨s', l, c', l', h1, h2, h3, h4, h5, fun q => ?_, h7⟩
    obtain ⟨k0, k1, k2, k3, l3, k4, k5⟩ := h6 q
    rw [List.nil_append] at k4
    subst k4
    exact ⟨k0, k1, rfl, k2, k3, k5⟩
end Go.TV.F
/- Plain Lean: sealed texts, and their marks. -/
namespace Go.TV.F
open Go.TV
theorem mark_sim {text : ByteArray} (ht : text.size ≤ 60000) {s : T_impl_scanner} {c : T_spec_l08Cur} (h : Sim text s c) (mark : ByteArray) (hm : mark.size ≤ 100) (hm1 : 0 < mark.size) : ∃ s' t c', impl_scanner_mark s mark = some s' ∧ spec_l08Take c (mark.size : Int) = some (t, c') ∧ (∃ c2, Sim text s' c2) ∧
    ((!(t.toList == mark.toList)) = false → Sim text s' c' ∧ (s'.bad = false → s.bad = false ∧ Rd text s s' (nb mark))) ∧ ((!(t.toList == mark.toList)) = true → s'.bad = true) := by
  obtain ⟨t, s1, c', h1, h2, h3, h4, _⟩ := take_sim ht h (n := mark.size) (by omega)
  unfold impl_scanner_mark
  rw [show T_impl_scanner.mk s.text s.at_ s.bad = s from rfl, h1, h2]
  simp only [Option.bind_some]
  cases q : !(t.toList == mark.toList) with
  | true =>
    simp only [if_true]
    obtain ⟨a, b, g1, g2, g3, g4, g5⟩ := h3.at_
    exact ⟨_, t, c', rfl, rfl, ⟨⟨text, s1.at_, true⟩, h3.st, rfl, rfl, a, a, g1, g1, g3, g3, fun h => by cases h⟩, (fun h => absurd (q.symm.trans h) (by decide)), fun _ => rfl⟩
  | false =>
    simp only [Bool.false_eq_true, if_false]
    refine ⟨_, t, c', rfl, rfl, ⟨c', h3⟩, fun _ => ⟨h3, fun hb => ⟨(h4 hb).1, ?_⟩⟩, fun h => absurd (q.symm.trans h) (by decide)⟩
    have e : nb t = nb mark := by
      rw [beq_nb] at q
      simpa using q
    rw [← e]
    exact (h4 hb).2.2
theorem four_eq {s : ByteArray} (hs : s.size ≤ 1000000000) : ∃ u : ByteArray, u.size = 4 ∧ (∀ t, spec_SumOf s = some t → spec_l02Four t = some u) ∧ (∃ t, spec_SumOf s = some t ∧ spec_l02Four t = some u ∧ impl_sumText s = some u) := by
  obtain ⟨r, h1, h2, h3⟩ := sumOf_eq (text := s) hs
  refine ⟨mkS [(wk .u8 (shrI .u32 r 24)), (wk .u8 (shrI .u32 r 16)), (wk .u8 (shrI .u32 r 8)), (wk .u8 r)], ?_, ?_, r, h2, rfl, ?_⟩
  · rw [mkS_size]
    rfl
  · intro t ht
    rw [h2] at ht
    injection ht with ht
    subst ht
    rfl
  · unfold impl_sumText
    rw [h1]
    rfl
theorem sealedS_eq {s : ByteArray} : spec_Sealed s = if s.size > 60000 then some (ByteArray.mk #[], false) else (spec_SumOf s).bind fun x9 => (spec_l02Four x9).bind fun x10 => some (s ++ x10, true) := by
  unfold spec_Sealed
  by_cases q : s.size > 60000
  · rw [ifT (by simp; omega), if_pos q]
  · rw [ifF (by simp; omega), if_neg q]
    obtain ⟨u, h1, h2, t, h3, h4, _⟩ := four_eq (s := s) (by omega)
    simp only [h3, h4, Option.bind_some]
    rw [sapp_in (by omega)]
    rfl
/-- What is left of a sealed text, and how it was sealed. -/
theorem unsealed2 {text : ByteArray} (ht : text.size ≤ 1000000000) : ∃ t ok, impl_Unsealed text = some (t, ok) ∧ spec_Unsealed text = some (t, ok) ∧ t.size ≤ 60000 ∧ (ok = true → spec_Sealed t = some (text, true)) ∧ (∀ s, spec_Sealed s = some (text, true) → s = t ∧ ok = true) := by
  obtain ⟨t, ok, h1, h2, h3⟩ := unsealed_eq ht
  have hs := h2
  unfold spec_Unsealed at hs
  rw [wk64 (x := (text.size : Int) - 4) (by omega) (by omega)] at hs
  have back : ∀ s, spec_Sealed s = some (text, true) → ∃ u : ByteArray, s.size ≤ 60000 ∧ u.size = 4 ∧ text = s ++ u ∧ ∃ x, spec_SumOf s = some x ∧ spec_l02Four x = some u := by
    intro s h
    rw [sealedS_eq] at h
    by_cases q : s.size > 60000
    · rw [if_pos q] at h
      injection h with h
      injection h with _ h
      cases h
    · rw [if_neg q] at h
      obtain ⟨u, g1, g2, x, g3, g4, _⟩ := four_eq (s := s) (by omega)
      rw [g3, Option.bind_some, g4, Option.bind_some] at h
      injection h with h
      injection h with h _
      exact ⟨u, by omega, g1, h.symm, x, g3, g4⟩
  refine ⟨t, ok, h1, h2, h3, ?_, ?_⟩
  · intro hok
    subst hok
    by_cases q : (text.size : Int) - 4 < 0
    · rw [ifT (by simpa using q)] at hs
      simp at hs
    rw [ifF (by simpa using q)] at hs
    simp only [Option.bind_some] at hs
    by_cases q2 : (text.size : Int) - 4 > 60000
    · rw [decide_eq_true q2] at hs
      simp at hs
    rw [decide_eq_false q2] at hs
    simp only [Bool.false_eq_true, if_false] at hs
    rw [subL_in (by omega) (by omega), subH_in (by omega) (by omega)] at hs
    simp only [Option.bind_some] at hs
    have hsz : (text.extract 0 ((text.size : Int) - 4).toNat).size = text.size - 4 := by
      rw [ByteArray.size_extract]
      omega
    obtain ⟨u, g1, g2, x, g3, g4, _⟩ := four_eq (s := text.extract 0 ((text.size : Int) - 4).toNat) (by omega)
    rw [g3, Option.bind_some, g4] at hs
    simp only [Option.bind_some] at hs
    cases e : (!((text.extract ((text.size : Int) - 4).toNat text.size).toList == u.toList)) with
    | true =>
      rw [e] at hs
      simp at hs
    | false =>
      rw [e] at hs
      simp only [Bool.false_eq_true, if_false, Option.some.injEq, Prod.mk.injEq, and_true] at hs
      subst hs
      rw [sealedS_eq, if_neg (by omega), g3, Option.bind_some, g4, Option.bind_some]
      congr 2
      apply nb_inj
      rw [beq_nb] at e
      have e' : nb (text.extract ((text.size : Int) - 4).toNat text.size) = nb u := by simpa using e
      rw [nb_append, ← e', nb_extract, nb_extract]
      have hl := nb_len text
      have hk : ((text.size : Int) - 4).toNat = text.size - 4 := by omega
      rw [hk, Nat.sub_zero, List.drop_zero, List.take_of_length_le (l := (nb text).drop (text.size - 4)) (by rw [List.length_drop]; omega), List.take_append_drop]
  · intro s h
    obtain ⟨u, g1, g2, rfl, x, g3, g4⟩ := back s h
    have hsu : (s ++ u).size = s.size + 4 := by rw [ByteArray.size_append, g2]
    have ex1 : (s ++ u).extract 0 (((s ++ u).size : Int) - 4).toNat = s := by
      apply nb_inj
      rw [nb_extract, nb_append, List.drop_zero, Nat.sub_zero, show (((s ++ u).size : Int) - 4).toNat = (nb s).length by rw [nb_len]; omega, List.take_left]
    have ex2 : (s ++ u).extract (((s ++ u).size : Int) - 4).toNat (s ++ u).size = u := by
      apply nb_inj
      have hu := nb_len u
      have hs' := nb_len s
      rw [nb_extract, nb_append, show (((s ++ u).size : Int) - 4).toNat = (nb s).length by rw [nb_len]; omega, List.drop_left, List.take_of_length_le (by omega)]
    rw [ifF (by simp; omega)] at hs
    simp only [Option.bind_some] at hs
    rw [decide_eq_false (by omega)] at hs
    simp only [Bool.false_eq_true, if_false] at hs
    rw [subL_in (by omega) (by omega), subH_in (by omega) (by omega)] at hs
    simp only [Option.bind_some, ex1, ex2, g3, g4, beq_self_eq_true, Bool.not_true, Bool.false_eq_true, if_false, Option.some.injEq, Prod.mk.injEq] at hs
    exact ⟨hs.1, hs.2.symm⟩
theorem seg_all (t : ByteArray) : seg t 0 t.size = nb t := by
  unfold seg
  rw [List.drop_zero, Nat.sub_zero, ← nb_len, List.take_length]
end Go.TV.F
/- Plain Lean: steps in bytes, the code's side. -/
namespace Go.TV.F
open Go.TV
theorem e0size : (ByteArray.mk #[]).size = 0 := rfl
theorem mkS_bytesL (s : ByteArray) : mkS (bytesL s) = s := by
  apply ByteArray.ext
  apply Array.ext'
  unfold mkS bytesL
  simp only [List.map_map]
  have : ((fun n : Int => UInt8.ofNat n.toNat) ∘ fun b : UInt8 => (b.toNat : Int)) = id := by
    funext b
    simp
  rw [this, List.map_id]
theorem bytesL_app (s t : ByteArray) : bytesL (s ++ t) = bytesL s ++ bytesL t := by
  unfold bytesL
  rw [ByteArray.data_append, Array.toList_append, List.map_append]
theorem bytesL_len (s : ByteArray) : (bytesL s).length = s.size := by simp [bytesL]
def inR (n : Int) (a b : Int) : Bool := decide (a ≤ n) && decide (n ≤ b)
theorem inRangeI_eq (n a b : Int) : impl_inRange n a b = some (inR n a b) := by
  unfold impl_inRange inR
  by_cases h : a ≤ n
  · rw [ifT (by simpa using h), decide_eq_true h]
    rfl
  · rw [ifF (by simpa using h), decide_eq_false h]
    rfl
theorem inRangeS_eq (n a b : Int) : spec_l01In n a b = some (inR n a b) := by
  unfold spec_l01In inR
  by_cases h : a ≤ n
  · rw [ifT (by simpa using h), decide_eq_true h]
    rfl
  · rw [ifF (by simpa using h), decide_eq_false h]
    rfl
def okP (n : Int) : Bool := inR n 0 1000000000
def okC (c : T_impl_Change) : Bool := inR c.Kind 0 255 && (decide (c.Path.size ≤ 60000) && (decide (c.To.size ≤ 60000) && linesB c.Lines))
def okX (x : T_impl_Step) : Bool := (decide (x.Parents.length ≤ 4) && (decide (x.Changes.length ≤ 8) && decide (x.Note.size ≤ 60000))) && (x.Parents.all okP && x.Changes.all okC)
theorem numbersI_eq {l : List Int} (h : l.length ≤ 1000) : impl_numbersOk l = some (l.all okP) := by
  unfold impl_numbersOk
  have := loopM_all (body := fun s' => impl_numbersOk_l1 l s') (good := .inr ()) (bad := .inl false) (fun k => (k : Int)) l.length (fun k => (l[k]?.map okP).getD true) (fun k hk _ hp => by
    unfold impl_numbersOk_l1
    rw [List.getElem?_eq_getElem hk] at hp
    rw [ifT (by simpa using hk), geti_nat, List.getElem?_eq_getElem hk, Option.bind_some, inRangeI_eq, Option.bind_some, ifF (by simpa [okP] using hp), wkS k (by omega)]) (fun k hk _ hp => by
    unfold impl_numbersOk_l1
    rw [List.getElem?_eq_getElem hk] at hp
    rw [ifT (by simpa using hk), geti_nat, List.getElem?_eq_getElem hk, Option.bind_some, inRangeI_eq, Option.bind_some, ifT (by simpa [okP] using hp)]) (fun _ => by
    unfold impl_numbersOk_l1
    rw [ifF (by simp)])
  have e0 : ((0 : Nat) : Int) = 0 := rfl
  rw [e0] at this
  rw [this, all_range]
  cases l.all okP <;> rfl
theorem stepOkI_eq {x : T_impl_Step} : impl_stepOk x = some (okX x) := by
  unfold impl_stepOk okX
  by_cases q1 : x.Parents.length ≤ 4
  · rw [ifF (by simp; omega), numbersI_eq (by omega), decide_eq_true q1]
    simp only [Option.bind_some, Bool.true_and]
    cases hp : x.Parents.all okP with
    | false =>
      simp
    | true =>
      simp only [Bool.not_true, Bool.false_eq_true, if_false, Option.bind_some, Bool.true_and]
      by_cases q2 : x.Changes.length ≤ 8
      · have : decide ((x.Changes.length : Int) > 8) = false := by simp; omega
        rw [this, decide_eq_true q2]
        simp only [Bool.false_eq_true, if_false, Option.bind_some, Bool.true_and]
        by_cases q3 : x.Note.size ≤ 60000
        · rw [ifF (by simp; omega), decide_eq_true q3, Bool.true_and]
          have step : ∀ (k : Nat) (hk : k < x.Changes.length), impl_stepOk_l1 x (k : Int) = some (if okC x.Changes[k] = true then .inl ((k + 1 : Nat) : Int) else .inr (.inl false)) := fun k hk => by
            unfold impl_stepOk_l1
            rw [ifT (by simpa using hk), geti_nat, List.getElem?_eq_getElem hk, Option.bind_some, inRangeI_eq, Option.bind_some, linesI_eq, wkS k (by omega)]
            generalize x.Changes[k] = c
            unfold okC
            cases inR c.Kind 0 255 with
            | false => rfl
            | true =>
              by_cases p1 : c.Path.size ≤ 60000
              · have e1 : decide ((c.Path.size : Int) > 60000) = false := by simp; omega
                rw [decide_eq_true p1, e1]
                by_cases p2 : c.To.size ≤ 60000
                · have e2 : decide ((c.To.size : Int) > 60000) = false := by simp; omega
                  rw [decide_eq_true p2, e2]
                  cases linesB c.Lines <;> rfl
                · have e2 : decide ((c.To.size : Int) > 60000) = true := by simp; omega
                  rw [decide_eq_false p2, e2]
                  rfl
              · have e1 : decide ((c.Path.size : Int) > 60000) = true := by simp; omega
                rw [decide_eq_false p1, e1]
                rfl
          have := loopM_all (body := fun s' => impl_stepOk_l1 x s') (good := .inr ()) (bad := .inl false) (fun k => (k : Int)) x.Changes.length (fun k => (x.Changes[k]?.map okC).getD true) (fun k hk _ hp => by
            rw [List.getElem?_eq_getElem hk] at hp
            show impl_stepOk_l1 x k = _
            rw [step k hk, if_pos (by simpa using hp)]) (fun k hk _ hp => by
            rw [List.getElem?_eq_getElem hk] at hp
            show impl_stepOk_l1 x k = _
            rw [step k hk, if_neg (by simpa using hp)]) (fun _ => by
            unfold impl_stepOk_l1
            rw [ifF (by simp)])
          have e0 : ((0 : Nat) : Int) = 0 := rfl
          rw [e0] at this
          rw [this, all_range]
          cases x.Changes.all okC <;> rfl
        · rw [ifT (by simp; omega), decide_eq_false q3]
          rfl
      · have : decide ((x.Changes.length : Int) > 8) = true := by simp; omega
        rw [this, decide_eq_false q2]
        simp
  · rw [ifT (by simp; omega), decide_eq_false q1]
    rfl
/-! ### The text of a step -/
def chS (c : T_impl_Change) : ByteArray := mkS [wk .u8 c.Kind] ++ shS c.Path ++ shS c.To ++ encS c.Lines.length ++ cat (c.Lines.map shS)
def prS (l : List Int) : ByteArray := encS l.length ++ cat (l.map fun n => encS n.toNat)
def stS (x : T_impl_Step) : ByteArray := prS x.Parents ++ shS x.Note ++ encS x.Changes.length ++ cat (x.Changes.map chS)
theorem okC_parts {c : T_impl_Change} (h : okC c = true) : c.Path.size ≤ 60000 ∧ c.To.size ≤ 60000 ∧ c.Lines.length ≤ 80 ∧ ∀ s ∈ c.Lines, s.size ≤ 60 := by
  unfold okC linesB lineB at h
  simp only [Bool.and_eq_true, decide_eq_true_eq, List.all_eq_true] at h
  exact ⟨h.2.1, h.2.2.1, h.2.2.2.1, fun s hs => (h.2.2.2.2 s hs).1⟩
theorem cat_lines {l : List ByteArray} (h1 : l.length ≤ 80) (h2 : ∀ s ∈ l, s.size ≤ 60) : (cat (l.map shS)).size ≤ 80 * 65 := by
  have := cat_size (l := l.map shS) (M := 65) (fun x hx => by
    obtain ⟨s, hs, rfl⟩ := List.mem_map.1 hx
    have := shS_size (s := s) (by have := h2 s hs; omega)
    have := h2 s hs
    omega)
  rw [List.length_map] at this
  have := Nat.mul_le_mul_right 65 h1
  omega
theorem chS_size {c : T_impl_Change} (h : okC c = true) : (chS c).size ≤ 130000 := by
  obtain ⟨h1, h2, h3, h4⟩ := okC_parts h
  have a1 := shS_size (s := c.Path) (by omega)
  have a2 := shS_size (s := c.To) (by omega)
  have a3 := encS_size (n := c.Lines.length) (by omega)
  have a4 := cat_lines h3 h4
  unfold chS
  simp only [ByteArray.size_append, mkS_size, List.length_cons, List.length_nil]
  omega
theorem okP_parts {n : Int} (h : okP n = true) : 0 ≤ n ∧ n ≤ 1000000000 := by
  unfold okP inR at h
  simpa using h
theorem prS_size {l : List Int} (h1 : l.length ≤ 4) (h2 : l.all okP = true) : (prS l).size ≤ 25 := by
  rw [List.all_eq_true] at h2
  have := cat_size (l := l.map fun n => encS n.toNat) (M := 5) (fun x hx => by
    obtain ⟨s, hs, rfl⟩ := List.mem_map.1 hx
    have := okP_parts (h2 s hs)
    exact encS_size (by omega))
  rw [List.length_map] at this
  have a3 := encS_size (n := l.length) (by omega)
  unfold prS
  rw [ByteArray.size_append]
  omega
theorem okX_parts {x : T_impl_Step} (h : okX x = true) : x.Parents.length ≤ 4 ∧ x.Changes.length ≤ 8 ∧ x.Note.size ≤ 60000 ∧ x.Parents.all okP = true ∧ x.Changes.all okC = true := by
  unfold okX at h
  simp only [Bool.and_eq_true, decide_eq_true_eq] at h
  exact ⟨h.1.1, h.1.2.1, h.1.2.2, h.2.1, h.2.2⟩
theorem cat_ch {l : List T_impl_Change} (h1 : l.length ≤ 8) (h2 : l.all okC = true) : (cat (l.map chS)).size ≤ 8 * 130000 := by
  rw [List.all_eq_true] at h2
  have := cat_size (l := l.map chS) (M := 130000) (fun x hx => by
    obtain ⟨s, hs, rfl⟩ := List.mem_map.1 hx
    exact chS_size (h2 s hs))
  rw [List.length_map] at this
  exact Nat.le_trans this (Nat.mul_le_mul_right 130000 h1)
theorem stS_size {x : T_impl_Step} (h : okX x = true) : (stS x).size ≤ 1200000 := by
  obtain ⟨h1, h2, h3, h4, h5⟩ := okX_parts h
  have a1 := prS_size h1 h4
  have a2 := shS_size (s := x.Note) (by omega)
  have a3 := encS_size (n := x.Changes.length) (by omega)
  have a4 := cat_ch h2 h5
  unfold stS
  simp only [ByteArray.size_append]
  omega
theorem listTextI_eq {l : List Int} (h1 : l.length ≤ 4) (h2 : l.all okP = true) : impl_listText l = some (prS l) := by
  rw [List.all_eq_true] at h2
  have a3 := encS_size (n := l.length) (by omega)
  unfold impl_listText
  rw [varText_eq (by omega), Option.bind_some, wstr_in (by rw [e0size]; omega), Option.bind_some, empty_app]
  have := acc_loop (body := fun (s' : Int × ByteArray) => impl_listText_l1 l s'.1 s'.2) (l := l) (f := fun n => encS n.toNat) (M := 5) (b0 := encS l.length) (by omega) (fun n hn => by
    have := okP_parts (h2 n hn)
    exact encS_size (by omega)) (fun i n b hi hn hb => by
    have hlt := (List.getElem?_eq_some_iff.1 hi).1
    have hp := okP_parts (h2 n hn)
    have a5 := encS_size (n := n.toNat) (by omega)
    show impl_listText_l1 l i b = _
    unfold impl_listText_l1
    have e : n = ((n.toNat : Nat) : Int) := by omega
    rw [ifT (by simpa using hlt), geti_nat, hi, Option.bind_some]
    conv => lhs; rw [e]
    rw [varText_eq (by omega), Option.bind_some, wstr_in (by omega), Option.bind_some, wkS i (by omega)]) (fun b => by
    show impl_listText_l1 l l.length b = _
    unfold impl_listText_l1
    rw [ifF (by simp)])
  rw [this, Option.bind_some]
  rfl
theorem stepTextI_eq {x : T_impl_Step} (h : okX x = true) : impl_stepText x = some (stS x) := by
  obtain ⟨h1, h2, h3, h4, h5⟩ := okX_parts h
  have a1 := prS_size h1 h4
  have a2 := shS_size (s := x.Note) (by omega)
  have a3 := encS_size (n := x.Changes.length) (by omega)
  unfold impl_stepText
  rw [listTextI_eq h1 h4, Option.bind_some, shortI_eq (by omega), Option.bind_some, sapp_in (by omega), Option.bind_some, varText_eq (by omega), Option.bind_some, sapp_in (by rw [ByteArray.size_append]; omega), Option.bind_some, wstr_in (by simp only [ByteArray.size_append, e0size]; omega), Option.bind_some, empty_app]
  rw [List.all_eq_true] at h5
  have := acc_loop (body := fun (s' : Int × ByteArray) => impl_stepText_l1 x s'.1 s'.2) (l := x.Changes) (f := chS) (M := 130000) (b0 := prS x.Parents ++ shS x.Note ++ encS x.Changes.length) (by
    simp only [ByteArray.size_append]
    have := Nat.mul_le_mul_right 130000 h2
    omega) (fun c hc => chS_size (h5 c hc)) (fun i c b hi hc hb => by
    have hlt := (List.getElem?_eq_some_iff.1 hi).1
    have hsz := chS_size (h5 c hc)
    obtain ⟨g1, g2, g3, g4⟩ := okC_parts (h5 c hc)
    have b1 := shS_size (s := c.Path) (by omega)
    have b2 := shS_size (s := c.To) (by omega)
    have b3 := encS_size (n := c.Lines.length) (by omega)
    have b4 := cat_lines g3 g4
    show impl_stepText_l1 x i b = _
    unfold impl_stepText_l1
    rw [ifT (by simpa using hlt), geti_nat, hi, Option.bind_some, shortI_eq (by omega), Option.bind_some, sapp_in (by simp only [mkS_size, List.length_cons, List.length_nil]; omega), Option.bind_some, shortI_eq (by omega), Option.bind_some, sapp_in (by simp only [ByteArray.size_append, mkS_size, List.length_cons, List.length_nil]; omega), Option.bind_some, varText_eq (by omega), Option.bind_some, sapp_in (by simp only [ByteArray.size_append, mkS_size, List.length_cons, List.length_nil]; omega), Option.bind_some, wstr_in (by simp only [ByteArray.size_append, mkS_size, List.length_cons, List.length_nil]; omega), Option.bind_some]
    have := acc_loop (body := fun (s' : Int × ByteArray) => impl_stepText_l2 c s'.1 s'.2) (l := c.Lines) (f := shS) (M := 65) (b0 := b ++ (mkS [wk .u8 c.Kind] ++ shS c.Path ++ shS c.To ++ encS c.Lines.length)) (by
      simp only [ByteArray.size_append, mkS_size, List.length_cons, List.length_nil]
      have := Nat.mul_le_mul_right 65 g3
      omega) (fun s hs => by
      have := shS_size (s := s) (by have := g4 s hs; omega)
      have := g4 s hs
      omega) (fun j s b hj hs hb => by
      have hlt := (List.getElem?_eq_some_iff.1 hj).1
      have c1 := g4 s hs
      have c2 := shS_size (s := s) (by omega)
      show impl_stepText_l2 c j b = _
      unfold impl_stepText_l2
      rw [ifT (by simpa using hlt), geti_nat, hj, Option.bind_some, shortI_eq (by omega), Option.bind_some, wstr_in (by omega), Option.bind_some, wkS j (by omega)]) (fun b => by
      show impl_stepText_l2 c c.Lines.length b = _
      unfold impl_stepText_l2
      rw [ifF (by simp)])
    rw [this, Option.bind_some]
    unfold impl_stepText_j2
    rw [wkS i (by omega)]
    unfold chS
    simp only [app_assoc]) (fun b => by
    show impl_stepText_l1 x x.Changes.length b = _
    unfold impl_stepText_l1
    rw [ifF (by simp)])
  rw [this, Option.bind_some]
  rfl
/-- The whole text. -/
def totS (l : List T_impl_Step) : ByteArray := ByteArray.mk #[84, 66, 49] ++ encS l.length ++ cat (l.map stS)
def fail : ByteArray × Bool := (ByteArray.mk #[], false)
theorem sealed_eq {t : ByteArray} (ht : t.size ≤ 1000000000) : ∃ r, impl_Sealed t = some r ∧ spec_Sealed t = some r ∧ (60000 < t.size → r = fail) ∧ r.1.size ≤ 60004 := by
  unfold impl_Sealed spec_Sealed
  by_cases q : t.size ≤ 60000
  · rw [ifF (by simp; omega), ifF (by simp; omega)]
    obtain ⟨r, h1, h2, h3⟩ := sumOf_eq (text := t) (by omega)
    unfold impl_sumText
    rw [h1, h2]
    simp only [Option.bind_some]
    unfold spec_l02Four
    rw [Option.bind_some, sapp_in (by simp only [mkS_size, List.length_cons, List.length_nil]; omega)]
    refine ⟨_, rfl, rfl, by omega, ?_⟩
    simp only [ByteArray.size_append, mkS_size, List.length_cons, List.length_nil]
    omega
  · rw [ifT (by simp; omega), ifT (by simp; omega)]
    exact ⟨_, rfl, rfl, fun _ => rfl, by rw [e0size]; omega⟩
theorem bundleI_eq {l : List T_impl_Step} : impl_BundleText l = if decide (l.length ≤ 40) && l.all okX then impl_Sealed (totS l) else some fail := by
  unfold impl_BundleText
  by_cases q : l.length ≤ 40
  · have a3 := encS_size (n := l.length) (by omega)
    have a4 : (ByteArray.mk #[84, 66, 49]).size = 3 := rfl
    rw [ifF (by simp; omega), decide_eq_true q, Bool.true_and, varText_eq (by omega), Option.bind_some, sapp_in (by omega), Option.bind_some, wstr_in (by simp only [ByteArray.size_append, e0size]; omega), Option.bind_some, empty_app]
    have key := loopM_inv (f := fun (s' : Int × ByteArray) => impl_BundleText_l1 l s'.1 s'.2) (s := (0, ByteArray.mk #[84, 66, 49] ++ encS l.length)) (fun s => ∃ k : Nat, s = ((k : Int), ByteArray.mk #[84, 66, 49] ++ encS l.length ++ cat ((l.take k).map stS)) ∧ k ≤ l.length ∧ (l.take k).all okX = true) (fun s => l.length - s.1.toNat) (fun r => r = if l.all okX = true then .inr (totS l) else .inl fail) ⟨0, by simp [cat, app_empty], by omega, by simp⟩ (fun s hs => by
      obtain ⟨k, rfl, hk, hall⟩ := hs
      rcases Nat.lt_or_ge k l.length with hlt | hge
      · by_cases p : okX l[k] = true
        · left
          have hsz := stS_size p
          have hcat := cat_size (l := (l.take k).map stS) (M := 1200000) (fun x hx => by
            obtain ⟨s, hs, rfl⟩ := List.mem_map.1 hx
            exact stS_size (List.all_eq_true.1 hall s hs))
          rw [List.length_map, List.length_take, Nat.min_eq_left (by omega)] at hcat
          have : k * 1200000 ≤ 40 * 1200000 := Nat.mul_le_mul_right _ (by omega)
          refine ⟨(((k + 1 : Nat) : Int), ByteArray.mk #[84, 66, 49] ++ encS l.length ++ cat ((l.take (k + 1)).map stS)), ?_, ⟨k + 1, rfl, by omega, ?_⟩, by simp; omega⟩
          · show impl_BundleText_l1 l k _ = _
            unfold impl_BundleText_l1
            rw [ifT (by simpa using hlt), geti_nat, List.getElem?_eq_getElem hlt, Option.bind_some]
            have e : T_impl_Step.mk l[k].Parents l[k].Note l[k].Changes = l[k] := rfl
            rw [e, stepOkI_eq, p, Option.bind_some, ifF (by simp), stepTextI_eq p, Option.bind_some, wstr_in (by simp only [ByteArray.size_append]; omega), Option.bind_some, wkS k (by omega), cat_take hlt, app_assoc]
          · rw [List.take_add_one, List.getElem?_eq_getElem hlt, List.all_append, hall]
            simpa using p
        · right
          refine ⟨.inl fail, ?_, ?_⟩
          · show impl_BundleText_l1 l k _ = _
            unfold impl_BundleText_l1
            rw [ifT (by simpa using hlt), geti_nat, List.getElem?_eq_getElem hlt, Option.bind_some]
            have e : T_impl_Step.mk l[k].Parents l[k].Note l[k].Changes = l[k] := rfl
            rw [e, stepOkI_eq, Option.bind_some, ifT (by simpa using p)]
            rfl
          · rw [if_neg]
            intro hh
            exact p (List.all_eq_true.1 hh _ (List.getElem_mem hlt))
      · right
        have hk' : k = l.length := by omega
        subst hk'
        rw [List.take_length] at hall
        refine ⟨.inr (totS l), ?_, by rw [if_pos hall]⟩
        show impl_BundleText_l1 l l.length _ = _
        unfold impl_BundleText_l1
        rw [ifF (by simp), List.take_length]
        rfl)
    obtain ⟨r, hr, rfl⟩ := key
    rw [hr, Option.bind_some]
    by_cases p : l.all okX = true
    · rw [if_pos p, if_pos p]
      simp only [impl_BundleText_j1, strings_Builder_String, Option.bind_some]
      cases impl_Sealed (totS l) <;> rfl
    · rw [if_neg p, if_neg p]
  · rw [ifT (by simp; omega), decide_eq_false q]
    rfl
end Go.TV.F
/- Plain Lean: steps in bytes, the reference's side; the law. -/
namespace Go.TV.F
open Go.TV
def smC (c : T_impl_Change) : Prop := ∀ s ∈ c.Lines, s.size ≤ 1000000000
theorem changeOkS_eq {c : T_impl_Change} (h : smC c) : spec_l22ChangeOk c = some (okC c) := by
  unfold spec_l22ChangeOk okC
  rw [inRangeS_eq, Option.bind_some, linesS_eq h]
  cases inR c.Kind 0 255 with
  | false => rfl
  | true =>
    by_cases p1 : c.Path.size ≤ 60000
    · have e1 : decide ((c.Path.size : Int) ≤ 60000) = true := by simp; omega
      rw [decide_eq_true p1, e1]
      by_cases p2 : c.To.size ≤ 60000
      · have e2 : decide ((c.To.size : Int) ≤ 60000) = true := by simp; omega
        rw [decide_eq_true p2, e2]
        cases linesB c.Lines <;> rfl
      · have e2 : decide ((c.To.size : Int) ≤ 60000) = false := by simp; omega
        rw [decide_eq_false p2, e2]
        rfl
    · have e1 : decide ((c.Path.size : Int) ≤ 60000) = false := by simp; omega
      rw [decide_eq_false p1, e1]
      rfl
theorem linesLoop {c : T_impl_Change} {b0 : ByteArray} (hb : b0.size ≤ 300000000) (g3 : c.Lines.length ≤ 80) (g4 : ∀ s ∈ c.Lines, s.size ≤ 60) :
    loopM (fun (s' : ByteArray × Int) => spec_BundleText_l3 c s'.1 s'.2) (b0, 0) = some (b0 ++ cat (c.Lines.map shS)) :=
  acc_loop2 (body := fun (s' : ByteArray × Int) => spec_BundleText_l3 c s'.1 s'.2) (l := c.Lines) (f := shS) (M := 65) (b0 := b0) (by
    have := Nat.mul_le_mul_right 65 g3
    omega) (fun s hs => by
    have := shS_size (s := s) (by have := g4 s hs; omega)
    have := g4 s hs
    omega) (fun j s b hj hs hb => by
    have hlt := (List.getElem?_eq_some_iff.1 hj).1
    have c1 := g4 s hs
    have c2 := shS_size (s := s) (by omega)
    show spec_BundleText_l3 c b j = _
    unfold spec_BundleText_l3
    rw [ifT (by simpa using hlt), geti_nat, hj, Option.bind_some, shortS_eq (by omega), Option.bind_some, sapp_in (by omega), Option.bind_some, wkS j (by omega)]) (fun b => by
    show spec_BundleText_l3 c b c.Lines.length = _
    unfold spec_BundleText_l3
    rw [ifF (by simp)])
/-- The changes of a step. -/
def QC (l : List T_impl_Change) (b : ByteArray) (r : ((Int × (List Int)) ⊕ ((ByteArray × Bool) ⊕ ((List Int)))) ⊕ ((List Int))) : Prop :=
  (r = .inr (bytesL (b ++ cat (l.map chS))) ∧ l.all okC = true) ∨ (r = .inl (.inr (.inl fail)) ∧ (l.all okC = true → 60000 < (b ++ cat (l.map chS)).size))
theorem changesLoop {x : T_impl_Step} {b : ByteArray} (hb : b.size ≤ 300000) (h8 : x.Changes.length ≤ 8) (hsm : ∀ c ∈ x.Changes, smC c) :
    ∃ r, loopM (fun (s' : Int × (List Int)) => spec_BundleText_l2 x s'.1 s'.2) (0, bytesL b) = some r ∧ QC x.Changes b r := by
  refine loopM_inv (f := fun (s' : Int × (List Int)) => spec_BundleText_l2 x s'.1 s'.2) (fun s => ∃ k : Nat, s = ((k : Int), bytesL (b ++ cat ((x.Changes.take k).map chS))) ∧ k ≤ x.Changes.length ∧ (x.Changes.take k).all okC = true ∧ (b ++ cat ((x.Changes.take k).map chS)).size ≤ 300000) (fun s => x.Changes.length - s.1.toNat) (QC x.Changes b) ⟨0, by simp [cat, app_empty], by omega, by simp, by simpa [cat, app_empty] using hb⟩ (fun st hst => ?_)
  obtain ⟨k, rfl, hk, hall, hsz⟩ := hst
  rcases Nat.lt_or_ge k x.Changes.length with hlt | hge
  · have e : T_impl_Change.mk x.Changes[k].Kind x.Changes[k].Path x.Changes[k].To x.Changes[k].Lines = x.Changes[k] := rfl
    by_cases p : okC x.Changes[k] = true
    · have hcs := chS_size p
      obtain ⟨g1, g2, g3, g4⟩ := okC_parts p
      have b1 := shS_size (s := x.Changes[k].Path) (by omega)
      have b2 := shS_size (s := x.Changes[k].To) (by omega)
      have b3 := encS_size (n := x.Changes[k].Lines.length) (by omega)
      have b4 := cat_lines g3 g4
      have step : spec_BundleText_l2 x k (bytesL (b ++ cat ((x.Changes.take k).map chS))) = (if 60000 < (b ++ cat ((x.Changes.take (k + 1)).map chS)).size then some (.inr (.inl (.inr (.inl fail)))) else some (.inl (((k + 1 : Nat) : Int), bytesL (b ++ cat ((x.Changes.take (k + 1)).map chS))))) := by
        unfold spec_BundleText_l2
        rw [ifT (by simpa using hlt), geti_nat, List.getElem?_eq_getElem hlt, Option.bind_some, e, changeOkS_eq (hsm _ (List.getElem_mem hlt)), p, Option.bind_some, ifF (by simp)]
        rw [shortS_eq (by omega), Option.bind_some, sapp_in (by simp only [mkS_size, List.length_cons, List.length_nil]; omega), Option.bind_some, shortS_eq (by omega), Option.bind_some, sapp_in (by simp only [ByteArray.size_append, mkS_size, List.length_cons, List.length_nil]; omega), Option.bind_some, l01Var_eq (by omega), Option.bind_some, sapp_in (by simp only [ByteArray.size_append, mkS_size, List.length_cons, List.length_nil]; omega), Option.bind_some]
        rw [linesLoop (by simp only [ByteArray.size_append, mkS_size, List.length_cons, List.length_nil]; omega) g3 g4, Option.bind_some]
        have e2 : mkS [wk .u8 x.Changes[k].Kind] ++ shS x.Changes[k].Path ++ shS x.Changes[k].To ++ encS x.Changes[k].Lines.length ++ cat (x.Changes[k].Lines.map shS) = chS x.Changes[k] := rfl
        rw [e2]
        unfold spec_BundleText_j6
        rw [appn_in (by rw [bytesL_len, bytesL_len]; omega), Option.bind_some, ← bytesL_app, bytesL_len, cat_take hlt, ← app_assoc]
        by_cases q : 60000 < (b ++ cat ((x.Changes.take k).map chS) ++ chS x.Changes[k]).size
        · rw [ifT (decide_eq_true (by omega)), if_pos q]
          rfl
        · rw [ifF (decide_eq_false (by omega)), if_neg q]
          unfold spec_BundleText_j5
          rw [wkS k (by omega)]
      by_cases q : 60000 < (b ++ cat ((x.Changes.take (k + 1)).map chS)).size
      · right
        rw [if_pos q] at step
        refine ⟨_, step, .inr ⟨rfl, fun _ => ?_⟩⟩
        have := cat_take_le (l := x.Changes) (f := chS) (k + 1)
        rw [ByteArray.size_append] at q ⊢
        omega
      · left
        rw [if_neg q] at step
        refine ⟨_, step, ⟨k + 1, rfl, by omega, ?_, by omega⟩, by simp; omega⟩
        rw [List.take_add_one, List.getElem?_eq_getElem hlt, List.all_append, hall]
        simpa using p
    · right
      refine ⟨.inl (.inr (.inl fail)), ?_, .inr ⟨rfl, fun hh => absurd (List.all_eq_true.1 hh _ (List.getElem_mem hlt)) p⟩⟩
      show spec_BundleText_l2 x k _ = _
      unfold spec_BundleText_l2
      rw [ifT (by simpa using hlt), geti_nat, List.getElem?_eq_getElem hlt, Option.bind_some, e, changeOkS_eq (hsm _ (List.getElem_mem hlt)), Option.bind_some, ifT (by simpa using p)]
      rfl
  · right
    have hk' : k = x.Changes.length := by omega
    subst hk'
    rw [List.take_length] at hall hsz
    refine ⟨_, ?_, .inl ⟨rfl, hall⟩⟩
    show spec_BundleText_l2 x x.Changes.length _ = _
    unfold spec_BundleText_l2
    rw [ifF (by simp), List.take_length]
/-- The parents of a step. -/
theorem parentsLoop {x : T_impl_Step} (h4 : x.Parents.length ≤ 4) :
    loopM (fun (s' : ByteArray × Int) => spec_BundleText_l4 x s'.1 s'.2) (encS x.Parents.length, 0) = some (if x.Parents.all okP = true then .inr (prS x.Parents) else .inl (.inr (.inl fail))) := by
  have a3 := encS_size (n := x.Parents.length) (by omega)
  have key := loopM_inv (f := fun (s' : ByteArray × Int) => spec_BundleText_l4 x s'.1 s'.2) (s := (encS x.Parents.length, 0)) (fun s => ∃ k : Nat, s = (encS x.Parents.length ++ cat ((x.Parents.take k).map fun n => encS n.toNat), (k : Int)) ∧ k ≤ x.Parents.length ∧ (x.Parents.take k).all okP = true) (fun s => x.Parents.length - s.2.toNat) (fun r => r = if x.Parents.all okP = true then .inr (prS x.Parents) else .inl (.inr (.inl fail))) ⟨0, by simp [cat, app_empty], by omega, by simp⟩ (fun s hs => by
    obtain ⟨k, rfl, hk, hall⟩ := hs
    rcases Nat.lt_or_ge k x.Parents.length with hlt | hge
    · by_cases p : okP x.Parents[k] = true
      · left
        have hp := okP_parts p
        have a5 := encS_size (n := x.Parents[k].toNat) (by omega)
        have hcat := cat_size (l := (x.Parents.take k).map fun n => encS n.toNat) (M := 5) (fun y hy => by
          obtain ⟨s, hs, rfl⟩ := List.mem_map.1 hy
          have := okP_parts (List.all_eq_true.1 hall s hs)
          exact encS_size (by omega))
        rw [List.length_map, List.length_take, Nat.min_eq_left (by omega)] at hcat
        refine ⟨_, ?_, ⟨k + 1, rfl, by omega, ?_⟩, by simp; omega⟩
        · show spec_BundleText_l4 x _ k = _
          unfold spec_BundleText_l4
          rw [ifT (by simpa using hlt), geti_nat, List.getElem?_eq_getElem hlt, Option.bind_some, inRangeS_eq, Option.bind_some, ifF (by simpa [okP] using p)]
          have e : x.Parents[k] = ((x.Parents[k].toNat : Nat) : Int) := by omega
          rw [cat_take hlt]
          generalize x.Parents[k] = n at *
          conv => lhs; rw [e]
          rw [l01Var_eq (by omega), Option.bind_some, sapp_in (by simp only [ByteArray.size_append]; omega), Option.bind_some, wkS k (by omega), app_assoc]
        · rw [List.take_add_one, List.getElem?_eq_getElem hlt, List.all_append, hall]
          simpa using p
      · right
        refine ⟨.inl (.inr (.inl fail)), ?_, ?_⟩
        · show spec_BundleText_l4 x _ k = _
          unfold spec_BundleText_l4
          rw [ifT (by simpa using hlt), geti_nat, List.getElem?_eq_getElem hlt, Option.bind_some, inRangeS_eq, Option.bind_some, ifT (by simpa [okP] using p)]
          rfl
        · rw [if_neg]
          intro hh
          exact p (List.all_eq_true.1 hh _ (List.getElem_mem hlt))
    · right
      have hk' : k = x.Parents.length := by omega
      subst hk'
      rw [List.take_length] at hall
      refine ⟨_, ?_, by rw [if_pos hall]⟩
      show spec_BundleText_l4 x _ x.Parents.length = _
      unfold spec_BundleText_l4
      rw [ifF (by simp), List.take_length]
      rfl)
  obtain ⟨r, hr, rfl⟩ := key
  exact hr
def QX (l : List T_impl_Step) (b : ByteArray) (r : (ByteArray × Bool) ⊕ (List Int)) : Prop :=
  (r = .inr (bytesL (b ++ cat (l.map stS))) ∧ l.all okX = true) ∨ (r = .inl fail ∧ (l.all okX = true → 60000 < (b ++ cat (l.map stS)).size))
theorem stepsLoop {l : List T_impl_Step} {b : ByteArray} (hb : b.size ≤ 60000) (h40 : l.length ≤ 40) (hsm : ∀ x ∈ l, ∀ c ∈ x.Changes, smC c) :
    ∃ r, loopM (fun (s' : Int × (List Int)) => spec_BundleText_l1 l s'.1 s'.2) (0, bytesL b) = some r ∧ QX l b r := by
  refine loopM_inv (f := fun (s' : Int × (List Int)) => spec_BundleText_l1 l s'.1 s'.2) (fun s => ∃ k : Nat, s = ((k : Int), bytesL (b ++ cat ((l.take k).map stS))) ∧ k ≤ l.length ∧ (l.take k).all okX = true ∧ (b ++ cat ((l.take k).map stS)).size ≤ 60000) (fun s => l.length - s.1.toNat) (QX l b) ⟨0, by simp [cat, app_empty], by omega, by simp, by simpa [cat, app_empty] using hb⟩ (fun st hst => ?_)
  obtain ⟨k, rfl, hk, hall, hsz⟩ := hst
  rcases Nat.lt_or_ge k l.length with hlt | hge
  · have bad : ∀ p : ¬ okX l[k] = true, QX l b (.inl fail) := fun p => .inr ⟨rfl, fun hh => absurd (List.all_eq_true.1 hh _ (List.getElem_mem hlt)) p⟩
    by_cases q0 : l[k].Parents.length ≤ 4 ∧ l[k].Changes.length ≤ 8 ∧ l[k].Note.size ≤ 60000
    · have head : spec_BundleText_l1 l k (bytesL (b ++ cat ((l.take k).map stS))) = ((some (if l[k].Parents.all okP = true then .inr (prS l[k].Parents) else .inl (.inr (.inl fail))) : Option (((Int × (List Int)) ⊕ ((ByteArray × Bool) ⊕ ((List Int)))) ⊕ ByteArray)).bind fun p_3 => (match p_3 with | .inl c' => some c' | .inr q_1 => spec_BundleText_j3 k (bytesL (b ++ cat ((l.take k).map stS))) l[k] q_1)) := by
        unfold spec_BundleText_l1
        rw [ifT (by simpa using hlt), geti_nat, List.getElem?_eq_getElem hlt, Option.bind_some, ifF (by simp; omega)]
        have e2 : decide ((l[k].Changes.length : Int) > 8) = false := by simp; omega
        have e3 : decide ((l[k].Note.size : Int) > 60000) = false := by simp; omega
        rw [e2, Option.bind_some, ifF (by simp), e3, Option.bind_some, ifF (by simp), l01Var_eq (by omega), Option.bind_some, parentsLoop q0.1]
        rfl
      by_cases qp : l[k].Parents.all okP = true
      · rw [if_pos qp, Option.bind_some] at head
        have a1 := prS_size q0.1 qp
        have a2 := shS_size (s := l[k].Note) (by omega)
        have a3 := encS_size (n := l[k].Changes.length) (by omega)
        obtain ⟨r, hr, hq⟩ := changesLoop (x := l[k]) (b := b ++ cat ((l.take k).map stS) ++ (prS l[k].Parents ++ shS l[k].Note ++ encS l[k].Changes.length)) (by rw [ByteArray.size_append, ByteArray.size_append (b := encS _), ByteArray.size_append (b := shS _)]; omega) q0.2.1 (hsm _ (List.getElem_mem hlt))
        have body : spec_BundleText_l1 l k (bytesL (b ++ cat ((l.take k).map stS))) = (some r).bind (fun p_1 => match p_1 with | .inl c' => some c' | .inr q => spec_BundleText_j4 k q) := by
          rw [head]
          show spec_BundleText_j3 k _ l[k] _ = _
          unfold spec_BundleText_j3
          rw [shortS_eq (by omega), Option.bind_some, sapp_in (by omega), Option.bind_some, l01Var_eq (by omega), Option.bind_some, sapp_in (by rw [ByteArray.size_append]; omega), Option.bind_some, appn_in (by rw [bytesL_len, bytesL_len, ByteArray.size_append (b := encS _), ByteArray.size_append (b := shS _)]; omega), Option.bind_some, ← bytesL_app]
          exact (congrArg (fun z : Option (((Int × (List Int)) ⊕ ((ByteArray × Bool) ⊕ ((List Int)))) ⊕ ((List Int))) => z.bind _) hr)
        have hst : b ++ cat ((l.take k).map stS) ++ (prS l[k].Parents ++ shS l[k].Note ++ encS l[k].Changes.length) ++ cat (l[k].Changes.map chS) = b ++ cat ((l.take (k + 1)).map stS) := by
          rw [cat_take hlt, app_assoc, ← app_assoc b]
          rfl
        unfold QC at hq
        rw [hst] at hq
        have hle : (b ++ cat ((l.take (k + 1)).map stS)).size ≤ (b ++ cat (l.map stS)).size := by
          have := cat_take_le (l := l) (f := stS) (k + 1)
          rw [ByteArray.size_append, ByteArray.size_append]
          omega
        have hokx : l[k].Changes.all okC = true → okX l[k] = true := fun hc => by
          unfold okX
          simp [q0, hc, qp]
        rcases hq with ⟨rfl, hc⟩ | ⟨rfl, hc⟩
        · by_cases q : 60000 < (b ++ cat ((l.take (k + 1)).map stS)).size
          · right
            refine ⟨.inl fail, ?_, .inr ⟨rfl, fun _ => by omega⟩⟩
            show spec_BundleText_l1 l k _ = _
            rw [body]
            show spec_BundleText_j4 k _ = _
            unfold spec_BundleText_j4
            rw [bytesL_len, ifT (decide_eq_true (by omega))]
            rfl
          · left
            refine ⟨_, ?_, ⟨k + 1, rfl, by omega, ?_, by omega⟩, by simp; omega⟩
            · show spec_BundleText_l1 l k _ = _
              rw [body]
              show spec_BundleText_j4 k _ = _
              unfold spec_BundleText_j4
              rw [bytesL_len, ifF (decide_eq_false (by omega))]
              unfold spec_BundleText_j2
              rw [wkS k (by omega)]
            · rw [List.take_add_one, List.getElem?_eq_getElem hlt, List.all_append, hall]
              simpa using hokx hc
        · right
          refine ⟨.inl fail, ?_, .inr ⟨rfl, fun hh => ?_⟩⟩
          · show spec_BundleText_l1 l k _ = _
            rw [body]
            rfl
          · have := hc (okX_parts (List.all_eq_true.1 hh _ (List.getElem_mem hlt))).2.2.2.2
            omega
      · right
        rw [if_neg qp, Option.bind_some] at head
        exact ⟨_, head, bad fun p => qp (okX_parts p).2.2.2.1⟩
    · right
      refine ⟨.inl fail, ?_, bad fun p => q0 ⟨(okX_parts p).1, (okX_parts p).2.1, (okX_parts p).2.2.1⟩⟩
      show spec_BundleText_l1 l k _ = _
      unfold spec_BundleText_l1
      rw [ifT (by simpa using hlt), geti_nat, List.getElem?_eq_getElem hlt, Option.bind_some]
      by_cases p1 : l[k].Parents.length ≤ 4
      · rw [ifF (by simp; omega), Option.bind_some]
        by_cases p2 : l[k].Changes.length ≤ 8
        · have e2 : decide ((l[k].Changes.length : Int) > 8) = false := by simp; omega
          have e3 : decide ((l[k].Note.size : Int) > 60000) = true := by simp; omega
          rw [e2, ifF (by simp), e3, Option.bind_some, ifT (by simp)]
          rfl
        · have e2 : decide ((l[k].Changes.length : Int) > 8) = true := by simp; omega
          rw [e2, ifT (by simp), Option.bind_some, ifT (by simp)]
          rfl
      · rw [ifT (by simp; omega), Option.bind_some, ifT (by simp), Option.bind_some, ifT (by simp)]
        rfl
  · right
    have hk' : k = l.length := by omega
    subst hk'
    rw [List.take_length] at hall hsz
    refine ⟨_, ?_, .inl ⟨rfl, hall⟩⟩
    show spec_BundleText_l1 l l.length _ = _
    unfold spec_BundleText_l1
    rw [ifF (by simp), List.take_length]
theorem cat_st {l : List T_impl_Step} (h1 : l.length ≤ 40) (h2 : l.all okX = true) : (totS l).size ≤ 60000000 := by
  rw [List.all_eq_true] at h2
  have := cat_size (l := l.map stS) (M := 1200000) (fun x hx => by
    obtain ⟨s, hs, rfl⟩ := List.mem_map.1 hx
    exact stS_size (h2 s hs))
  rw [List.length_map] at this
  have a3 := encS_size (n := l.length) (by omega)
  have a4 : (ByteArray.mk #[84, 66, 49]).size = 3 := rfl
  have := Nat.mul_le_mul_right 1200000 h1
  unfold totS
  rw [ByteArray.size_append, ByteArray.size_append]
  omega
theorem bundle_eq {l : List T_impl_Step} (hsm : ∀ x ∈ l, ∀ c ∈ x.Changes, smC c) : ∃ r, impl_BundleText l = some r ∧ spec_BundleText l = some r ∧ r.1.size ≤ 60004 := by
  rw [bundleI_eq]
  unfold spec_BundleText
  by_cases q : l.length ≤ 40
  · have a3 := encS_size (n := l.length) (by omega)
    have a4 : (ByteArray.mk #[84, 66, 49]).size = 3 := rfl
    rw [decide_eq_true q, Bool.true_and, ifF (b := decide ((l.length : Int) > 40)) (by simp; omega), l01Var_eq (by omega), Option.bind_some, sapp_in (by omega), Option.bind_some]
    obtain ⟨r, hr, hq⟩ := stepsLoop (b := ByteArray.mk #[84, 66, 49] ++ encS l.length) (by rw [ByteArray.size_append]; omega) q hsm
    rw [hr, Option.bind_some]
    rcases hq with ⟨rfl, hc⟩ | ⟨rfl, hc⟩
    · rw [if_pos hc]
      have hz := cat_st q hc
      obtain ⟨r, h1, h2, h3, h4⟩ := sealed_eq (t := totS l) (by omega)
      refine ⟨r, h1, ?_, h4⟩
      show spec_BundleText_j1 _ = _
      unfold spec_BundleText_j1
      rw [mkS_bytesL]
      have e : ByteArray.mk #[84, 66, 49] ++ encS l.length ++ cat (l.map stS) = totS l := rfl
      rw [e, h2]
      rfl
    · by_cases p : l.all okX = true
      · rw [if_pos p]
        have hz := cat_st q p
        obtain ⟨r, h1, h2, h3, h4⟩ := sealed_eq (t := totS l) (by omega)
        have := h3 (hc p)
        subst this
        exact ⟨fail, h1, rfl, h4⟩
      · rw [if_neg p]
        exact ⟨fail, rfl, rfl, by show (ByteArray.mk #[]).size ≤ _; rw [e0size]; omega⟩
  · rw [decide_eq_false q, ifT (b := decide ((l.length : Int) > 40)) (by simp; omega)]
    exact ⟨fail, rfl, rfl, by show (ByteArray.mk #[]).size ≤ _; rw [e0size]; omega⟩
end Go.TV.F
/- Plain Lean: ReadBundle is the reference's. -/
namespace Go.TV.F
open Go.TV
theorem iter_conj {σ τ ρ : Type} {f : τ → Option (τ ⊕ ρ)} {g : σ → Option (σ ⊕ ρ)} (φ : σ → τ) (h : ∀ s, f (φ s) = (g s).map (Sum.map φ id)) : ∀ (n : Nat) (s : σ), iter f n (φ s) = iter g n s
  | 0, _ => rfl
  | n + 1, s => by
    simp only [iter]
    rw [h s]
    cases g s with
    | none => rfl
    | some r =>
      cases r with
      | inl s' => exact iter_conj φ h n s'
      | inr r => rfl
theorem loopM_conj {σ τ ρ : Type} {f : τ → Option (τ ⊕ ρ)} {g : σ → Option (σ ⊕ ρ)} (φ : σ → τ) (h : ∀ s, f (φ s) = (g s).map (Sum.map φ id)) (s : σ) : loopM f (φ s) = loopM g s := by
  apply Option.ext
  intro r
  rw [loopM_iff, loopM_iff]
  constructor
  · rintro ⟨n, h1⟩
    exact ⟨n, by rw [← iter_conj φ h n s]; exact h1⟩
  · rintro ⟨n, h1⟩
    exact ⟨n, by rw [iter_conj φ h n s]; exact h1⟩
theorem nb_cat : ∀ l : List ByteArray, nb (cat l) = (l.map nb).flatten
  | [] => rfl
  | s :: l => by rw [cat, nb_append, nb_cat l]; rfl
theorem nb_shS (s : ByteArray) : nb (shS s) = encL s.size ++ nb s := by
  unfold shS
  rw [nb_append, nb_encS]
theorem flat_map_nb {α : Type} (l : List α) (f : α → ByteArray) : ((l.map f).map nb).flatten = (l.map fun x => nb (f x)).flatten := by rw [List.map_map]; rfl
theorem nb_byte {b : Nat} (h : b < 256) : nb (mkS [(b : Int)]) = [b] := by
  have := nb_mkS (l := [b]) (fun x hx => by simp at hx; omega)
  exact this
/-- Numbers, with the reference's own loop. -/
theorem numbersB_sim {text : ByteArray} (ht : text.size ≤ 60000) {s : T_impl_scanner} {c : T_spec_l08Cur} (h : Sim text s c) : ∃ (n : Nat) (l l' : List Int) (s' : T_impl_scanner) (c1 c' : T_spec_l08Cur), impl_scanner_numbers s 4 = some (l, s') ∧ spec_l08Var c 4 = some ((n : Int), c1) ∧
    loopM (fun (s' : Int × ByteArray × Int × Bool × (List Int)) => spec_ReadBundle_l4 ((n : Int), c1) s'.1 s'.2.1 s'.2.2.1 s'.2.2.2.1 s'.2.2.2.2) (0, c1.text, c1.at_, c1.bad, []) = some (c'.text, c'.at_, c'.bad, l') ∧ Sim text s' c' ∧
    (s'.bad = false → l = l' ∧ s.bad = false ∧ l.length ≤ 4 ∧ (∀ x ∈ l, 0 ≤ x) ∧ Rd text s s' (encL l.length ++ (l.map fun x => encL x.toNat).flatten)) := by
  unfold impl_scanner_numbers
  obtain ⟨n, s1, c1, h1, h2, h3, h4, h5⟩ := count_sim ht h (most := 4) (by omega)
  have e4 : ((4 : Nat) : Int) = 4 := rfl
  rw [e4] at h1 h2
  rw [show T_impl_scanner.mk s.text s.at_ s.bad = s from rfl, h1, h2]
  simp only [Option.bind_some]
  obtain ⟨s', l, c', l', g1, g2, g3, _, _, g4⟩ := items_sim (text := text) (I := impl_scanner_number) (G := fun c => spec_l08Var c 1000000000) (fun x : Int => encL x.toNat) (fun x => 0 ≤ x) (fun _ => True) (n := n)
    (f := fun (s' : Int × ByteArray × Int × Bool × (List Int)) => impl_scanner_numbers_l1 ((n : Int), s1) s'.1 s'.2.1 s'.2.2.1 s'.2.2.2.1 s'.2.2.2.2)
    (g := fun (s' : Int × ByteArray × Int × Bool × (List Int)) => spec_ReadBundle_l4 ((n : Int), c1) s'.1 s'.2.1 s'.2.2.1 s'.2.2.2.1 s'.2.2.2.2)
    (fun s c hs => by
      obtain ⟨x, s', c', q1, q2, q3, q4, q5⟩ := number_sim ht hs
      exact ⟨_, s', _, c', q1, q2, q3, trivial, fun hb => ⟨rfl, by omega, (q5 hb).1, by simpa using (q5 hb).2⟩⟩)
    (fun k t a b out hk ho => by
      simp only [impl_scanner_numbers_l1]
      rw [ifT (by simpa using hk)]
      congr 1
      funext r
      rw [appn_in (by simp; omega), Option.bind_some, wkS k (by omega)])
    (fun t a b out => by
      simp only [impl_scanner_numbers_l1]
      rw [ifF (by simp)])
    (fun k t a out hk ho => by
      simp only [spec_ReadBundle_l4]
      rw [ifT (by simpa using hk)]
      simp only [Option.bind_some, Bool.not_false, if_true]
      congr 1
      funext r
      rw [appn_in (by simp; omega), Option.bind_some, wkS k (by omega)])
    (fun k t a out hk => by
      simp only [spec_ReadBundle_l4]
      by_cases q : k < n
      · rw [ifT (by simpa using q)]
        simp only [Option.bind_some, Bool.not_true, Bool.false_eq_true, if_false]
      · rw [ifF (by simpa using q)]
        simp only [Option.bind_some, Bool.false_eq_true, if_false])
    (fun t a b out => by
      simp only [spec_ReadBundle_l4]
      rw [ifF (by simp)]
      simp only [Option.bind_some, Bool.false_eq_true, if_false])
    h3
  rw [g1]
  simp only [Option.bind_some, impl_scanner_numbers_j1]
  refine ⟨n, l, l', s', c1, c', rfl, rfl, g2, g3, fun hb => ?_⟩
  obtain ⟨k1, k2, k3, k4, k5⟩ := g4 hb
  exact ⟨k1, (h5 k2).1, by omega, k4, by rw [k3]; exact (h5 k2).2.trans k5⟩
/-- The lines of a change. -/
theorem linesB_sim {text : ByteArray} (ht : text.size ≤ 60000) {s : T_impl_scanner} {c : T_spec_l08Cur} (h : Sim text s c) : ∃ (n : Nat) (l l' : List ByteArray) (s1 s' : T_impl_scanner) (c1 c' : T_spec_l08Cur), impl_scanner_count s 80 = some ((n : Int), s1) ∧ spec_l08Var c 80 = some ((n : Int), c1) ∧
    loopM (fun (s' : Int × ByteArray × Int × Bool × (List ByteArray)) => impl_scanner_change_l1 ((n : Int), s1) s'.1 s'.2.1 s'.2.2.1 s'.2.2.2.1 s'.2.2.2.2) (0, s1.text, s1.at_, s1.bad, []) = some (s'.text, s'.at_, s'.bad, l) ∧
    loopM (fun (s' : Int × ByteArray × Int × Bool × (List ByteArray)) => spec_ReadBundle_l3 s'.1 s'.2.1 s'.2.2.1 s'.2.2.2.1 s'.2.2.2.2) ((n : Int), c1.text, c1.at_, c1.bad, []) = some (c'.text, c'.at_, c'.bad, l') ∧ Sim text s' c' ∧ l'.length ≤ 80 ∧ (∀ x ∈ l', x.size ≤ 60000) ∧
    (s'.bad = false → l = l' ∧ s.bad = false ∧ Rd text s s' (encL l.length ++ (l.map fun x => encL x.size ++ nb x).flatten)) := by
  obtain ⟨n, s1, c1, h1, h2, h3, h4, h5⟩ := count_sim ht h (most := 80) (by omega)
  have e4 : ((80 : Nat) : Int) = 80 := rfl
  rw [e4] at h1 h2
  have hg : ∀ st : Int × ByteArray × Int × Bool × (List ByteArray), (fun (s' : Int × ByteArray × Int × Bool × (List ByteArray)) => spec_ReadBundle_l3 s'.1 s'.2.1 s'.2.2.1 s'.2.2.2.1 s'.2.2.2.2) ((fun s : Int × ByteArray × Int × Bool × (List ByteArray) => ((n : Int) - s.1, s.2)) st) = (((fun (s' : Int × ByteArray × Int × Bool × (List ByteArray)) => spec_ReadBundle_l3 s'.1 s'.2.1 s'.2.2.1 s'.2.2.2.1 s'.2.2.2.2) ((n : Int) - st.1, st.2)).map (Sum.map (fun s : Int × ByteArray × Int × Bool × (List ByteArray) => ((n : Int) - s.1, s.2)) id)).map (Sum.map (fun s : Int × ByteArray × Int × Bool × (List ByteArray) => ((n : Int) - s.1, s.2)) id) := fun st => by
    rw [Option.map_map]
    have : (Sum.map (fun s : Int × ByteArray × Int × Bool × (List ByteArray) => ((n : Int) - s.1, s.2)) id ∘ Sum.map (fun s : Int × ByteArray × Int × Bool × (List ByteArray) => ((n : Int) - s.1, s.2)) (id : (ByteArray × Int × Bool × (List ByteArray)) → _)) = id := by
      funext r
      cases r with
      | inl x =>
        obtain ⟨x1, x2⟩ := x
        simp only [Function.comp, Sum.map_inl, id]
        congr 2
        omega
      | inr x => rfl
    rw [this, Option.map_id]
    rfl
  have hconj := loopM_conj (f := fun (s' : Int × ByteArray × Int × Bool × (List ByteArray)) => spec_ReadBundle_l3 s'.1 s'.2.1 s'.2.2.1 s'.2.2.2.1 s'.2.2.2.2) (φ := fun s : Int × ByteArray × Int × Bool × (List ByteArray) => ((n : Int) - s.1, s.2)) (g := fun st : Int × ByteArray × Int × Bool × (List ByteArray) => ((fun (s' : Int × ByteArray × Int × Bool × (List ByteArray)) => spec_ReadBundle_l3 s'.1 s'.2.1 s'.2.2.1 s'.2.2.2.1 s'.2.2.2.2) ((n : Int) - st.1, st.2)).map (Sum.map (fun s : Int × ByteArray × Int × Bool × (List ByteArray) => ((n : Int) - s.1, s.2)) id)) hg (0, c1.text, c1.at_, c1.bad, [])
  simp only [Int.sub_zero] at hconj
  obtain ⟨s', l, c', l', g1, g2, g3, g5, g6, g4⟩ := items_sim (text := text) (I := impl_scanner_short) (G := spec_l08Short) (fun x : ByteArray => encL x.size ++ nb x) (fun _ => True) (fun x => x.size ≤ 60000) (n := n)
    (f := fun (s' : Int × ByteArray × Int × Bool × (List ByteArray)) => impl_scanner_change_l1 ((n : Int), s1) s'.1 s'.2.1 s'.2.2.1 s'.2.2.2.1 s'.2.2.2.2)
    (g := fun st : Int × ByteArray × Int × Bool × (List ByteArray) => ((fun (s' : Int × ByteArray × Int × Bool × (List ByteArray)) => spec_ReadBundle_l3 s'.1 s'.2.1 s'.2.2.1 s'.2.2.2.1 s'.2.2.2.2) ((n : Int) - st.1, st.2)).map (Sum.map (fun s : Int × ByteArray × Int × Bool × (List ByteArray) => ((n : Int) - s.1, s.2)) id))
    (fun s c hs => by
      obtain ⟨x, s', c', g1, g2, g3, g4, g5⟩ := short_sim ht hs
      exact ⟨x, s', x, c', g1, g2, g3, g4, fun hb => ⟨rfl, trivial, (g5 hb).1, (g5 hb).2⟩⟩)
    (fun k t a b out hk ho => by
      simp only [impl_scanner_change_l1]
      rw [ifT (by simpa using hk)]
      congr 1
      funext r
      rw [appn_in (by simp; omega), Option.bind_some, wkS k (by omega)])
    (fun t a b out => by
      simp only [impl_scanner_change_l1]
      rw [ifF (by simp)])
    (fun k t a out hk ho => by
      simp only [spec_ReadBundle_l3]
      rw [ifT (decide_eq_true (by omega))]
      simp only [Option.bind_some, Bool.not_false, if_true]
      cases spec_l08Short ⟨t, a, false⟩ with
      | none => rfl
      | some x =>
        simp only [Option.bind_some]
        rw [appn_in (by simp; omega), Option.bind_some, wk64 (by omega) (by omega)]
        simp only [Option.map_some, Sum.map_inl]
        congr 3
        omega)
    (fun k t a out hk => by
      simp only [spec_ReadBundle_l3]
      by_cases q : k < n
      · rw [ifT (decide_eq_true (by omega))]
        simp only [Option.bind_some, Bool.not_true, Bool.false_eq_true, if_false]
        rfl
      · rw [ifF (decide_eq_false (by omega))]
        simp only [Option.bind_some, Bool.false_eq_true, if_false]
        rfl)
    (fun t a b out => by
      simp only [spec_ReadBundle_l3]
      rw [ifF (by simp)]
      simp only [Option.bind_some, Bool.false_eq_true, if_false]
      rfl)
    h3
  refine ⟨n, l, l', s1, s', c1, c', h1, h2, g1, hconj.trans g2, g3, by omega, g6, fun hb => ?_⟩
  obtain ⟨k1, k2, k3, k4, k5⟩ := g4 hb
  exact ⟨k1, (h5 k2).1, by rw [k3]; exact (h5 k2).2.trans k5⟩
/-- The reference's reading of a change. -/
noncomputable def specChange (c : T_spec_l08Cur) : Option (T_impl_Change × T_spec_l08Cur) :=
  (spec_l08Take c 1).bind fun x87 => (if (!x87.2.bad) = true then (sidx x87.1 0).bind fun x94 => some (wk .i64 x94) else some 0).bind fun y => (spec_l08Short (T_spec_l08Cur.mk x87.2.text x87.2.at_ x87.2.bad)).bind fun x98 => (spec_l08Short (T_spec_l08Cur.mk x98.2.text x98.2.at_ x98.2.bad)).bind fun x101 => (spec_l08Var (T_spec_l08Cur.mk x101.2.text x101.2.at_ x101.2.bad) 80).bind fun x104 => (loopM (fun (s' : Int × ByteArray × Int × Bool × (List ByteArray)) => spec_ReadBundle_l3 s'.1 s'.2.1 s'.2.2.1 s'.2.2.2.1 s'.2.2.2.2) (x104.1, x104.2.text, x104.2.at_, x104.2.bad, [])).bind fun p_2 =>
    some (T_impl_Change.mk y x98.1 x101.1 p_2.2.2.2, ⟨p_2.1, p_2.2.1, p_2.2.2.1⟩)
def smB (c : T_impl_Change) : Prop := c.Lines.length ≤ 80 ∧ ∀ x ∈ c.Lines, x.size ≤ 60000
theorem octet_sim {text : ByteArray} (ht : text.size ≤ 60000) {s : T_impl_scanner} {c : T_spec_l08Cur} (h : Sim text s c) : ∃ (b : Nat) (t : ByteArray) (s' : T_impl_scanner) (c' : T_spec_l08Cur), impl_scanner_octet s = some ((b : Int), s') ∧ spec_l08Take c 1 = some (t, c') ∧ (if (!c'.bad) = true then (sidx t 0).bind fun x94 => some (wk .i64 x94) else some 0) = some (b : Int) ∧ b < 256 ∧ Sim text s' c' ∧
    (s'.bad = false → s.bad = false ∧ Rd text s s' [b]) := by
  obtain ⟨t, s', c', h1, h2, h3, h4, h5, h6, h7⟩ := take_sim ht h (n := 1) (by omega)
  have e1 : ((1 : Nat) : Int) = 1 := rfl
  rw [e1] at h1 h2
  unfold impl_scanner_octet
  rw [show T_impl_scanner.mk s.text s.at_ s.bad = s from rfl, h1]
  simp only [Option.bind_some]
  have n0 : nb (ByteArray.mk #[]) = [] := rfl
  by_cases q : s'.bad = true
  · skip
    have hcb : c'.bad = true := by rw [← h3.bad, q]
    have ht0 : t = ByteArray.mk #[] := by
      obtain ⟨a, b, q1, q2, q3, q4, q5⟩ := h.at_
      by_cases hr : 1 + a ≤ text.size
      · cases hs : s.bad with
        | true => exact h5 hs
        | false =>
          have := (h6 a q1 hr hs).1
          rw [q] at this
          cases this
      · exact (h7 a q1 hr).1
    subst ht0
    refine ⟨0, _, s', c', ?_, h2, ?_, by omega, h3, fun h => by rw [q] at h; cases h⟩
    · rw [ifT (by simp)]
      rfl
    · rw [hcb]
      rfl
  · have q : s'.bad = false := by simpa using q
    have hcb : c'.bad = false := by rw [← h3.bad, q]
    obtain ⟨k1, k2, k3⟩ := h4 q
    obtain ⟨b, g1, g2, g3⟩ := sidx_nb (s := t) (k := 0) (by omega)
    have e0 : ((0 : Nat) : Int) = 0 := rfl
    rw [e0] at g1
    have hnb : nb t = [b] := by
      have hl := nb_len t
      rw [k2] at hl
      match hn : nb t, hl with
      | [x], _ =>
        rw [hn] at g2
        simp at g2
        rw [g2]
    refine ⟨b, t, s', c', ?_, h2, ?_, g3, h3, fun _ => ⟨k1, hnb ▸ k3⟩⟩
    · rw [ifF (by rw [beq_nb, n0, hnb]; simp), g1]
      simp only [Option.bind_some]
      rw [wk64 (by omega) (by omega)]
    · rw [hcb]
      simp only [Bool.not_false, if_true, g1, Option.bind_some]
      rw [wk64 (by omega) (by omega)]
theorem change_sim {text : ByteArray} (ht : text.size ≤ 60000) {s : T_impl_scanner} {c : T_spec_l08Cur} (h : Sim text s c) : ∃ x s' y c', impl_scanner_change s = some (x, s') ∧ specChange c = some (y, c') ∧ Sim text s' c' ∧ smB y ∧ (s'.bad = false → x = y ∧ True ∧ s.bad = false ∧ Rd text s s' (nb (chS x))) := by
  obtain ⟨b, t, s1, c1, h1, h2, h3, h4, h5, h6⟩ := octet_sim ht h
  obtain ⟨p, s2, c2, g1, g2, g3, g4, g5⟩ := short_sim ht h5
  obtain ⟨q, s3, c3, k1, k2, k3, k4, k5⟩ := short_sim ht g3
  obtain ⟨n, l, l', s4, s5, c4, c5, m1, m2, m3, m4, m5, m6, m7, m8⟩ := linesB_sim ht k3
  have hi : impl_scanner_change s = some (⟨b, p, q, l⟩, s5) := by
    unfold impl_scanner_change
    rw [show T_impl_scanner.mk s.text s.at_ s.bad = s from rfl, h1]
    simp only [Option.bind_some, g1, k1, m1, m3, impl_scanner_change_j1]
  have hs : specChange c = some (⟨b, p, q, l'⟩, c5) := by
    unfold specChange
    rw [h2]
    simp only [Option.bind_some, h3, g2, k2, m2, m4]
  refine ⟨_, _, _, _, hi, hs, m5, ⟨m6, m7⟩, fun hb => ?_⟩
  obtain ⟨r1, r2, r3⟩ := m8 hb
  obtain ⟨q1, q2⟩ := k5 r2
  obtain ⟨p1, p2⟩ := g5 q1
  obtain ⟨o1, o2⟩ := h6 p1
  subst r1
  refine ⟨rfl, trivial, o1, ?_⟩
  have := ((o2.trans p2).trans q2).trans r3
  have e : nb (chS ⟨(b : Int), p, q, l⟩) = [b] ++ (encL p.size ++ nb p) ++ (encL q.size ++ nb q) ++ (encL l.length ++ (l.map fun x => encL x.size ++ nb x).flatten) := by
    unfold chS
    simp only [nb_append, nb_shS, nb_encS, nb_cat, flat_map_nb]
    rw [wku8 (by omega) (by omega), nb_byte h4]
    simp only [List.append_assoc]
  rw [e]
  exact this
end Go.TV.F
/- Plain Lean: ReadBundle is the reference's, whole. -/
namespace Go.TV.F
open Go.TV
def smP (x : T_impl_Step) : Prop := x.Changes.length ≤ 8 ∧ ∀ c ∈ x.Changes, smB c
/-- The changes of a step. -/
theorem changes_sim {text : ByteArray} (ht : text.size ≤ 60000) {s : T_impl_scanner} {c : T_spec_l08Cur} (h : Sim text s c) : ∃ (n : Nat) (l l' : List T_impl_Change) (s1 s' : T_impl_scanner) (c1 c' : T_spec_l08Cur), impl_scanner_count s 8 = some ((n : Int), s1) ∧ spec_l08Var c 8 = some ((n : Int), c1) ∧
    loopM (fun (s' : Int × ByteArray × Int × Bool × (List T_impl_Change)) => impl_ReadBundle_l2 ((n : Int), s1) s'.1 s'.2.1 s'.2.2.1 s'.2.2.2.1 s'.2.2.2.2) (0, s1.text, s1.at_, s1.bad, []) = some (s'.text, s'.at_, s'.bad, l) ∧
    loopM (fun (s' : Int × ByteArray × Int × Bool × (List T_impl_Change)) => spec_ReadBundle_l2 ((n : Int), c1) s'.1 s'.2.1 s'.2.2.1 s'.2.2.2.1 s'.2.2.2.2) (0, c1.text, c1.at_, c1.bad, []) = some (c'.text, c'.at_, c'.bad, l') ∧ Sim text s' c' ∧ l'.length ≤ 8 ∧ (∀ x ∈ l', smB x) ∧
    (s'.bad = false → l = l' ∧ s.bad = false ∧ Rd text s s' (encL l.length ++ (l.map fun x => nb (chS x)).flatten)) := by
  obtain ⟨n, s1, c1, h1, h2, h3, h4, h5⟩ := count_sim ht h (most := 8) (by omega)
  have e4 : ((8 : Nat) : Int) = 8 := rfl
  rw [e4] at h1 h2
  obtain ⟨s', l, c', l', g1, g2, g3, g5, g6, g4⟩ := items_sim (text := text) (I := impl_scanner_change) (G := specChange) (fun x => nb (chS x)) (fun _ => True) smB (n := n)
    (f := fun (s' : Int × ByteArray × Int × Bool × (List T_impl_Change)) => impl_ReadBundle_l2 ((n : Int), s1) s'.1 s'.2.1 s'.2.2.1 s'.2.2.2.1 s'.2.2.2.2)
    (g := fun (s' : Int × ByteArray × Int × Bool × (List T_impl_Change)) => spec_ReadBundle_l2 ((n : Int), c1) s'.1 s'.2.1 s'.2.2.1 s'.2.2.2.1 s'.2.2.2.2)
    (fun s c hs => change_sim ht hs)
    (fun k t a b out hk ho => by
      simp only [impl_ReadBundle_l2]
      rw [ifT (by simpa using hk)]
      congr 1
      funext r
      rw [appn_in (by simp; omega), Option.bind_some, wkS k (by omega)])
    (fun t a b out => by
      simp only [impl_ReadBundle_l2]
      rw [ifF (by simp)])
    (fun k t a out hk ho => by
      simp only [spec_ReadBundle_l2]
      rw [ifT (by simpa using hk)]
      simp only [Option.bind_some, Bool.not_false, if_true, specChange, spec_ReadBundle_j6, spec_ReadBundle_j7, spec_ReadBundle_j5]
      cases spec_l08Take ⟨t, a, false⟩ 1 with
      | none => rfl
      | some x =>
        simp only [Option.bind_some]
        have tail : ∀ y : Int, ((spec_l08Short ⟨x.2.text, x.2.at_, x.2.bad⟩).bind fun x98 => (spec_l08Short (T_spec_l08Cur.mk x98.2.text x98.2.at_ x98.2.bad)).bind fun x101 => (spec_l08Var (T_spec_l08Cur.mk x101.2.text x101.2.at_ x101.2.bad) 80).bind fun x104 => (loopM (fun (s' : Int × ByteArray × Int × Bool × (List ByteArray)) => spec_ReadBundle_l3 s'.1 s'.2.1 s'.2.2.1 s'.2.2.2.1 s'.2.2.2.2) (x104.1, x104.2.text, x104.2.at_, x104.2.bad, [])).bind fun p_2 => (appn out [(T_impl_Change.mk y x98.1 x101.1 p_2.2.2.2)]).bind fun l_1 => (some (.inl ((wk .i64 ((k : Int) + 1)), p_2.1, p_2.2.1, p_2.2.2.1, l_1)) : Option ((Int × ByteArray × Int × Bool × (List T_impl_Change)) ⊕ (ByteArray × Int × Bool × (List T_impl_Change))))) = ((spec_l08Short ⟨x.2.text, x.2.at_, x.2.bad⟩).bind fun x98 => (spec_l08Short (T_spec_l08Cur.mk x98.2.text x98.2.at_ x98.2.bad)).bind fun x101 => (spec_l08Var (T_spec_l08Cur.mk x101.2.text x101.2.at_ x101.2.bad) 80).bind fun x104 => (loopM (fun (s' : Int × ByteArray × Int × Bool × (List ByteArray)) => spec_ReadBundle_l3 s'.1 s'.2.1 s'.2.2.1 s'.2.2.2.1 s'.2.2.2.2) (x104.1, x104.2.text, x104.2.at_, x104.2.bad, [])).bind fun p_2 => some (T_impl_Change.mk y x98.1 x101.1 p_2.2.2.2, (⟨p_2.1, p_2.2.1, p_2.2.2.1⟩ : T_spec_l08Cur))).bind fun r => some (.inl (((k + 1 : Nat) : Int), r.2.text, r.2.at_, r.2.bad, out ++ [r.1])) := fun y => by
          cases spec_l08Short ⟨x.2.text, x.2.at_, x.2.bad⟩ with
          | none => rfl
          | some x1 =>
            simp only [Option.bind_some]
            cases spec_l08Short ⟨x1.2.text, x1.2.at_, x1.2.bad⟩ with
            | none => rfl
            | some x2 =>
              simp only [Option.bind_some]
              cases spec_l08Var ⟨x2.2.text, x2.2.at_, x2.2.bad⟩ 80 with
              | none => rfl
              | some x3 =>
                simp only [Option.bind_some]
                cases loopM (fun (s' : Int × ByteArray × Int × Bool × (List ByteArray)) => spec_ReadBundle_l3 s'.1 s'.2.1 s'.2.2.1 s'.2.2.2.1 s'.2.2.2.2) (x3.1, x3.2.text, x3.2.at_, x3.2.bad, []) with
                | none => rfl
                | some x4 =>
                  simp only [Option.bind_some]
                  rw [appn_in (by simp; omega), Option.bind_some, wkS k (by omega)]
        by_cases qb : (!x.2.bad) = true
        · simp only [qb, if_true]
          cases sidx x.1 0 with
          | none => rfl
          | some z =>
            simp only [Option.bind_some]
            exact tail _
        · simp only [qb, if_false, Option.bind_some]
          exact tail 0)
    (fun k t a out hk => by
      simp only [spec_ReadBundle_l2]
      by_cases q : k < n
      · rw [ifT (by simpa using q)]
        simp only [Option.bind_some, Bool.not_true, Bool.false_eq_true, if_false]
      · rw [ifF (by simpa using q)]
        simp only [Option.bind_some, Bool.false_eq_true, if_false])
    (fun t a b out => by
      simp only [spec_ReadBundle_l2]
      rw [ifF (by simp)]
      simp only [Option.bind_some, Bool.false_eq_true, if_false])
    h3
  refine ⟨n, l, l', s1, s', c1, c', h1, h2, g1, g2, g3, by omega, g6, fun hb => ?_⟩
  obtain ⟨k1, k2, k3, k4, k5⟩ := g4 hb
  exact ⟨k1, (h5 k2).1, by rw [k3]; exact (h5 k2).2.trans k5⟩
/-- The reference's reading of a step, and the program's. -/
noncomputable def specStep (c : T_spec_l08Cur) : Option (T_impl_Step × T_spec_l08Cur) :=
  (spec_l08Var c 4).bind fun x48 => (loopM (fun (s' : Int × ByteArray × Int × Bool × (List Int)) => spec_ReadBundle_l4 x48 s'.1 s'.2.1 s'.2.2.1 s'.2.2.2.1 s'.2.2.2.2) (0, x48.2.text, x48.2.at_, x48.2.bad, [])).bind fun p_3 => (spec_l08Short (T_spec_l08Cur.mk p_3.1 p_3.2.1 p_3.2.2.1)).bind fun x69 => (spec_l08Var (T_spec_l08Cur.mk x69.2.text x69.2.at_ x69.2.bad) 8).bind fun x72 => (loopM (fun (s' : Int × ByteArray × Int × Bool × (List T_impl_Change)) => spec_ReadBundle_l2 x72 s'.1 s'.2.1 s'.2.2.1 s'.2.2.2.1 s'.2.2.2.2) (0, x72.2.text, x72.2.at_, x72.2.bad, [])).bind fun p_1 =>
    some (T_impl_Step.mk p_3.2.2.2 x69.1 p_1.2.2.2, ⟨p_1.1, p_1.2.1, p_1.2.2.1⟩)
noncomputable def implStep (s : T_impl_scanner) : Option (T_impl_Step × T_impl_scanner) :=
  (impl_scanner_numbers s 4).bind fun x23 => (impl_scanner_short (T_impl_scanner.mk x23.2.text x23.2.at_ x23.2.bad)).bind fun x25 => (impl_scanner_count (T_impl_scanner.mk x25.2.text x25.2.at_ x25.2.bad) 8).bind fun x27 => (loopM (fun (s' : Int × ByteArray × Int × Bool × (List T_impl_Change)) => impl_ReadBundle_l2 x27 s'.1 s'.2.1 s'.2.2.1 s'.2.2.2.1 s'.2.2.2.2) (0, x27.2.text, x27.2.at_, x27.2.bad, [])).bind fun p_1 =>
    some (T_impl_Step.mk x23.1 x25.1 p_1.2.2.2, ⟨p_1.1, p_1.2.1, p_1.2.2.1⟩)
theorem step_sim {text : ByteArray} (ht : text.size ≤ 60000) {s : T_impl_scanner} {c : T_spec_l08Cur} (h : Sim text s c) : ∃ x s' y c', implStep s = some (x, s') ∧ specStep c = some (y, c') ∧ Sim text s' c' ∧ smP y ∧ (s'.bad = false → x = y ∧ True ∧ s.bad = false ∧ Rd text s s' (nb (stS x))) := by
  obtain ⟨n, l, l', s1, c1, c2, h1, h2, h3, h4, h5⟩ := numbersB_sim ht h
  obtain ⟨t, s2, c3, g1, g2, g3, g4, g5⟩ := short_sim ht h4
  obtain ⟨m, cl, cl', s3, s4, c4, c5, k1, k2, k3, k4, k5, k6, k7, k8⟩ := changes_sim ht g3
  have hi : implStep s = some (⟨l, t, cl⟩, s4) := by
    unfold implStep
    rw [h1]
    simp only [Option.bind_some, g1, k1, k3]
  have hs : specStep c = some (⟨l', t, cl'⟩, c5) := by
    unfold specStep
    rw [h2]
    simp only [Option.bind_some, h3, g2, k2, k4]
  refine ⟨_, _, _, _, hi, hs, k5, ⟨k6, k7⟩, fun hb => ?_⟩
  obtain ⟨r1, r2, r4⟩ := k8 hb
  obtain ⟨q1, q2⟩ := g5 r2
  obtain ⟨p1, p2, p3, p0, p4⟩ := h5 q1
  subst r1 p1
  refine ⟨rfl, trivial, p2, ?_⟩
  have := (p4.trans q2).trans r4
  have e : nb (stS ⟨l, t, cl⟩) = (encL l.length ++ (l.map fun x => encL x.toNat).flatten) ++ (encL t.size ++ nb t) ++ (encL cl.length ++ (cl.map fun x => nb (chS x)).flatten) := by
    unfold stS prS
    simp only [nb_append, nb_shS, nb_encS, nb_cat, flat_map_nb]
    simp only [List.append_assoc]
  rw [e]
  exact this
theorem steps_run {t : ByteArray} (h3 : t.size ≤ 60000) {s1 : T_impl_scanner} {c : T_spec_l08Cur} (hc : Sim t s1 c) : ∃ (n : Nat) (s2 s' : T_impl_scanner) (c2 c' : T_spec_l08Cur) (l l' : List T_impl_Step), impl_scanner_count s1 40 = some ((n : Int), s2) ∧ spec_l08Var c 40 = some ((n : Int), c2) ∧
      loopM (fun (s' : Int × ByteArray × Int × Bool × (List T_impl_Step)) => impl_ReadBundle_l1 ((n : Int), s2) s'.1 s'.2.1 s'.2.2.1 s'.2.2.2.1 s'.2.2.2.2) (0, s2.text, s2.at_, s2.bad, []) = some (s'.text, s'.at_, s'.bad, l) ∧
      loopM (fun (s' : Int × ByteArray × Int × Bool × (List T_impl_Step)) => spec_ReadBundle_l1 ((n : Int), c2) s'.1 s'.2.1 s'.2.2.1 s'.2.2.2.1 s'.2.2.2.2) (0, c2.text, c2.at_, c2.bad, []) = some (c'.text, c'.at_, c'.bad, l') ∧ (∃ c3, Sim t s' c3) ∧ l'.length ≤ 40 ∧ (∀ y ∈ l', smP y) ∧
      (s'.bad = false → Sim t s' c' ∧ l = l' ∧ s1.bad = false ∧ (∀ x ∈ l, okX x = true) ∧ Rd t s1 s' (encL l.length ++ (l.map fun x => nb (stS x)).flatten)) ∧ (s'.bad = true → c'.bad = true ∨ ∃ y ∈ l', okX y = false) := by
  obtain ⟨n, s2, c2, k1, k2, k3, k4, k5⟩ := count_sim h3 hc (most := 40) (by omega)
  have e4 : ((40 : Nat) : Int) = 40 := rfl
  rw [e4] at k1 k2
  obtain ⟨s', l, c', l', q1, q2, q3, q5, q6, q7, q8⟩ := items_simC (text := t) (I := implStep) (G := specStep) (fun x => nb (stS x)) (fun _ => True) smP okX (n := n)
    (f := fun (s' : Int × ByteArray × Int × Bool × (List T_impl_Step)) => impl_ReadBundle_l1 ((n : Int), s2) s'.1 s'.2.1 s'.2.2.1 s'.2.2.2.1 s'.2.2.2.2)
    (g := fun (s' : Int × ByteArray × Int × Bool × (List T_impl_Step)) => spec_ReadBundle_l1 ((n : Int), c2) s'.1 s'.2.1 s'.2.2.1 s'.2.2.2.1 s'.2.2.2.2)
    (fun s c hs => step_sim h3 hs)
    (fun k t a b out hk ho x s' hI _ => by
      unfold implStep at hI
      simp only [impl_ReadBundle_l1]
      rw [ifT (by simpa using hk)]
      obtain ⟨x1, e1, hI⟩ := Option.bind_eq_some_iff.1 hI
      obtain ⟨x2, e2, hI⟩ := Option.bind_eq_some_iff.1 hI
      obtain ⟨x3, e3, hI⟩ := Option.bind_eq_some_iff.1 hI
      obtain ⟨x4, e4, hI⟩ := Option.bind_eq_some_iff.1 hI
      injection hI with hI
      injection hI with hI1 hI2
      subst hI1 hI2
      simp only [e1, e2, e3, e4, Option.bind_some, impl_ReadBundle_j3, impl_ReadBundle_j2, stepOkI_eq, orO]
      rw [appn_in (by simp; omega), Option.bind_some, wkS k (by omega)])
    (fun t a b out => by
      simp only [impl_ReadBundle_l1]
      rw [ifF (by simp)])
    (fun k t a out hk ho => by
      simp only [spec_ReadBundle_l1]
      rw [ifT (by simpa using hk)]
      simp only [Option.bind_some, Bool.not_false, if_true, spec_ReadBundle_j3, spec_ReadBundle_j4, spec_ReadBundle_j2, specStep]
      cases spec_l08Var ⟨t, a, false⟩ 4 with
      | none => rfl
      | some x =>
        simp only [Option.bind_some]
        cases loopM (fun (s' : Int × ByteArray × Int × Bool × (List Int)) => spec_ReadBundle_l4 x s'.1 s'.2.1 s'.2.2.1 s'.2.2.2.1 s'.2.2.2.2) (0, x.2.text, x.2.at_, x.2.bad, []) with
        | none => rfl
        | some y =>
          simp only [Option.bind_some]
          cases spec_l08Short ⟨y.1, y.2.1, y.2.2.1⟩ with
          | none => rfl
          | some z =>
            simp only [Option.bind_some]
            cases spec_l08Var ⟨z.2.text, z.2.at_, z.2.bad⟩ 8 with
            | none => rfl
            | some v =>
              simp only [Option.bind_some]
              cases loopM (fun (s' : Int × ByteArray × Int × Bool × (List T_impl_Change)) => spec_ReadBundle_l2 v s'.1 s'.2.1 s'.2.2.1 s'.2.2.2.1 s'.2.2.2.2) (0, v.2.text, v.2.at_, v.2.bad, []) with
              | none => rfl
              | some r =>
                simp only [Option.bind_some]
                rw [appn_in (by simp; omega), Option.bind_some, wkS k (by omega)])
    (fun k t a out hk => by
      simp only [spec_ReadBundle_l1]
      by_cases q : k < n
      · rw [ifT (by simpa using q)]
        simp only [Option.bind_some, Bool.not_true, Bool.false_eq_true, if_false]
      · rw [ifF (by simpa using q)]
        simp only [Option.bind_some, Bool.false_eq_true, if_false])
    (fun t a b out => by
      simp only [spec_ReadBundle_l1]
      rw [ifF (by simp)]
      simp only [Option.bind_some, Bool.false_eq_true, if_false])
    k3
  refine ⟨n, s2, s', c2, c', l, l', k1, k2, q1, q2, q3, by omega, q6, fun hb => ?_, q8⟩
  obtain ⟨p0, p1, p2, p3, p4, p5⟩ := q7 hb
  exact ⟨p0, p1, (k5 p2).1, fun x hx => (p4 x hx).2, by rw [p3]; exact (k5 p2).2.trans p5⟩
theorem totS_nb (l : List T_impl_Step) : nb (totS l) = nb (ByteArray.mk #[84, 66, 49]) ++ (encL l.length ++ (l.map fun x => nb (stS x)).flatten) := by
  unfold totS
  simp only [nb_append, nb_encS, nb_cat, flat_map_nb, List.append_assoc]
theorem smC_of {x : T_impl_Step} (h : smP x) : ∀ c ∈ x.Changes, smC c := fun c hc s hs => by
  have := (h.2 c hc).2 s hs
  omega
/-- What the reference's BundleText answers, read. -/
theorem bundle_back {l : List T_impl_Step} (hsm : ∀ x ∈ l, smP x) {r : ByteArray × Bool} (h : spec_BundleText l = some r) (hr : r.2 = true) : l.all okX = true ∧ spec_Sealed (totS l) = some r := by
  obtain ⟨r', h1, h2, h3⟩ := bundle_eq (l := l) (fun x hx => smC_of (hsm x hx))
  rw [h] at h2
  injection h2 with h2
  subst h2
  rw [bundleI_eq] at h1
  by_cases q : (decide (l.length ≤ 40) && l.all okX) = true
  · rw [if_pos q] at h1
    rw [Bool.and_eq_true, decide_eq_true_eq] at q
    refine ⟨q.2, ?_⟩
    obtain ⟨r2, g1, g2, g3, g4⟩ := sealed_eq (t := totS l) (by have := cat_st q.1 q.2; omega)
    rw [h1] at g1
    injection g1 with g1
    rw [g1]
    exact g2
  · rw [if_neg q] at h1
    injection h1 with h1
    rw [← h1] at hr
    cases hr
theorem readBundle_eq {text : ByteArray} (ht : text.size ≤ 1000000000) : ∃ l ok, impl_ReadBundle text = some (l, ok) ∧ spec_ReadBundle text = some (l, ok) ∧ l.length ≤ 40 ∧ (∀ x ∈ l, okX x = true) := by
  obtain ⟨t, ok, h1, h2, h3, h4, h5⟩ := unsealed2 ht
  unfold impl_ReadBundle spec_ReadBundle
  rw [h1, h2]
  simp only [Option.bind_some]
  have hs : Sim t ⟨t, 0, !ok⟩ ⟨t, 0, !ok⟩ := ⟨rfl, rfl, rfl, 0, 0, rfl, rfl, by omega, by omega, fun _ => rfl⟩
  obtain ⟨s1, u, c1, g1, g2, ⟨c1', g3⟩, g4, g5⟩ := mark_sim h3 hs (ByteArray.mk #[84, 66, 49]) (by decide) (by decide)
  have g2' : spec_l08Take ⟨t, 0, !ok⟩ 3 = some (u, c1) := g2
  rw [g1, g2']
  simp only [Option.bind_some]
  have htotal : ∀ l : List T_impl_Step, (∀ x ∈ l, smP x) → ∃ r, spec_BundleText l = some r := fun l hl => by
    obtain ⟨r, _, h2, _⟩ := bundle_eq (l := l) (fun x hx => smC_of (hl x hx))
    exact ⟨r, h2⟩
  cases q : !(u.toList == (ByteArray.mk #[84, 66, 49]).toList) with
  | true =>
    obtain ⟨n, s2, s', c2, c', l, l', k1, k2, k3, k4, k5, k7, k8, k6, k9⟩ := steps_run h3 g3
    have hb : s'.bad = true := by
      cases r : s'.bad with
      | true => rfl
      | false =>
        have := (k6 r).2.2.1
        rw [g5 q] at this
        cases this
    obtain ⟨tk, sk, ck, y1, y2, y3, y4, y5, y6, y7⟩ := take_sim h3 hs (n := 3) (by omega)
    have y2' : spec_l08Take ⟨t, 0, !ok⟩ 3 = some (tk, ck) := y2
    rw [g2'] at y2'
    injection y2' with y2'
    injection y2' with e1 e2
    subst e1 e2
    obtain ⟨n2, t2, t', d2, d', m, m', z1, z2, z3, z4, z5, z7, z8, z6, z9⟩ := steps_run h3 y3
    obtain ⟨r, w1⟩ := htotal m' z8
    simp only [k1, Option.bind_some, k3, impl_ReadBundle_j1, impl_scanner_done, hb, Bool.not_true, Bool.false_eq_true, if_false, Bool.not_false, if_true, z2, z4, spec_ReadBundle_j1, w1, orO]
    refine ⟨[], false, rfl, ?_, by simp, fun x hx => by cases hx⟩
    cases eb : d'.bad with
    | true => simp only [Bool.true_or, if_true]
    | false =>
      cases er2 : r.2 with
      | false => simp only [Bool.not_false, Bool.or_true, Bool.true_or, if_true]
      | true =>
        simp only [Bool.not_true, Bool.false_or]
        cases ee : (!(r.1.toList == text.toList)) with
        | true => simp only [if_true]
        | false =>
          exfalso
          rw [beq_nb] at ee
          have er : r.1 = text := nb_inj (by simpa using ee)
          obtain ⟨o1, o2⟩ := bundle_back z8 w1 er2
          have er' : r = (text, true) := Prod.ext er er2
          rw [er'] at o2
          obtain ⟨p1, p2⟩ := h5 _ o2
          subst p2
          have hst : t'.bad = false := by
            cases hq : t'.bad with
            | false => rfl
            | true =>
              rcases z9 hq with h | ⟨y, hy, h⟩
              · rw [eb] at h; cases h
              · have := List.all_eq_true.1 o1 y hy
                rw [h] at this
                cases this
          obtain ⟨_, _, x2, _⟩ := z6 hst
          obtain ⟨_, x4, a, b', x5, x6, x7, x8, x9⟩ := y4 x2
          have hnt := congrArg nb p1
          rw [totS_nb] at hnt
          have hsz : 3 ≤ t.size := by
            have := congrArg List.length hnt
            rw [List.length_append, nb_len, nb_len] at this
            have e3 : (ByteArray.mk #[84, 66, 49]).size = 3 := rfl
            omega
          have := y6 0 rfl (by omega) (by rfl)
          rw [beq_nb] at q
          have hne : ¬ nb u = nb (ByteArray.mk #[84, 66, 49]) := by simpa using q
          apply hne
          rw [this.2.2, nb_extract, ← hnt]
          rfl
  | false =>
    obtain ⟨n, s2, s', c2, c', l, l', k1, k2, k3, k4, k5, k7, k8, k6, k9⟩ := steps_run h3 (g4 q).1
    obtain ⟨r, w1⟩ := htotal l' k8
    simp only [k1, k2, Option.bind_some, k3, k4, impl_ReadBundle_j1, spec_ReadBundle_j1, impl_scanner_done, w1, orO]
    cases rb : s'.bad with
    | true =>
      simp only [Bool.not_true, Bool.false_eq_true, if_false, Option.bind_some, Bool.not_false, if_true]
      refine ⟨[], false, rfl, ?_, by simp, fun x hx => by cases hx⟩
      rcases k9 rb with h | ⟨y, hy, h⟩
      · rw [h]
        simp only [Bool.true_or, if_true]
      · cases er2 : r.2 with
        | false => simp only [Bool.not_false, Bool.or_true, Bool.true_or, if_true]
        | true =>
          have := List.all_eq_true.1 (bundle_back k8 w1 er2).1 y hy
          rw [h] at this
          cases this
    | false =>
      obtain ⟨p0, rfl, p2, pk, p3⟩ := k6 rb
      have hcb : c'.bad = false := by rw [← p0.bad, rb]
      obtain ⟨p4, p5⟩ := (g4 q).2 p2
      have hok : ok = true := by simpa using p4
      subst hok
      obtain ⟨a, b', z1, z2, z3, z4, z5⟩ := (p5.trans p3)
      have ha0 : a = 0 := by simp only at z1; omega
      subst ha0
      have hst := p0.st
      rw [← totS_nb] at z5
      have hlen : (totS l).size = b' := by
        rw [← nb_len, ← z5]
        unfold seg
        rw [List.length_take, List.length_drop, nb_len]
        omega
      have hallX : l.all okX = true := List.all_eq_true.2 pk
      simp only [hcb, Bool.not_false, if_true, Option.bind_some, Bool.false_or, z2, hst]
      by_cases e : b' = t.size
      · have et : totS l = t := by
          apply nb_inj
          rw [← z5, e, seg_all]
        have d1 : ((b' : Int) == (t.size : Int)) = true := by simp [e]
        rw [d1]
        simp only [Bool.not_true, Bool.false_eq_true, if_false]
        have hr : r = (text, true) := by
          obtain ⟨r', v1, v2, v3⟩ := bundle_eq (l := l) (fun x hx => smC_of (k8 x hx))
          rw [w1] at v2
          injection v2 with v2
          subst v2
          rw [bundleI_eq, if_pos (by rw [hallX, decide_eq_true k7]; rfl), et] at v1
          obtain ⟨r2, j1, j2, j3, j4⟩ := sealed_eq (t := t) (by omega)
          rw [v1] at j1
          injection j1 with j1
          rw [← j1, h4 rfl] at j2
          injection j2 with j2
          exact j2.symm
        subst hr
        simp only [Bool.not_true, Bool.false_or, beq_self_eq_true, Bool.false_eq_true, if_false]
        exact ⟨_, _, rfl, rfl, k7, pk⟩
      · have d1 : ((b' : Int) == (t.size : Int)) = false := by simp; omega
        rw [d1]
        simp only [Bool.not_false, if_true]
        refine ⟨[], false, rfl, ?_, by simp, fun x hx => by cases hx⟩
        cases er2 : r.2 with
        | false => simp only [Bool.not_false, Bool.true_or, if_true]
        | true =>
          cases ee : (!(r.1.toList == text.toList)) with
          | true => simp only [Bool.or_true, if_true]
          | false =>
            exfalso
            rw [beq_nb] at ee
            have er : r.1 = text := nb_inj (by simpa using ee)
            obtain ⟨o1, o2⟩ := bundle_back k8 w1 er2
            have er' : r = (text, true) := Prod.ext er er2
            rw [er'] at o2
            have := (h5 _ o2).1
            apply e
            rw [← hlen, this]
end Go.TV.F
/- Plain Lean: how large things are, copies, compares, marks. Written by a program. -/
namespace Go.TV.F
open Go.TV
theorem markText_total {k : Nat} (h : k ≤ 1000000000) : ∃ t, laws_markText (k : Int) = some t := by
  unfold laws_markText
  by_cases q : k = 0
  · subst q
    exact ⟨_, rfl⟩
  rw [ifF (by simp; omega)]
  obtain ⟨r, h1, h2⟩ := loopK1 (f := fun (s' : Int × ByteArray) => laws_markText_l1 s'.1 s'.2) (fun s => ∃ n : Nat, s.1 = n ∧ n + s.2.size ≤ 1000000000) (fun s => s.1.toNat) (fun r => r.size ≤ 1000000000)
    (s := ((k : Int), ByteArray.mk #[])) ⟨k, rfl, h⟩ (fun s hs => by
    obtain ⟨n, h1, h2⟩ := hs
    obtain ⟨x, out⟩ := s
    simp only at h1 h2 ⊢
    subst h1
    unfold laws_markText_l1
    by_cases q : n = 0
    · rw [ifF (by simp; omega)]
      exact .inr ⟨_, rfl, by omega⟩
    · rw [ifT (by simp; omega)]
      generalize hz : mkS [wk .u8 (wk .i64 (48 + ((n : Int)).tmod 10))] = z
      have hzs : z.size = 1 := by rw [← hz, mkSK]; rfl
      rw [sapp_in (by omega), Option.bind_some, show (10 : Int) = ((10 : Nat) : Int) from rfl, tdivK, wk64 (by omega) (by omega)]
      refine .inl ⟨_, rfl, ⟨n / 10, rfl, ?_⟩, ?_⟩
      · simp only [ByteArray.size_append]
        omega
      · simp only
        omega)
  rw [h1, Option.bind_some]
  unfold laws_markText_j1
  rw [sapp_in (by have : (ByteArray.mk #[109]).size = 1 := rfl; omega)]
  exact ⟨_, rfl⟩
noncomputable def mT (k : Int) : ByteArray := (laws_markText k).getD (ByteArray.mk #[])
theorem markText_eq {k : Int} (h0 : 0 ≤ k) (h : k ≤ 1000000000) : laws_markText k = some (mT k) := by
  obtain ⟨n, rfl⟩ : ∃ n : Nat, k = n := ⟨k.toNat, by omega⟩
  obtain ⟨t, ht⟩ := markText_total (k := n) (by omega)
  unfold mT
  rw [ht]
  rfl
def z_IntS (a : List Int) : Nat := a.length
def n_IntS (a : List Int) : Nat := sumOf (fun _ => 1) a
noncomputable def m_IntS (a : List Int) (k : Int) : List Int := mkL (fun _ => 1) (fun _ k => k) a k
theorem eq_IntS {a : List Int} (h : z_IntS a ≤ 1000000000) : laws_eqIntS a a = some true := by
  have hl : a.length ≤ 1000000000 := by unfold z_IntS at h; omega
  unfold laws_eqIntS
  rw [ifF (by simp)]
  have := eq_loop (body := fun s' => laws_eqIntS_l1 a a s') (r := .inr ()) a.length (fun i hi => by
    unfold laws_eqIntS_l1
    rw [ifT (by simpa using hi), geti_nat, List.getElem?_eq_getElem hi, Option.bind_some, Option.bind_some]
    rw [ifF (by simp), wk64 (by omega) (by omega)]
    rfl) (by
    unfold laws_eqIntS_l1
    rw [ifF (by simp)])
  rw [this]
  rfl
theorem mark_IntS {a : List Int} {k : Int} (h1 : 1 ≤ k) (h2 : k + n_IntS a ≤ 1000000000) (h3 : z_IntS a ≤ 1000000000) : laws_markIntS a k = some (k + n_IntS a, m_IntS a k) := by
  have hl : a.length ≤ 1000000000 := by unfold z_IntS at h3; omega
  unfold laws_markIntS
  have := mark_loop (body := fun (s' : Int × Int × (List Int)) => laws_markIntS_l1 s'.1 s'.2.1 s'.2.2) (fun _ => 1) (fun _ k => k) a k 1000000000 h1 h2 (fun k i x l hi hx hl2 hk hB => by
    have hlt : i < l.length := (List.getElem?_eq_some_iff.1 hi).1
    show laws_markIntS_l1 k i l = _
    unfold laws_markIntS_l1
    rw [ifT (by simp; omega)]
    simp (disch := first | omega | (simp only; omega)) only [markText_eq, wk64, geti_nat, gset, hi, Option.bind_some, List.set_set, Int.toNat_natCast]
    refine inl3 ?_ (by omega) rfl
    rfl) (fun k l hl2 => by
    show laws_markIntS_l1 k a.length l = _
    unfold laws_markIntS_l1
    rw [ifF (by simp; omega)])
  rw [this]
  rfl
theorem held_IntS {a : List Int} {k : Int} (h1 : 1 ≤ k) (h2 : k + n_IntS a ≤ 1000000000) (h3 : z_IntS a ≤ 1000000000) : laws_heldIntS (m_IntS a k) k = some (k + n_IntS a) := by
  have hl : a.length ≤ 1000000000 := by unfold z_IntS at h3; omega
  unfold laws_heldIntS
  have := held_loop (body := fun (s' : Int × Int) => laws_heldIntS_l1 (m_IntS a k) s'.1 s'.2) (r := .inr) (fun _ => 1) (fun _ k => k) a k 1000000000 h1 h2 (fun q i x hi hlt hx hk hB => by
    have hi : (m_IntS a k)[i]? = some (q) := hi
    have hml : (m_IntS a k).length = a.length := mkL_len _ _ _ _
    show laws_heldIntS_l1 (m_IntS a k) q i = _
    unfold laws_heldIntS_l1
    rw [ifT (by rw [hml]; simpa using hlt)]
    simp (disch := omega) only [geti_nat, hi, Option.bind_some, markText_eq, wk64, bne_self_eq_false, BEq.rfl, Bool.not_true, Bool.false_eq_true, if_false, ltF]
    refine inl2 ?_ (by omega)
    rfl) (fun q => by
    have hml : (m_IntS a k).length = a.length := mkL_len _ _ _ _
    show laws_heldIntS_l1 (m_IntS a k) q a.length = _
    unfold laws_heldIntS_l1
    rw [ifF (by rw [hml]; simp)])
  rw [this]
  rfl
def z_StringS (a : List ByteArray) : Nat := a.length
def n_StringS (a : List ByteArray) : Nat := sumOf (fun _ => 1) a
noncomputable def m_StringS (a : List ByteArray) (k : Int) : List ByteArray := mkL (fun _ => 1) (fun _ k => mT k) a k
theorem eq_StringS {a : List ByteArray} (h : z_StringS a ≤ 1000000000) : laws_eqStringS a a = some true := by
  have hl : a.length ≤ 1000000000 := by unfold z_StringS at h; omega
  unfold laws_eqStringS
  rw [ifF (by simp)]
  have := eq_loop (body := fun s' => laws_eqStringS_l1 a a s') (r := .inr ()) a.length (fun i hi => by
    unfold laws_eqStringS_l1
    rw [ifT (by simpa using hi), geti_nat, List.getElem?_eq_getElem hi, Option.bind_some, Option.bind_some]
    rw [ifF (by simp), wk64 (by omega) (by omega)]
    rfl) (by
    unfold laws_eqStringS_l1
    rw [ifF (by simp)])
  rw [this]
  rfl
theorem mark_StringS {a : List ByteArray} {k : Int} (h1 : 1 ≤ k) (h2 : k + n_StringS a ≤ 1000000000) (h3 : z_StringS a ≤ 1000000000) : laws_markStringS a k = some (k + n_StringS a, m_StringS a k) := by
  have hl : a.length ≤ 1000000000 := by unfold z_StringS at h3; omega
  unfold laws_markStringS
  have := mark_loop (body := fun (s' : Int × Int × (List ByteArray)) => laws_markStringS_l1 s'.1 s'.2.1 s'.2.2) (fun _ => 1) (fun _ k => mT k) a k 1000000000 h1 h2 (fun k i x l hi hx hl2 hk hB => by
    have hlt : i < l.length := (List.getElem?_eq_some_iff.1 hi).1
    show laws_markStringS_l1 k i l = _
    unfold laws_markStringS_l1
    rw [ifT (by simp; omega)]
    simp (disch := first | omega | (simp only; omega)) only [markText_eq, wk64, geti_nat, gset, hi, Option.bind_some, List.set_set, Int.toNat_natCast]
    refine inl3 ?_ (by omega) rfl
    rfl) (fun k l hl2 => by
    show laws_markStringS_l1 k a.length l = _
    unfold laws_markStringS_l1
    rw [ifF (by simp; omega)])
  rw [this]
  rfl
theorem held_StringS {a : List ByteArray} {k : Int} (h1 : 1 ≤ k) (h2 : k + n_StringS a ≤ 1000000000) (h3 : z_StringS a ≤ 1000000000) : laws_heldStringS (m_StringS a k) k = some (k + n_StringS a) := by
  have hl : a.length ≤ 1000000000 := by unfold z_StringS at h3; omega
  unfold laws_heldStringS
  have := held_loop (body := fun (s' : Int × Int) => laws_heldStringS_l1 (m_StringS a k) s'.1 s'.2) (r := .inr) (fun _ => 1) (fun _ k => mT k) a k 1000000000 h1 h2 (fun q i x hi hlt hx hk hB => by
    have hi : (m_StringS a k)[i]? = some (mT q) := hi
    have hml : (m_StringS a k).length = a.length := mkL_len _ _ _ _
    show laws_heldStringS_l1 (m_StringS a k) q i = _
    unfold laws_heldStringS_l1
    rw [ifT (by rw [hml]; simpa using hlt)]
    simp (disch := omega) only [geti_nat, hi, Option.bind_some, markText_eq, wk64, bne_self_eq_false, BEq.rfl, Bool.not_true, Bool.false_eq_true, if_false, ltF]
    refine inl2 ?_ (by omega)
    rfl) (fun q => by
    have hml : (m_StringS a k).length = a.length := mkL_len _ _ _ _
    show laws_heldStringS_l1 (m_StringS a k) q a.length = _
    unfold laws_heldStringS_l1
    rw [ifF (by rw [hml]; simp)])
  rw [this]
  rfl
def z_Change (a : T_impl_Change) : Nat := z_StringS a.Lines
def n_Change (a : T_impl_Change) : Nat := 1 + 1 + 1 + n_StringS a.Lines
noncomputable def m_Change (a : T_impl_Change) (k : Int) : T_impl_Change := ⟨k, mT (k + 1), mT (k + 1 + 1), m_StringS a.Lines (k + 1 + 1 + 1)⟩
theorem eq_Change {a : T_impl_Change} (h : z_Change a ≤ 1000000000) : laws_eqChange a a = some true := by
  unfold z_Change at h
  unfold laws_eqChange
  simp only [eq_StringS (a := a.Lines) (by omega), Option.bind_some, Bool.not_true, Bool.false_eq_true, if_false, bne_self_eq_false, BEq.rfl]
def z_ChangeS (a : List T_impl_Change) : Nat := a.length + sumOf z_Change a
def n_ChangeS (a : List T_impl_Change) : Nat := sumOf n_Change a
noncomputable def m_ChangeS (a : List T_impl_Change) (k : Int) : List T_impl_Change := mkL n_Change m_Change a k
theorem eq_ChangeS {a : List T_impl_Change} (h : z_ChangeS a ≤ 1000000000) : laws_eqChangeS a a = some true := by
  have hl : a.length ≤ 1000000000 := by unfold z_ChangeS at h; omega
  unfold laws_eqChangeS
  rw [ifF (by simp)]
  have := eq_loop (body := fun s' => laws_eqChangeS_l1 a a s') (r := .inr ()) a.length (fun i hi => by
    have hw : z_Change a[i] ≤ 1000000000 := by have := sumOf_mem (w := z_Change) (List.getElem_mem hi); unfold z_ChangeS at h; omega
    unfold laws_eqChangeS_l1
    rw [ifT (by simpa using hi), geti_nat, List.getElem?_eq_getElem hi, Option.bind_some, Option.bind_some]
    rw [eq_Change hw, Option.bind_some]
    rw [ifF (by simp), wk64 (by omega) (by omega)]
    rfl) (by
    unfold laws_eqChangeS_l1
    rw [ifF (by simp)])
  rw [this]
  rfl
theorem mark_ChangeS {a : List T_impl_Change} {k : Int} (h1 : 1 ≤ k) (h2 : k + n_ChangeS a ≤ 1000000000) (h3 : z_ChangeS a ≤ 1000000000) : laws_markChangeS a k = some (k + n_ChangeS a, m_ChangeS a k) := by
  have hl : a.length ≤ 1000000000 := by unfold z_ChangeS at h3; omega
  unfold laws_markChangeS
  have := mark_loop (body := fun (s' : Int × Int × (List T_impl_Change)) => laws_markChangeS_l1 s'.1 s'.2.1 s'.2.2) n_Change m_Change a k 1000000000 h1 h2 (fun k i x l hi hx hl2 hk hB => by
    have hlt : i < l.length := (List.getElem?_eq_some_iff.1 hi).1
    have hz : z_Change x ≤ 1000000000 := by have := sumOf_mem (w := z_Change) hx; unfold z_ChangeS at h3; omega
    unfold z_Change at hz
    simp only [n_Change, Int.natCast_add, Int.natCast_one, Int.cast_ofNat_Int] at hB
    show laws_markChangeS_l1 k i l = _
    unfold laws_markChangeS_l1
    rw [ifT (by simp; omega)]
    simp (disch := first | omega | (simp only; omega)) only [markText_eq, wk64, geti_nat, gset, hi, Option.bind_some, List.set_set, Int.toNat_natCast, mark_StringS]
    refine inl3 ?_ (by omega) rfl
    simp only [n_Change, Int.natCast_add, Int.natCast_one]; omega) (fun k l hl2 => by
    show laws_markChangeS_l1 k a.length l = _
    unfold laws_markChangeS_l1
    rw [ifF (by simp; omega)])
  rw [this]
  rfl
theorem held_ChangeS {a : List T_impl_Change} {k : Int} (h1 : 1 ≤ k) (h2 : k + n_ChangeS a ≤ 1000000000) (h3 : z_ChangeS a ≤ 1000000000) : laws_heldChangeS (m_ChangeS a k) k = some (k + n_ChangeS a) := by
  have hl : a.length ≤ 1000000000 := by unfold z_ChangeS at h3; omega
  unfold laws_heldChangeS
  have := held_loop (body := fun (s' : Int × Int) => laws_heldChangeS_l1 (m_ChangeS a k) s'.1 s'.2) (r := .inr) n_Change m_Change a k 1000000000 h1 h2 (fun q i x hi hlt hx hk hB => by
    have hi : (m_ChangeS a k)[i]? = some (m_Change x q) := hi
    have hml : (m_ChangeS a k).length = a.length := mkL_len _ _ _ _
    have hz : z_Change x ≤ 1000000000 := by have := sumOf_mem (w := z_Change) hx; unfold z_ChangeS at h3; omega
    unfold z_Change at hz
    simp only [n_Change, Int.natCast_add, Int.natCast_one] at hB
    show laws_heldChangeS_l1 (m_ChangeS a k) q i = _
    unfold laws_heldChangeS_l1
    rw [ifT (by rw [hml]; simpa using hlt)]
    simp (disch := omega) only [geti_nat, hi, Option.bind_some, markText_eq, wk64, bne_self_eq_false, BEq.rfl, Bool.not_true, Bool.false_eq_true, if_false, ltF, m_Change, held_StringS]
    refine inl2 ?_ (by omega)
    simp only [n_Change, Int.natCast_add, Int.natCast_one]; omega) (fun q => by
    have hml : (m_ChangeS a k).length = a.length := mkL_len _ _ _ _
    show laws_heldChangeS_l1 (m_ChangeS a k) q a.length = _
    unfold laws_heldChangeS_l1
    rw [ifF (by rw [hml]; simp)])
  rw [this]
  rfl
def z_Step (a : T_impl_Step) : Nat := z_IntS a.Parents + z_ChangeS a.Changes
def n_Step (a : T_impl_Step) : Nat := n_IntS a.Parents + 1 + n_ChangeS a.Changes
noncomputable def m_Step (a : T_impl_Step) (k : Int) : T_impl_Step := ⟨m_IntS a.Parents (k), mT (k + (n_IntS a.Parents : Int)), m_ChangeS a.Changes (k + (n_IntS a.Parents : Int) + 1)⟩
theorem eq_Step {a : T_impl_Step} (h : z_Step a ≤ 1000000000) : laws_eqStep a a = some true := by
  unfold z_Step at h
  unfold laws_eqStep
  simp only [eq_IntS (a := a.Parents) (by omega), eq_ChangeS (a := a.Changes) (by omega), Option.bind_some, Bool.not_true, Bool.false_eq_true, if_false, bne_self_eq_false, BEq.rfl]
def z_StepS (a : List T_impl_Step) : Nat := a.length + sumOf z_Step a
def n_StepS (a : List T_impl_Step) : Nat := sumOf n_Step a
noncomputable def m_StepS (a : List T_impl_Step) (k : Int) : List T_impl_Step := mkL n_Step m_Step a k
theorem eq_StepS {a : List T_impl_Step} (h : z_StepS a ≤ 1000000000) : laws_eqStepS a a = some true := by
  have hl : a.length ≤ 1000000000 := by unfold z_StepS at h; omega
  unfold laws_eqStepS
  rw [ifF (by simp)]
  have := eq_loop (body := fun s' => laws_eqStepS_l1 a a s') (r := .inr ()) a.length (fun i hi => by
    have hw : z_Step a[i] ≤ 1000000000 := by have := sumOf_mem (w := z_Step) (List.getElem_mem hi); unfold z_StepS at h; omega
    unfold laws_eqStepS_l1
    rw [ifT (by simpa using hi), geti_nat, List.getElem?_eq_getElem hi, Option.bind_some, Option.bind_some]
    rw [eq_Step hw, Option.bind_some]
    rw [ifF (by simp), wk64 (by omega) (by omega)]
    rfl) (by
    unfold laws_eqStepS_l1
    rw [ifF (by simp)])
  rw [this]
  rfl
theorem mark_StepS {a : List T_impl_Step} {k : Int} (h1 : 1 ≤ k) (h2 : k + n_StepS a ≤ 1000000000) (h3 : z_StepS a ≤ 1000000000) : laws_markStepS a k = some (k + n_StepS a, m_StepS a k) := by
  have hl : a.length ≤ 1000000000 := by unfold z_StepS at h3; omega
  unfold laws_markStepS
  have := mark_loop (body := fun (s' : Int × Int × (List T_impl_Step)) => laws_markStepS_l1 s'.1 s'.2.1 s'.2.2) n_Step m_Step a k 1000000000 h1 h2 (fun k i x l hi hx hl2 hk hB => by
    have hlt : i < l.length := (List.getElem?_eq_some_iff.1 hi).1
    have hz : z_Step x ≤ 1000000000 := by have := sumOf_mem (w := z_Step) hx; unfold z_StepS at h3; omega
    unfold z_Step at hz
    simp only [n_Step, Int.natCast_add, Int.natCast_one, Int.cast_ofNat_Int] at hB
    show laws_markStepS_l1 k i l = _
    unfold laws_markStepS_l1
    rw [ifT (by simp; omega)]
    simp (disch := first | omega | (simp only; omega)) only [markText_eq, wk64, geti_nat, gset, hi, Option.bind_some, List.set_set, Int.toNat_natCast, mark_IntS, mark_ChangeS]
    refine inl3 ?_ (by omega) rfl
    simp only [n_Step, Int.natCast_add, Int.natCast_one]; omega) (fun k l hl2 => by
    show laws_markStepS_l1 k a.length l = _
    unfold laws_markStepS_l1
    rw [ifF (by simp; omega)])
  rw [this]
  rfl
theorem held_StepS {a : List T_impl_Step} {k : Int} (h1 : 1 ≤ k) (h2 : k + n_StepS a ≤ 1000000000) (h3 : z_StepS a ≤ 1000000000) : laws_heldStepS (m_StepS a k) k = some (k + n_StepS a) := by
  have hl : a.length ≤ 1000000000 := by unfold z_StepS at h3; omega
  unfold laws_heldStepS
  have := held_loop (body := fun (s' : Int × Int) => laws_heldStepS_l1 (m_StepS a k) s'.1 s'.2) (r := .inr) n_Step m_Step a k 1000000000 h1 h2 (fun q i x hi hlt hx hk hB => by
    have hi : (m_StepS a k)[i]? = some (m_Step x q) := hi
    have hml : (m_StepS a k).length = a.length := mkL_len _ _ _ _
    have hz : z_Step x ≤ 1000000000 := by have := sumOf_mem (w := z_Step) hx; unfold z_StepS at h3; omega
    unfold z_Step at hz
    simp only [n_Step, Int.natCast_add, Int.natCast_one] at hB
    show laws_heldStepS_l1 (m_StepS a k) q i = _
    unfold laws_heldStepS_l1
    rw [ifT (by rw [hml]; simpa using hlt)]
    simp (disch := omega) only [geti_nat, hi, Option.bind_some, markText_eq, wk64, bne_self_eq_false, BEq.rfl, Bool.not_true, Bool.false_eq_true, if_false, ltF, m_Step, held_IntS, held_ChangeS]
    refine inl2 ?_ (by omega)
    simp only [n_Step, Int.natCast_add, Int.natCast_one]; omega) (fun q => by
    have hml : (m_StepS a k).length = a.length := mkL_len _ _ _ _
    show laws_heldStepS_l1 (m_StepS a k) q a.length = _
    unfold laws_heldStepS_l1
    rw [ifF (by rw [hml]; simp)])
  rw [this]
  rfl
end Go.TV.F
/- Plain Lean: the law FnExactReadBundle. -/
namespace Go.TV.F
open Go.TV
theorem small_steps {l : List T_impl_Step} (hl : l.length ≤ 40) (hx : ∀ x ∈ l, okX x = true) : z_StepS l ≤ 40000 ∧ n_StepS l ≤ 40000 := by
  have hc : ∀ x ∈ l, ∀ c ∈ x.Changes, c.Lines.length ≤ 80 := fun x hxm c hc => by
    have := (okX_parts (hx x hxm)).2.2.2.2
    exact (okC_parts (List.all_eq_true.1 this c hc)).2.2.1
  have h1 : ∀ x ∈ l, z_Step x ≤ 700 := fun x hxm => by
    obtain ⟨p1, p2, p3, p4, p5⟩ := okX_parts (hx x hxm)
    have := sumOf_leK (w := z_Change) (B := 80) (a := x.Changes) (fun c hcm => hc x hxm c hcm)
    have : x.Changes.length * 80 ≤ 8 * 80 := Nat.mul_le_mul_right _ p2
    unfold z_Step z_ChangeS z_IntS
    omega
  have h2 : ∀ x ∈ l, n_Step x ≤ 700 := fun x hxm => by
    obtain ⟨p1, p2, p3, p4, p5⟩ := okX_parts (hx x hxm)
    have := sumOf_leK (w := n_Change) (B := 83) (a := x.Changes) (fun c hcm => by
      have := hc x hxm c hcm
      unfold n_Change n_StringS
      rw [sumK1]
      omega)
    have : x.Changes.length * 83 ≤ 8 * 83 := Nat.mul_le_mul_right _ p2
    unfold n_Step n_ChangeS n_IntS
    rw [sumK1]
    omega
  have s1 := sumOf_leK h1
  have s2 := sumOf_leK h2
  have m1 : l.length * 700 ≤ 40 * 700 := Nat.mul_le_mul_right _ hl
  constructor
  · unfold z_StepS
    omega
  · unfold n_StepS
    omega
theorem readBundle_law (text : ByteArray) : laws_FnExactReadBundle text = some true := by
  unfold laws_FnExactReadBundle
  by_cases q : text.size > 1048576
  · rw [ifT (decide_eq_true (by omega))]
  rw [ifF (decide_eq_false (by omega))]
  obtain ⟨l, ok, h1, h2, h3, h4⟩ := readBundle_eq (text := text) (by omega)
  obtain ⟨g1, g2⟩ := small_steps h3 h4
  have he := eq_StepS (a := l) (by omega)
  have hm := mark_StepS (a := l) (k := 1) (by omega) (by omega) (by omega)
  have hh := held_StepS (a := l) (k := 1) (by omega) (by omega) (by omega)
  have d1 : decide ((1 : Int) + n_StepS l < 0) = false := decide_eq_false (by omega)
  simp only [h1, h2, he, hm, hh, d1, Option.bind_some, Bool.not_true, Bool.false_eq_true, if_false, bne_self_eq_false]
end Go.TV.F
