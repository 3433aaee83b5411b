/- The plain laws. -/
import Derived.Test.YthfhiepgdeghpaaKFnExactBundleTextT4
import Derived.Laws.BitsLemmas
import Derived.Test.YthfhiepgdeghpaaKFnExactBundleTextD
set_option linter.unusedVariables false
set_option linter.unusedSimpArgs false
set_option maxHeartbeats 8000000
set_option maxRecDepth 100000
/- Plain Lean: loops and small steps. -/
namespace Go.TV.F
open Go.TV

theorem wk64 {x : Int} (h1 : -9223372036854775808 ≤ x) (h2 : x < 9223372036854775808) : wk .i64 x = x := by
  simp only [wk, IntKind.wrap, IntKind.bits, IntKind.signed, Bool.true_and, decide_eq_true_eq, Nat.reduceSub, Int.reducePow]
  split
  · rename_i h; simp at h; omega
  · rename_i h; simp at h; omega
theorem wku64 {x : Int} (h1 : 0 ≤ x) (h2 : x < 18446744073709551616) : wk .u64 x = x := by
  simp only [wk, IntKind.wrap, IntKind.bits, IntKind.signed, Bool.true_and, Bool.false_and, decide_eq_true_eq, Bool.false_eq_true, if_false, Nat.reduceSub, Int.reducePow]
  first | omega | (split <;> omega)
theorem wku32 {x : Int} (h1 : 0 ≤ x) (h2 : x < 4294967296) : wk .u32 x = x := by
  simp only [wk, IntKind.wrap, IntKind.bits, IntKind.signed, Bool.true_and, Bool.false_and, decide_eq_true_eq, Bool.false_eq_true, if_false, Nat.reduceSub, Int.reducePow]
  first | omega | (split <;> omega)
theorem wku8 {x : Int} (h1 : 0 ≤ x) (h2 : x < 256) : wk .u8 x = x := by
  simp only [wk, IntKind.wrap, IntKind.bits, IntKind.signed, Bool.true_and, Bool.false_and, decide_eq_true_eq, Bool.false_eq_true, if_false, Nat.reduceSub, Int.reducePow]
  first | omega | (split <;> omega)
theorem wku32_mod (x : Int) : wk .u32 x = x % 4294967296 := by
  simp only [wk, IntKind.wrap, IntKind.bits, IntKind.signed, Bool.false_and, Bool.false_eq_true, if_false, Int.reducePow]
theorem wku8_mod (x : Int) : wk .u8 x = x % 256 := by
  simp only [wk, IntKind.wrap, IntKind.bits, IntKind.signed, Bool.false_and, Bool.false_eq_true, if_false, Int.reducePow]
theorem wku64_mod (x : Int) : wk .u64 x = x % 18446744073709551616 := by
  simp only [wk, IntKind.wrap, IntKind.bits, IntKind.signed, Bool.false_and, Bool.false_eq_true, if_false, Int.reducePow]
theorem geti_nat {α : Type} (l : List α) (k : Nat) : geti l (k : Int) = l[k]? := by
  unfold geti
  rw [if_neg (by omega), Int.toNat_natCast]
theorem geti_in {α : Type} {l : List α} {i : Int} (h1 : 0 ≤ i) (h2 : i < l.length) : geti l i = some (l[i.toNat]'(by omega)) := by
  unfold geti
  rw [if_neg (by omega), List.getElem?_eq_getElem]
theorem mkl_in {α : Type} {n : Int} {z : α} (h1 : 0 ≤ n) (h2 : n ≤ 1099511627776) : mkl n n z = some (List.replicate n.toNat z) := by
  unfold mkl
  rw [if_pos ⟨h1, Int.le_refl _, h2⟩]
theorem appn_in {α : Type} {l m : List α} (h : l.length + m.length ≤ 549755813888) : appn l m = some (l ++ m) := by
  unfold appn
  rw [if_pos h]
theorem sapp_in {s t : ByteArray} (h : s.size + t.size ≤ 4611686018427387904) : sapp s t = some (s ++ t) := by
  unfold sapp
  rw [if_pos h]
theorem chk_in {p : Prop} [Decidable p] (h : p) : chk p = some () := by
  unfold chk
  rw [if_pos h]
/-- A loop that goes through known states. -/
theorem loopM_at {σ ρ : Type} {body : σ → Option (σ ⊕ ρ)} {r : ρ} (f : Nat → σ) (n : Nat) (hs : ∀ k, k < n → body (f k) = some (.inl (f (k + 1)))) (he : body (f n) = some (.inr r)) : loopM body (f 0) = some r := by
  have key : ∀ m k, k + m = n → loopM body (f k) = some r := by
    intro m
    induction m with
    | zero => intro k hk; rw [Nat.add_zero] at hk; subst hk; rw [loopM_eq, he]; rfl
    | succ m ih => intro k hk; rw [loopM_eq, hs k (by omega)]; exact ih (k + 1) (by omega)
  exact key n 0 (by omega)
/-- A loop that looks at all, and leaves at the first bad one. -/
theorem loopM_all {σ ρ : Type} {body : σ → Option (σ ⊕ ρ)} {good bad : ρ} (f : Nat → σ) (n : Nat) (p : Nat → Bool) (hs : ∀ k, k < n → (∀ j, j < k → p j = true) → p k = true → body (f k) = some (.inl (f (k + 1))))
    (hb : ∀ k, k < n → (∀ j, j < k → p j = true) → p k = false → body (f k) = some (.inr bad)) (he : (∀ j, j < n → p j = true) → body (f n) = some (.inr good)) : loopM body (f 0) = some (if (List.range n).all p = true then good else bad) := by
  have key : ∀ m k, k + m = n → (∀ j, j < k → p j = true) → loopM body (f k) = some (if (List.range n).all p = true then good else bad) := by
    intro m
    induction m with
    | zero =>
      intro k hk hp
      rw [Nat.add_zero] at hk
      subst hk
      rw [loopM_eq, he hp, if_pos (by simpa using hp)]
      rfl
    | succ m ih =>
      intro k hk hp
      rw [loopM_eq]
      cases q : p k with
      | true =>
        rw [hs k (by omega) hp q]
        refine ih (k + 1) (by omega) (fun j hj => ?_)
        rcases Nat.lt_succ_iff_lt_or_eq.1 hj with h | rfl
        · exact hp j h
        · exact q
      | false =>
        rw [hb k (by omega) hp q, if_neg]
        · rfl
        · intro hq
          have := List.all_eq_true.1 hq k (List.mem_range.2 (by omega))
          rw [q] at this
          cases this
  exact key n 0 (by omega) (fun j hj => by omega)
end Go.TV.F
/- Plain Lean: the loops of the laws' own helpers. -/
namespace Go.TV.F
open Go.TV

def sumOf {α : Type} (w : α → Nat) : List α → Nat
  | [] => 0
  | x :: l => w x + sumOf w l
theorem sumOf_mem {α : Type} {w : α → Nat} {l : List α} {x : α} (h : x ∈ l) : w x ≤ sumOf w l := by
  induction l with
  | nil => cases h
  | cons y l ih =>
    rcases List.mem_cons.1 h with rfl | h
    · simp [sumOf]
    · have := ih h
      simp [sumOf]
      omega
/-- A copy. -/
theorem to_loop {α β : Type} {body : Int × List β → Option ((Int × List β) ⊕ List β)} (a : List α) (f : α → β) (z : β) (hs : ∀ (i : Nat) (x : α) (out : List β), a[i]? = some x → out.length = a.length → body ((i : Int), out) = some (.inl (((i + 1 : Nat) : Int), out.set i (f x))))
    (he : ∀ out : List β, out.length = a.length → body ((a.length : Int), out) = some (.inr out)) : loopM body ((0 : Int), List.replicate a.length z) = some (a.map f) := by
  have key : ∀ (l pre : List α), a = pre ++ l → loopM body ((pre.length : Int), pre.map f ++ List.replicate l.length z) = some (a.map f) := by
    intro l
    induction l with
    | nil =>
      intro pre h
      rw [List.append_nil] at h
      subst h
      rw [loopM_eq, he _ (by simp)]
      simp
    | cons x l ih =>
      intro pre h
      rw [loopM_eq, hs pre.length x _ (by rw [h]; simp) (by rw [h]; simp)]
      have := ih (pre ++ [x]) (by rw [h]; simp)
      rw [List.length_append, List.map_append] at this
      have e : (List.map f pre ++ List.replicate (x :: l).length z).set pre.length (f x) = List.map f pre ++ List.map f [x] ++ List.replicate l.length z := by
        rw [List.set_append_right _ _ (by simp)]
        simp [List.replicate_succ]
      rw [e]
      exact this
  exact key a [] rfl
/-- Alike with itself. -/
theorem eq_loop {ρ : Type} {body : Int → Option (Int ⊕ ρ)} {r : ρ} (n : Nat) (hs : ∀ i : Nat, i < n → body (i : Int) = some (.inl ((i + 1 : Nat) : Int))) (he : body (n : Int) = some (.inr r)) : loopM body 0 = some r :=
  loopM_at (fun k => (k : Int)) n hs he
/-- What marks make of a list. -/
def mkL {α : Type} (c : α → Nat) (mk : α → Int → α) : List α → Int → List α
  | [], _ => []
  | x :: l, k => mk x k :: mkL c mk l (k + c x)
theorem mkL_len {α : Type} (c : α → Nat) (mk : α → Int → α) : ∀ (l : List α) (k : Int), (mkL c mk l k).length = l.length
  | [], _ => rfl
  | x :: l, k => by simp [mkL, mkL_len c mk l]
theorem mark_loop {α : Type} {body : Int × Int × List α → Option ((Int × Int × List α) ⊕ (Int × List α))} (c : α → Nat) (mk : α → Int → α) (a : List α) (k0 B : Int) (h1 : 1 ≤ k0) (hB : k0 + sumOf c a ≤ B)
    (hs : ∀ (k : Int) (i : Nat) (x : α) (l : List α), l[i]? = some x → x ∈ a → l.length = a.length → 1 ≤ k → k + c x ≤ B → body (k, (i : Int), l) = some (.inl (k + c x, ((i + 1 : Nat) : Int), l.set i (mk x k))))
    (he : ∀ (k : Int) (l : List α), l.length = a.length → body (k, (a.length : Int), l) = some (.inr (k, l))) : loopM body (k0, (0 : Int), a) = some (k0 + sumOf c a, mkL c mk a k0) := by
  have key : ∀ (l pre : List α) (k : Int), (∀ x ∈ l, x ∈ a) → pre.length + l.length = a.length → 1 ≤ k → k + sumOf c l ≤ B → loopM body (k, (pre.length : Int), pre ++ l) = some (k + sumOf c l, pre ++ mkL c mk l k) := by
    intro l
    induction l with
    | nil =>
      intro pre k _ hl h1 hB
      rw [loopM_eq, show (pre.length : Int) = (a.length : Int) by simp at hl; omega, he _ _ (by simpa using hl)]
      simp [sumOf, mkL]
    | cons x l ih =>
      intro pre k hm hl h1 hB
      simp only [sumOf] at hB
      rw [loopM_eq, hs k pre.length x _ (by simp) (hm x (by simp)) (by simpa using hl) h1 (by omega)]
      have := ih (pre ++ [mk x k]) (k + c x) (fun y hy => hm y (by simp [hy])) (by simp at hl ⊢; omega) (by omega) (by omega)
      have e : (pre ++ x :: l).set pre.length (mk x k) = pre ++ [mk x k] ++ l := by
        rw [List.set_append_right _ _ (by simp)]
        simp
      rw [e]
      rw [List.length_append] at this
      refine this.trans ?_
      simp only [sumOf, mkL, List.append_assoc, List.cons_append, List.nil_append, Option.some.injEq, Prod.mk.injEq, and_true]
      omega
  exact key a [] k0 (fun _ h => h) (by simp) h1 hB
theorem held_loop {α : Type} {ρ : Type} {body : Int × Int → Option ((Int × Int) ⊕ ρ)} {r : Int → ρ} (c : α → Nat) (mk : α → Int → α) (a : List α) (k0 B : Int) (h1 : 1 ≤ k0) (hB : k0 + sumOf c a ≤ B)
    (hs : ∀ (k : Int) (i : Nat) (x : α), (mkL c mk a k0)[i]? = some (mk x k) → i < a.length → x ∈ a → 1 ≤ k → k + c x ≤ B → body (k, (i : Int)) = some (.inl (k + c x, ((i + 1 : Nat) : Int))))
    (he : ∀ (k : Int), body (k, (a.length : Int)) = some (.inr (r k))) : loopM body (k0, (0 : Int)) = some (r (k0 + sumOf c a)) := by
  have key : ∀ (l : List α) (pre : List α) (k : Int), (∀ x ∈ l, x ∈ a) → mkL c mk a k0 = pre ++ mkL c mk l k → pre.length + l.length = a.length → 1 ≤ k → k + sumOf c l ≤ B → loopM body (k, (pre.length : Int)) = some (r (k + sumOf c l)) := by
    intro l
    induction l with
    | nil =>
      intro pre k _ _ hl h1 hB
      rw [loopM_eq, show (pre.length : Int) = (a.length : Int) by simp at hl; omega, he]
      simp [sumOf]
    | cons x l ih =>
      intro pre k hm hp hl h1 hB
      simp only [sumOf] at hB
      rw [loopM_eq, hs k pre.length x (by rw [hp]; simp [mkL]) (by simp at hl; omega) (hm x (by simp)) h1 (by omega)]
      have := ih (pre ++ [mk x k]) (k + c x) (fun y hy => hm y (by simp [hy])) (by rw [hp]; simp [mkL]) (by simp at hl ⊢; omega) (by omega) (by omega)
      rw [List.length_append] at this
      refine this.trans ?_
      simp only [sumOf, Option.some.injEq]
      congr 1
      omega
  exact key a [] k0 (fun _ h => h) rfl (by simp) h1 hB
/-- How much there is. -/
theorem sz_loop {α : Type} {body : Int × Int → Option ((Int × Int) ⊕ (Int ⊕ Int))} (w : α → Nat) (a : List α) (left : Int) (h0 : 0 ≤ left)
    (hs : ∀ (s : Int) (i : Nat) (x : α), a[i]? = some x → 0 ≤ s → s ≤ left → body (s, (i : Int)) = if (w x : Int) ≤ s then some (.inl (s - w x, ((i + 1 : Nat) : Int))) else some (.inr (.inl (-1))))
    (he : ∀ (s : Int), body (s, (a.length : Int)) = some (.inr (.inr s))) : loopM body (left, (0 : Int)) = some (if (sumOf w a : Int) ≤ left then .inr (left - sumOf w a) else .inl (-1)) := by
  have key : ∀ (l : List α) (pre : List α) (s : Int), a = pre ++ l → 0 ≤ s → s ≤ left → loopM body (s, (pre.length : Int)) = some (if (sumOf w l : Int) ≤ s then .inr (s - sumOf w l) else .inl (-1)) := by
    intro l
    induction l with
    | nil =>
      intro pre s h h1 h2
      rw [List.append_nil] at h
      rw [loopM_eq, ← h, he]
      simp [sumOf, h1]
    | cons x l ih =>
      intro pre s h h1 h2
      rw [loopM_eq, hs s pre.length x (by rw [h]; simp) h1 h2]
      have e : ((sumOf w (x :: l) : Nat) : Int) = w x + sumOf w l := by simp [sumOf]
      by_cases q : (w x : Int) ≤ s
      · rw [if_pos q]
        have := ih (pre ++ [x]) (s - w x) (by rw [h]; simp) (by omega) (by omega)
        rw [List.length_append] at this
        refine this.trans ?_
        by_cases q2 : (sumOf w l : Int) ≤ s - w x
        · rw [if_pos q2, if_pos (by omega)]
          congr 2
          omega
        · rw [if_neg q2, if_neg (by omega)]
      · rw [if_neg q]
        rw [if_neg (by omega)]
        rfl
  exact key a [] left rfl h0 (Int.le_refl _)
end Go.TV.F
/- Plain Lean: graphs of versions. -/
namespace Go.TV.F
open Go.TV

/-! ### Right graphs -/
def riseAt (l : List Int) (n : Int) (i : Nat) : Bool := decide (l.getD i 0 ≥ 0) && decide (l.getD i 0 ≤ n - 1) && (i == 0 || decide (l.getD (i - 1) 0 < l.getD i 0))
def rise (l : List Int) (n : Int) : Bool := (List.range l.length).all (riseAt l n)
def gAt (g : List (List Int)) (v : Nat) : Bool := decide ((g.getD v []).length ≤ 4) && rise (g.getD v []) v
def gOk (g : List (List Int)) : Bool := decide (g.length ≤ 40) && (List.range g.length).all (gAt g)
theorem gOk_len {g : List (List Int)} (h : gOk g = true) : g.length ≤ 40 := by
  simp only [gOk, Bool.and_eq_true, decide_eq_true_eq] at h
  exact h.1
theorem gOk_at {g : List (List Int)} (hg : gOk g = true) {v : Nat} (hv : v < g.length) : g[v].length ≤ 4 ∧ rise g[v] v = true := by
  simp only [gOk, Bool.and_eq_true] at hg
  have h1 := List.all_eq_true.1 hg.2 v (List.mem_range.2 hv)
  have : g.getD v [] = g[v] := by simp [hv]
  simp only [gAt, this, Bool.and_eq_true, decide_eq_true_eq] at h1
  exact h1
theorem rise_mem {l : List Int} {n : Int} (h : rise l n = true) {x : Int} (hx : x ∈ l) : 0 ≤ x ∧ x ≤ n - 1 := by
  obtain ⟨i, hi, rfl⟩ := List.getElem_of_mem hx
  have := List.all_eq_true.1 h i (List.mem_range.2 hi)
  have e : l.getD i 0 = l[i] := by simp [hi]
  simp only [riseAt, e, Bool.and_eq_true, decide_eq_true_eq] at this
  exact this.1
theorem gOk_mem {g : List (List Int)} (hg : gOk g = true) {v : Nat} (hv : v < g.length) {x : Int} (hx : x ∈ g[v]) : 0 ≤ x ∧ x < v := by
  have := rise_mem (gOk_at hg hv).2 hx
  omega

/-! ### Sets as bits -/
def orL (c : List Nat) (l : List Int) : Nat := l.foldl (fun (s : Nat) (x : Int) => s ||| c.getD x.toNat 0) 0
theorem orL_snoc (c : List Nat) (l : List Int) (x : Int) : orL c (l ++ [x]) = orL c l ||| c.getD x.toNat 0 := by
  unfold orL
  rw [List.foldl_append]
  rfl
theorem orL_take {c : List Nat} {l : List Int} {i : Nat} (hi : i < l.length) : orL c (l.take (i + 1)) = orL c (l.take i) ||| c.getD l[i].toNat 0 := by
  rw [List.take_succ_eq_append_getElem hi, orL_snoc]
theorem getD_lt {c : List Nat} (hc : ∀ x ∈ c, x < 2 ^ 64) (i : Nat) : c.getD i 0 < 2 ^ 64 := by
  rw [List.getD_eq_getElem?_getD]
  rcases q : c[i]? with _ | x
  · decide
  · exact hc x (List.mem_of_getElem? q)
theorem orL_lt {c : List Nat} (hc : ∀ x ∈ c, x < 2 ^ 64) (l : List Int) : orL c l < 2 ^ 64 := by
  unfold orL
  suffices h : ∀ (l : List Int) (s : Nat), s < 2 ^ 64 → l.foldl (fun (s : Nat) (x : Int) => s ||| c.getD x.toNat 0) s < 2 ^ 64 from h l 0 (by decide)
  intro l
  induction l with
  | nil => intro s hs; exact hs
  | cons x l ih => intro s hs; exact ih _ (Nat.or_lt_two_pow hs (getD_lt hc _))
theorem orL_test (c : List Nat) (l : List Int) (u : Nat) : (orL c l).testBit u = l.any fun x => (c.getD x.toNat 0).testBit u := by
  unfold orL
  suffices h : ∀ (l : List Int) (s : Nat), (l.foldl (fun (s : Nat) (x : Int) => s ||| c.getD x.toNat 0) s).testBit u = (s.testBit u || l.any fun x => (c.getD x.toNat 0).testBit u) by
    rw [h]; simp
  intro l
  induction l with
  | nil => intro s; simp
  | cons x l ih => intro s; rw [List.foldl_cons, ih, Nat.testBit_or, List.any_cons, Bool.or_assoc]
theorem wrapu {n : Int} (h0 : 0 ≤ n) (h1 : n < 2 ^ 64) : IntKind.wrap .u64 n = n := wku64 h0 (by omega)
theorem or_u64 {a b : Nat} (ha : a < 2 ^ 64) (hb : b < 2 ^ 64) : bits .or .u64 a b = ((a ||| b : Nat) : Int) := (bits_nat .u64 64 (by decide) (fun n h0 h1 => wrapu h0 h1) a b ha hb).2
theorem and_u64 {a b : Nat} (ha : a < 2 ^ 64) (hb : b < 2 ^ 64) : bits .and .u64 a b = ((a &&& b : Nat) : Int) := (bits_nat .u64 64 (by decide) (fun n h0 h1 => wrapu h0 h1) a b ha hb).1
theorem shl_one {n : Nat} (hn : n < 64) : shlI .u64 1 (n : Int) = ((2 ^ n : Nat) : Int) := by
  have h : (2 ^ n : Nat) < 2 ^ 64 := Nat.pow_lt_pow_right (by decide) hn
  unfold shlI
  rw [Int.toNat_natCast, show min n IntKind.u64.bits = n by simp [IntKind.bits]; omega, Int.one_mul]
  have e : ((2 : Int) ^ n) = ((2 ^ n : Nat) : Int) := by simp
  rw [e]
  exact wku64 (Int.natCast_nonneg _) (Int.ofNat_lt.2 (show 2 ^ n < 18446744073709551616 from h))
theorem shr_test (s n : Nat) (hs : s < 2 ^ 64) (hn : n < 64) : ((bits .and .u64 (shrI .u64 (s : Int) (n : Int)) 1) == 1) = s.testBit n := by
  have e1 : shrI .u64 (s : Int) (n : Int) = ((s / 2 ^ n : Nat) : Int) := by
    unfold shrI
    rw [Int.toNat_natCast, show min n IntKind.u64.bits = n by simp [IntKind.bits]; omega]
    simp
  have e2 := and_u64 (a := s / 2 ^ n) (b := 1) (Nat.lt_of_le_of_lt (Nat.div_le_self _ _) hs) (by decide)
  rw [e1, show ((1 : Int)) = ((1 : Nat) : Int) from rfl, e2, Nat.testBit_eq_decide_div_mod_eq, Nat.and_one_is_mod]
  rcases Nat.mod_two_eq_zero_or_one (s / 2 ^ n) with q | q <;> rw [q] <;> rfl
def bitsL (s n : Nat) : List Nat := (List.range n).filter fun v => s.testBit v
theorem bitsL_succ (s n : Nat) : bitsL s (n + 1) = if s.testBit n = true then bitsL s n ++ [n] else bitsL s n := by
  simp only [bitsL, List.range_succ, List.filter_append]
  cases q : s.testBit n <;> simp [q]
theorem bitsL_len (s n : Nat) : (bitsL s n).length ≤ n := by
  have := List.length_filter_le (fun v => s.testBit v) (List.range n)
  simpa [bitsL] using this
def ints (l : List Nat) : List Int := l.map fun (n : Nat) => (n : Int)

/-! ### Closures -/
def closN (g : List (List Int)) : Nat → List Nat
  | 0 => List.replicate g.length 0
  | n + 1 => (closN g n).set n (orL (closN g n) (g.getD n []) ||| 2 ^ n)
theorem closN_len (g : List (List Int)) : ∀ n, (closN g n).length = g.length
  | 0 => by simp [closN]
  | n + 1 => by rw [closN, List.length_set, closN_len]
theorem closN_lt {g : List (List Int)} (hg : g.length ≤ 40) : ∀ n, n ≤ g.length → ∀ x ∈ closN g n, x < 2 ^ 64
  | 0, _, x, hx => by
    have := List.eq_of_mem_replicate hx
    subst this
    decide
  | n + 1, hn, x, hx => by
    rcases List.mem_or_eq_of_mem_set hx with q | q
    · exact closN_lt hg n (by omega) x q
    · rw [q]
      exact Nat.or_lt_two_pow (orL_lt (closN_lt hg n (by omega)) _) (Nat.pow_lt_pow_right (by decide) (by omega))
theorem closN_old (g : List (List Int)) : ∀ (n k i : Nat), i < n → (closN g (n + k)).getD i 0 = (closN g n).getD i 0
  | _, 0, _, _ => rfl
  | n, k + 1, i, hi => by
    rw [← Nat.add_assoc, closN, List.getD_eq_getElem?_getD, List.getElem?_set_ne (by omega), ← List.getD_eq_getElem?_getD]
    exact closN_old g n k i hi
/-- The closure of a version, as bits. -/
def clo (g : List (List Int)) (v : Nat) : Nat := (closN g g.length).getD v 0
theorem closN_clo {g : List (List Int)} {n i : Nat} (hn : n ≤ g.length) (hi : i < n) : (closN g n).getD i 0 = clo g i := by
  have := closN_old g n (g.length - n) i hi
  rw [show n + (g.length - n) = g.length by omega] at this
  exact this.symm
theorem clo_lt {g : List (List Int)} (hg : gOk g = true) (v : Nat) : clo g v < 2 ^ 64 := getD_lt (closN_lt (gOk_len hg) _ (Nat.le_refl _)) v
theorem clo_test {g : List (List Int)} (hg : gOk g = true) {v : Nat} (hv : v < g.length) (u : Nat) : (clo g v).testBit u = (decide (u = v) || g[v].any fun p => (clo g p.toNat).testBit u) := by
  have e : g.getD v [] = g[v] := by simp [hv]
  have h1 : clo g v = orL (closN g v) g[v] ||| 2 ^ v := by
    rw [← closN_clo (n := v + 1) (by omega) (by omega), closN, List.getD_eq_getElem?_getD, List.getElem?_set_self (by rw [closN_len]; omega), e]
    rfl
  have h2 : (orL (closN g v) g[v]).testBit u = g[v].any fun p => (clo g p.toNat).testBit u := by
    rw [orL_test, Bool.eq_iff_iff, List.any_eq_true, List.any_eq_true]
    constructor
    · rintro ⟨x, hx, h⟩
      have := gOk_mem hg hv hx
      exact ⟨x, hx, by rw [← closN_clo (n := v) (by omega) (by omega)]; exact h⟩
    · rintro ⟨x, hx, h⟩
      have := gOk_mem hg hv hx
      exact ⟨x, hx, by rw [closN_clo (by omega) (by omega)]; exact h⟩
  rw [h1, Nat.testBit_or, h2, Nat.testBit_two_pow, Bool.or_comm]
  congr 1
  simp only [decide_eq_decide]
  omega
theorem clo_self {g : List (List Int)} (hg : gOk g = true) {v : Nat} (hv : v < g.length) : (clo g v).testBit v = true := by
  rw [clo_test hg hv]
  simp
theorem clo_le {g : List (List Int)} (hg : gOk g = true) : ∀ {v : Nat}, v < g.length → ∀ {u : Nat}, (clo g v).testBit u = true → u ≤ v := by
  intro v
  induction v using Nat.strongRecOn with
  | _ v ih =>
    intro hv u h
    rw [clo_test hg hv] at h
    simp only [Bool.or_eq_true, decide_eq_true_eq, List.any_eq_true] at h
    rcases h with h | ⟨p, hp, h⟩
    · omega
    · have := gOk_mem hg hv hp
      have := ih p.toNat (by omega) (by omega) h
      omega

/-! ### The reference's way -/
def mark (b : List Bool) (l : List Int) : List Bool := l.foldl (fun (b : List Bool) (x : Int) => if 0 ≤ x ∧ x < b.length then b.set x.toNat true else b) b
def step (g : List (List Int)) (b : List Bool) (v : Nat) : List Bool := if b.getD v false = true then mark b (g.getD v []) else b
def down (g : List (List Int)) : Nat → List Bool → List Bool
  | 0, b => b
  | n + 1, b => down g n (step g b n)
def setL (g : List (List Int)) (l : List Int) : List Bool := down g g.length (mark (List.replicate g.length false) l)
theorem mark_snoc (b : List Bool) (l : List Int) (x : Int) : mark b (l ++ [x]) = if 0 ≤ x ∧ x < (mark b l).length then (mark b l).set x.toNat true else mark b l := by
  unfold mark
  rw [List.foldl_append]
  rfl
theorem mark_len (b : List Bool) (l : List Int) : (mark b l).length = b.length := by
  unfold mark
  induction l generalizing b with
  | nil => rfl
  | cons x l ih =>
    rw [List.foldl_cons, ih]
    split <;> simp
theorem mark_take {b : List Bool} {l : List Int} {i : Nat} (hi : i < l.length) : mark b (l.take (i + 1)) = if 0 ≤ l[i] ∧ l[i] < b.length then (mark b (l.take i)).set l[i].toNat true else mark b (l.take i) := by
  rw [List.take_succ_eq_append_getElem hi, mark_snoc, mark_len]
theorem mark_get (b : List Bool) (l : List Int) (u : Nat) : (mark b l).getD u false = (b.getD u false || (decide (u < b.length) && l.any fun x => x == (u : Int))) := by
  unfold mark
  induction l generalizing b with
  | nil => simp
  | cons x l ih =>
    rw [List.foldl_cons, ih, List.any_cons]
    split
    · rename_i hx
      simp only [List.length_set, List.getD_eq_getElem?_getD, List.getElem?_set]
      by_cases e : x.toNat = u
      · have e' : (x == (u : Int)) = true := by simp; omega
        rw [if_pos e, if_pos (by omega), e']
        simp
        right
        omega
      · have e' : (x == (u : Int)) = false := by simp; omega
        rw [if_neg e, e', Bool.false_or]
    · rename_i hx
      by_cases e : x = (u : Int)
      · have : ¬ u < b.length := by omega
        simp [this]
      · have e' : (x == (u : Int)) = false := by simp; exact e
        rw [e', Bool.false_or]
theorem down_len (g : List (List Int)) : ∀ (n : Nat) (b : List Bool), (down g n b).length = b.length
  | 0, _ => rfl
  | n + 1, b => by
    rw [down, down_len, step]
    split
    · exact mark_len _ _
    · rfl
theorem setL_len (g : List (List Int)) (l : List Int) : (setL g l).length = g.length := by rw [setL, down_len, mark_len]; simp
theorem down_get {g : List (List Int)} (hg : gOk g = true) : ∀ (m : Nat) (b : List Bool), m ≤ g.length → b.length = g.length → ∀ u, (down g m b).getD u false = true ↔ ∃ w, b.getD w false = true ∧ ((w < m ∧ (clo g w).testBit u = true) ∨ u = w)
  | 0, b, _, _, u => by
    rw [down]
    exact ⟨fun h => ⟨u, h, .inr rfl⟩, fun ⟨w, h1, h2⟩ => by
      rcases h2 with ⟨h2, _⟩ | h2
      · omega
      · rw [h2]; exact h1⟩
  | m + 1, b, hm, hb, u => by
    have hl : (step g b m).length = g.length := by
      rw [step]
      split
      · rw [mark_len]; exact hb
      · exact hb
    rw [down, down_get hg m _ (by omega) hl u]
    have e : g.getD m [] = g[m] := by simp [show m < g.length by omega]
    by_cases q : b.getD m false = true
    · rw [step, if_pos q, e]
      constructor
      · rintro ⟨w, h1, h2⟩
        rw [mark_get] at h1
        simp only [Bool.or_eq_true, Bool.and_eq_true, decide_eq_true_eq, List.any_eq_true] at h1
        rcases h1 with h1 | ⟨_, x, hx, h1⟩
        · refine ⟨w, h1, ?_⟩
          rcases h2 with ⟨h2, h3⟩ | h2
          · exact .inl ⟨by omega, h3⟩
          · exact .inr h2
        · have hx' := gOk_mem hg (v := m) (by omega) hx
          have h1 : x = (w : Int) := by simpa using h1
          subst h1
          refine ⟨m, q, .inl ⟨by omega, ?_⟩⟩
          rw [clo_test hg (by omega)]
          simp only [Bool.or_eq_true, List.any_eq_true]
          refine .inr ⟨(w : Int), hx, ?_⟩
          rw [Int.toNat_natCast]
          rcases h2 with ⟨_, h2⟩ | h2
          · exact h2
          · rw [h2]
            exact clo_self hg (by omega)
      · rintro ⟨w, h1, h2⟩
        by_cases hw : w = m
        · subst hw
          rcases h2 with ⟨_, h2⟩ | h2
          · rw [clo_test hg (by omega)] at h2
            simp only [Bool.or_eq_true, decide_eq_true_eq, List.any_eq_true] at h2
            rcases h2 with h2 | ⟨p, hp, h2⟩
            · exact ⟨w, by rw [mark_get, h1]; rfl, .inr h2⟩
            · have hp' := gOk_mem hg (v := w) (by omega) hp
              refine ⟨p.toNat, ?_, .inl ⟨by omega, h2⟩⟩
              rw [mark_get]
              simp only [Bool.or_eq_true, Bool.and_eq_true, decide_eq_true_eq, List.any_eq_true]
              exact .inr ⟨by omega, p, hp, by simp; omega⟩
          · exact ⟨w, by rw [mark_get, h1]; rfl, .inr h2⟩
        · refine ⟨w, by rw [mark_get, h1]; rfl, ?_⟩
          rcases h2 with ⟨h2, h3⟩ | h2
          · exact .inl ⟨by omega, h3⟩
          · exact .inr h2
    · rw [step, if_neg q]
      constructor
      · rintro ⟨w, h1, h2⟩
        refine ⟨w, h1, ?_⟩
        rcases h2 with ⟨h2, h3⟩ | h2
        · exact .inl ⟨by omega, h3⟩
        · exact .inr h2
      · rintro ⟨w, h1, h2⟩
        have hw : w ≠ m := fun e => q (e ▸ h1)
        refine ⟨w, h1, ?_⟩
        rcases h2 with ⟨h2, h3⟩ | h2
        · exact .inl ⟨by omega, h3⟩
        · exact .inr h2
theorem setL_get {g : List (List Int)} (hg : gOk g = true) (l : List Int) (u : Nat) : (setL g l).getD u false = true ↔ ∃ x ∈ l, 0 ≤ x ∧ x < g.length ∧ (clo g x.toNat).testBit u = true := by
  rw [setL, down_get hg _ _ (Nat.le_refl _) (by rw [mark_len]; simp)]
  constructor
  · rintro ⟨w, h1, h2⟩
    rw [mark_get] at h1
    simp only [List.length_replicate, Bool.or_eq_true, Bool.and_eq_true, decide_eq_true_eq, List.any_eq_true] at h1
    rcases h1 with h1 | ⟨h0, x, hx, h1⟩
    · rw [List.getD_eq_getElem?_getD, List.getElem?_replicate] at h1
      split at h1 <;> cases h1
    · have h1 : x = (w : Int) := by simpa using h1
      subst h1
      refine ⟨(w : Int), hx, by omega, by omega, ?_⟩
      rw [Int.toNat_natCast]
      rcases h2 with ⟨_, h2⟩ | h2
      · exact h2
      · rw [h2]; exact clo_self hg h0
  · rintro ⟨x, hx, h0, h1, h2⟩
    refine ⟨x.toNat, ?_, .inl ⟨by omega, h2⟩⟩
    rw [mark_get]
    simp only [List.length_replicate, Bool.or_eq_true, Bool.and_eq_true, decide_eq_true_eq, List.any_eq_true]
    exact .inr ⟨by omega, x, hx, by simp; omega⟩
def trues (bs : List Bool) (n : Nat) : List Nat := (List.range n).filter fun v => bs.getD v false
theorem trues_len (bs : List Bool) (v : Nat) : (trues bs v).length ≤ v := by
  have := List.length_filter_le (fun v => bs.getD v false) (List.range v)
  simpa [trues] using this
theorem trues_succ (bs : List Bool) (v : Nat) : trues bs (v + 1) = if bs.getD v false = true then trues bs v ++ [v] else trues bs v := by
  simp only [trues, List.range_succ, List.filter_append]
  cases q : bs.getD v false <;> simp [q, -List.getD_eq_getElem?_getD]
/-- Both tell the same list. -/
theorem setL_bits {g : List (List Int)} (hg : gOk g = true) (l : List Int) (hl : ∀ x ∈ l, 0 ≤ x ∧ x < (g.length : Int)) : trues (setL g l) g.length = bitsL (orL (closN g g.length) l) 64 := by
  have hlen := gOk_len hg
  unfold trues bitsL
  have e : (List.range 64) = List.range g.length ++ (List.range (64 - g.length)).map (g.length + ·) := by
    rw [← List.range_add]
    congr 1
    omega
  rw [e, List.filter_append]
  have h2 : ((List.range (64 - g.length)).map (g.length + ·)).filter (fun v => (orL (closN g g.length) l).testBit v) = [] := by
    rw [List.filter_eq_nil_iff]
    intro v hv
    obtain ⟨k, _, rfl⟩ := List.mem_map.1 hv
    intro q
    rw [orL_test, List.any_eq_true] at q
    obtain ⟨x, hx, q⟩ := q
    have := hl x hx
    have := clo_le hg (v := x.toNat) (by omega) q
    omega
  rw [h2, List.append_nil]
  apply List.filter_congr
  intro v _
  rw [Bool.eq_iff_iff, setL_get hg, orL_test, List.any_eq_true]
  constructor
  · rintro ⟨x, hx, _, _, h⟩
    exact ⟨x, hx, h⟩
  · rintro ⟨x, hx, h⟩
    have := hl x hx
    exact ⟨x, hx, this.1, this.2, h⟩
end Go.TV.F
/- Plain Lean: two loops, side by side; the check sums. -/
namespace Go.TV.F
open Go.TV
theorem loopM_total2 {σ τ ρ κ : Type} {f : σ → Option (σ ⊕ ρ)} {g : τ → Option (τ ⊕ κ)} (R : σ → τ → Prop) (m : σ → Nat) (Q : ρ → κ → Prop) {s : σ} {t : τ} (h0 : R s t)
    (h : ∀ s t, R s t → (∃ s' t', f s = some (.inl s') ∧ g t = some (.inl t') ∧ R s' t' ∧ m s' < m s) ∨ ∃ r r', f s = some (.inr r) ∧ g t = some (.inr r') ∧ Q r r') :
    ∃ r r', loopM f s = some r ∧ loopM g t = some r' ∧ Q r r' := by
  have key : ∀ n s t, R s t → m s = n → ∃ r r', loopM f s = some r ∧ loopM g t = some r' ∧ Q r r' := by
    intro n
    induction n using Nat.strongRecOn with
    | _ n ih =>
      intro s t hs hm
      rw [loopM_eq f, loopM_eq g]
      rcases h s t hs with ⟨s', t', h1, h2, h3, h4⟩ | ⟨r, r', h1, h2, h3⟩
      · rw [h1, h2]
        exact ih (m s') (by omega) s' t' h3 rfl
      · rw [h1, h2]
        exact ⟨r, r', rfl, rfl, h3⟩
  exact key _ s t h0 rfl
theorem and32 {a b : Nat} (ha : a < 2 ^ 32) (hb : b < 2 ^ 32) : bits .and .u32 a b = ((a &&& b : Nat) : Int) := (bits_nat .u32 32 (by decide) (fun n h0 h1 => wku32 h0 (by simpa using h1)) a b ha hb).1
theorem xor32 {a b : Nat} (ha : a < 2 ^ 32) (hb : b < 2 ^ 32) : ∃ c : Nat, bits .xor .u32 a b = (c : Int) ∧ c < 2 ^ 32 := by
  refine ⟨(bits .xor .u32 a b).toNat, ?_, ?_⟩
  · have : 0 ≤ bits .xor .u32 (a : Int) b := by
      show 0 ≤ wk .u32 _
      rw [wku32_mod]
      omega
    omega
  · have : bits .xor .u32 (a : Int) b < 4294967296 := by
      show wk .u32 _ < _
      rw [wku32_mod]
      omega
    omega
theorem tmod_nat (a b : Nat) : ((a : Int)).tmod (b : Int) = ((a % b : Nat) : Int) := by
  rw [Int.tmod_eq_emod_of_nonneg (by omega)]
  rfl
theorem tdiv_nat (a b : Nat) : ((a : Int)).tdiv (b : Int) = ((a / b : Nat) : Int) := by
  rw [Int.tdiv_eq_ediv_of_nonneg (by omega)]
  rfl
theorem shr32_1 (a : Nat) : shrI .u32 (a : Int) 1 = ((a / 2 : Nat) : Int) := by
  unfold shrI
  simp [IntKind.bits]
/-! ### Check sums -/
def isW32 (x : Int) : Prop := 0 ≤ x ∧ x < 4294967296
theorem sum_l2 {x k : Int} (hx : isW32 x) : impl_SumMore_l2 x k = spec_SumMore_l2 x k := by
  obtain ⟨n, rfl⟩ : ∃ n : Nat, x = n := ⟨x.toNat, by have := hx.1; omega⟩
  have hn : n < 2 ^ 32 := by have := hx.2; omega
  unfold impl_SumMore_l2 spec_SumMore_l2
  have e1 : bits .and .u32 (n : Int) 1 = ((n : Int)).tmod 2 := by
    rw [show ((1 : Int)) = ((1 : Nat) : Int) from rfl, and32 hn (by decide), show ((2 : Int)) = ((2 : Nat) : Int) from rfl, tmod_nat, Nat.and_one_is_mod]
  have e2 : wk .u32 (((n : Int)).tdiv 2) = shrI .u32 (n : Int) 1 := by
    rw [shr32_1, show ((2 : Int)) = ((2 : Nat) : Int) from rfl, tdiv_nat, wku32 (by omega) (by omega)]
  rw [e1, e2]
theorem w32_xor (x y : Int) : isW32 (bits .xor .u32 x y) := by
  unfold isW32
  show 0 ≤ wk .u32 _ ∧ wk .u32 _ < _
  rw [wku32_mod]
  omega
theorem w32_shr {x : Int} (hx : isW32 x) : isW32 (shrI .u32 x 1) := by
  obtain ⟨n, rfl⟩ : ∃ n : Nat, x = n := ⟨x.toNat, by have := hx.1; omega⟩
  have := hx.2
  rw [shr32_1]
  constructor <;> omega
theorem sum_inner {x : Int} (hx : isW32 x) : ∃ r, loopM (fun (s' : Int × Int) => impl_SumMore_l2 s'.1 s'.2) (x, 0) = some r ∧ loopM (fun (s' : Int × Int) => spec_SumMore_l2 s'.1 s'.2) (x, 0) = some r ∧ isW32 r := by
  obtain ⟨r, r', h1, h2, h3, h4⟩ := loopM_total2 (f := fun (s' : Int × Int) => impl_SumMore_l2 s'.1 s'.2) (g := fun (s' : Int × Int) => spec_SumMore_l2 s'.1 s'.2) (fun s t => s = t ∧ isW32 s.1 ∧ 0 ≤ s.2 ∧ s.2 ≤ 8) (fun s => (8 - s.2).toNat) (fun r r' => r = r' ∧ isW32 r)
    (s := (x, 0)) (t := (x, 0)) ⟨rfl, hx, by simp, by simp⟩ (fun s t hs => by
    obtain ⟨v, k⟩ := s
    obtain ⟨rfl, hv, h0, h8⟩ := hs
    simp only at hv h0 h8 ⊢
    rw [← sum_l2 hv]
    unfold impl_SumMore_l2
    by_cases q : k < 8
    · rw [ifT (by simpa using q), wk64 (x := k + 1) (by omega) (by omega)]
      split
      · exact .inl ⟨_, _, rfl, rfl, ⟨rfl, w32_xor _ _, by simp only; omega, by simp only; omega⟩, by simp only; omega⟩
      · exact .inl ⟨_, _, rfl, rfl, ⟨rfl, w32_shr hv, by simp only; omega, by simp only; omega⟩, by simp only; omega⟩
    · rw [ifF (by simpa using q)]
      exact .inr ⟨_, _, rfl, rfl, rfl, hv⟩)
  subst h3
  exact ⟨r, h1, h2, h4⟩
theorem sidx_in {s : ByteArray} {k : Nat} (h : k < s.size) : ∃ b : Nat, sidx s (k : Int) = some (b : Int) ∧ b < 256 := by
  unfold sidx
  rw [if_neg (by omega), Int.toNat_natCast, if_pos h]
  exact ⟨_, rfl, UInt8.toNat_lt _⟩
theorem sumMore_eq {x : Int} (hx : isW32 x) {text : ByteArray} (ht : text.size ≤ 1000000000) : ∃ r, impl_SumMore x text = some r ∧ spec_SumMore x text = some r ∧ isW32 r := by
  unfold impl_SumMore spec_SumMore
  obtain ⟨r, r', h1, h2, h3, h4⟩ := loopM_total2 (f := fun (s' : Int × Int) => impl_SumMore_l1 text s'.1 s'.2) (g := fun (s' : Int × Int) => spec_SumMore_l1 text s'.1 s'.2) (fun s t => s = t ∧ isW32 s.1 ∧ 0 ≤ s.2 ∧ s.2 ≤ text.size) (fun s => (text.size - s.2).toNat) (fun r r' => r = r' ∧ isW32 r)
    (s := (x, 0)) (t := (x, 0)) ⟨rfl, hx, by simp, by simp⟩ (fun s t hs => by
    obtain ⟨v, k⟩ := s
    obtain ⟨rfl, hv, h0, h8⟩ := hs
    simp only at hv h0 h8 ⊢
    obtain ⟨k, rfl⟩ : ∃ n : Nat, k = n := ⟨k.toNat, by omega⟩
    unfold impl_SumMore_l1 spec_SumMore_l1
    by_cases q : k < text.size
    · rw [ifT (by simpa using q), ifT (by simpa using q)]
      obtain ⟨b, hb, _⟩ := sidx_in q
      rw [hb, Option.bind_some, Option.bind_some]
      obtain ⟨z, g1, g2, g3⟩ := sum_inner (w32_xor v (wk .u32 (b : Int)))
      rw [g1, g2, Option.bind_some, Option.bind_some]
      unfold impl_SumMore_j2 spec_SumMore_j2
      rw [wk64 (by omega) (by omega)]
      exact .inl ⟨_, _, rfl, rfl, ⟨rfl, g3, by simp only; omega, by simp only; omega⟩, by simp only; omega⟩
    · rw [ifF (by simpa using q), ifF (by simpa using q)]
      exact .inr ⟨_, _, rfl, rfl, rfl, hv⟩)
  subst h3
  rw [h1, h2]
  exact ⟨r, rfl, rfl, h4⟩
theorem sumOf_eq {text : ByteArray} (ht : text.size ≤ 1000000000) : ∃ r, impl_SumOf text = some r ∧ spec_SumOf text = some r ∧ isW32 r := by
  obtain ⟨r, h1, h2, h3⟩ := sumMore_eq (x := 4294967295) ⟨by decide, by decide⟩ ht
  refine ⟨r, ?_, ?_, h3⟩
  · unfold impl_SumOf
    rw [h1]
    rfl
  · unfold spec_SumOf
    rw [h2]
    rfl
end Go.TV.F
/- Plain Lean: numbers of seven bits a byte. -/
namespace Go.TV.F
open Go.TV
/-- The bytes of a number, seven bits a byte. -/
def encL (n : Nat) : List Nat := if h : n ≤ 127 then [n] else (n % 128 + 128) :: encL (n / 128)
termination_by n
decreasing_by omega
def valL : List Nat → Nat
  | [] => 0
  | c :: l => c % 128 + 128 * valL l
theorem encL_lo {n : Nat} (h : n ≤ 127) : encL n = [n] := by rw [encL, dif_pos h]
theorem encL_hi {n : Nat} (h : ¬ n ≤ 127) : encL n = (n % 128 + 128) :: encL (n / 128) := by rw [encL, dif_neg h]
theorem valL_enc : ∀ n : Nat, valL (encL n) = n := by
  intro n
  induction n using Nat.strongRecOn with
  | _ n ih =>
    by_cases h : n ≤ 127
    · rw [encL_lo h]
      simp only [valL]
      omega
    · rw [encL_hi h, valL, ih (n / 128) (by omega)]
      omega
theorem valL_snoc (l : List Nat) (c : Nat) : valL (l ++ [c]) = valL l + c % 128 * 128 ^ l.length := by
  induction l with
  | nil => simp [valL]
  | cons x l ih =>
    rw [List.cons_append, valL, ih, valL, List.length_cons, Nat.pow_succ, Nat.mul_add]
    have : 128 * (c % 128 * 128 ^ l.length) = c % 128 * (128 ^ l.length * 128) := by
      rw [Nat.mul_comm, Nat.mul_assoc]
    omega
theorem valL_lt (l : List Nat) : valL l < 128 ^ l.length := by
  induction l with
  | nil => simp [valL]
  | cons x l ih =>
    rw [valL, List.length_cons, Nat.pow_succ]
    omega
theorem valL_pos {l : List Nat} {c : Nat} (h0 : c ≠ 0) (h1 : c < 128) : 0 < valL (l ++ [c]) := by
  rw [valL_snoc, Nat.mod_eq_of_lt h1]
  have := Nat.pow_pos (n := l.length) (show 0 < 128 by decide)
  have := Nat.mul_pos (Nat.pos_of_ne_zero h0) this
  omega
theorem enc_val_good : ∀ (l : List Nat) {c : Nat}, c ≠ 0 → c < 128 → (∀ x ∈ l, 128 ≤ x ∧ x < 256) → encL (valL (l ++ [c])) = l ++ [c]
  | [], c, _, h1, _ => by
    have e : valL ([] ++ [c]) = c := by simp only [List.nil_append, valL]; omega
    rw [e, encL_lo (by omega)]
    rfl
  | x :: l, c, h0, h1, hl => by
    have hx := hl x (by simp)
    have hp := valL_pos (l := l) h0 h1
    have ih := enc_val_good l h0 h1 (fun y hy => hl y (by simp [hy]))
    rw [List.cons_append, valL, encL_hi (by omega)]
    have e1 : (x % 128 + 128 * valL (l ++ [c])) % 128 + 128 = x := by omega
    have e2 : (x % 128 + 128 * valL (l ++ [c])) / 128 = valL (l ++ [c]) := by omega
    rw [e1, e2, ih]
theorem enc_last0 : ∀ (n : Nat) (l : List Nat), encL n = l ++ [0] → l = [] := by
  intro n
  induction n using Nat.strongRecOn with
  | _ n ih =>
    intro l h
    by_cases q : n ≤ 127
    · rw [encL_lo q] at h
      cases l with
      | nil => rfl
      | cons x l =>
        have := congrArg List.length h
        simp at this
    · rw [encL_hi q] at h
      cases l with
      | nil => rfl
      | cons x l =>
        rw [List.cons_append] at h
        injection h with h1 h2
        have e := ih (n / 128) (by omega) l h2
        subst e
        have := congrArg valL h2
        rw [valL_enc] at this
        simp only [List.nil_append, valL] at this
        omega
/-- Bytes are those of their number just when they are as few as can be. -/
theorem enc_val {l : List Nat} {c : Nat} (h1 : c < 128) (hl : ∀ x ∈ l, 128 ≤ x ∧ x < 256) : encL (valL (l ++ [c])) = l ++ [c] ↔ ¬ (c = 0 ∧ l ≠ []) := by
  constructor
  · rintro h ⟨rfl, hn⟩
    exact hn (enc_last0 _ _ h)
  · intro h
    by_cases h0 : c = 0
    · have : l = [] := by
        by_cases q : l = []
        · exact q
        · exact absurd ⟨h0, q⟩ h
      subst this
      subst h0
      rw [show valL ([] ++ [0]) = 0 from rfl, encL_lo (by omega)]
      rfl
    · exact enc_val_good l h0 h1 hl
theorem encL_byte : ∀ (n : Nat) (x : Nat), x ∈ encL n → x < 256 := by
  intro n
  induction n using Nat.strongRecOn with
  | _ n ih =>
    intro x hx
    by_cases q : n ≤ 127
    · rw [encL_lo q] at hx
      simp at hx
      omega
    · rw [encL_hi q] at hx
      rcases List.mem_cons.1 hx with rfl | h
      · omega
      · exact ih (n / 128) (by omega) x h
end Go.TV.F
/- Plain Lean: numbers and texts read. -/
namespace Go.TV.F
open Go.TV
theorem toList_loop (bs : ByteArray) : ∀ (m i : Nat) (r : List UInt8), i + m = bs.size → ByteArray.toList.loop bs i r = r.reverse ++ bs.data.toList.drop i
  | 0, i, r, h => by
    rw [ByteArray.toList.loop, if_neg (by omega), List.drop_eq_nil_of_le (by show bs.data.toList.length ≤ i; have : bs.data.toList.length = bs.size := rfl; omega), List.append_nil]
  | m + 1, i, r, h => by
    have hi : i < bs.data.toList.length := by have : bs.data.toList.length = bs.size := rfl; omega
    rw [ByteArray.toList.loop, if_pos (by omega), toList_loop bs m (i + 1) _ (by omega), List.drop_eq_getElem_cons hi]
    have e : bs.get! i = bs.data.toList[i] := by
      show bs.data[i]! = _
      rw [getElem!_pos bs.data i (by simpa using hi)]
      simp
    rw [e]
    simp
theorem toList_eq (bs : ByteArray) : bs.toList = bs.data.toList := by
  unfold ByteArray.toList
  rw [toList_loop bs bs.size 0 [] (by omega)]
  simp
/-- The bytes of a text, as numbers. -/
def nb (s : ByteArray) : List Nat := s.data.toList.map UInt8.toNat
theorem nb_len (s : ByteArray) : (nb s).length = s.size := by simp [nb]
theorem nb_inj {s t : ByteArray} (h : nb s = nb t) : s = t := by
  have : s.data.toList = t.data.toList := List.map_inj_right (fun a b hab => UInt8.toNat_inj.1 hab) |>.1 h
  exact ByteArray.ext (Array.toList_inj.1 this)
theorem beq_nb (s t : ByteArray) : (s.toList == t.toList) = decide (nb s = nb t) := by
  rw [toList_eq, toList_eq]
  by_cases h : nb s = nb t
  · have := nb_inj h
    subst this
    simp
  · rw [decide_eq_false h, beq_eq_false_iff_ne]
    intro he
    exact h (by unfold nb; rw [he])
theorem nb_lt {s : ByteArray} {x : Nat} (h : x ∈ nb s) : x < 256 := by
  obtain ⟨b, _, rfl⟩ := List.mem_map.1 h
  exact UInt8.toNat_lt b
theorem sidx_nb {s : ByteArray} {k : Nat} (h : k < s.size) : ∃ b : Nat, sidx s (k : Int) = some (b : Int) ∧ (nb s)[k]? = some b ∧ b < 256 := by
  unfold sidx
  rw [if_neg (by omega), Int.toNat_natCast, if_pos h]
  have hk : k < s.data.size := h
  refine ⟨(s.data[k]).toNat, ?_, ?_, UInt8.toNat_lt _⟩
  · unfold bt
    congr 2
    rw [Array.getD_eq_getD_getElem?, Array.getElem?_eq_getElem hk]
    rfl
  · simp [nb, hk, Array.getElem?_eq_getElem hk]
theorem nb_extract (s : ByteArray) (a b : Nat) : nb (s.extract a b) = ((nb s).drop a).take (b - a) := by
  have : (s.extract a b).data = s.data.extract a b := ByteArray.data_extract
  unfold nb
  rw [this, Array.toList_extract]
  simp [List.extract]
theorem nb_mkS {l : List Nat} (h : ∀ x ∈ l, x < 256) : nb (mkS (l.map fun x : Nat => (x : Int))) = l := by
  unfold nb mkS
  simp only [List.map_map]
  conv => rhs; rw [← List.map_id l]
  apply List.map_congr_left
  intro x hx
  have := h x hx
  simp
  omega
theorem nb_append (s t : ByteArray) : nb (s ++ t) = nb s ++ nb t := by
  unfold nb
  rw [ByteArray.data_append]
  simp
theorem mkS_app (l m : List Int) : mkS (l ++ m) = mkS l ++ mkS m := by
  apply ByteArray.ext
  simp [mkS, ByteArray.data_append]
theorem mkS_size (l : List Int) : (mkS l).size = l.length := by
  show (mkS l).data.size = _
  simp [mkS]
/-- A number's bytes. -/
def encS (n : Nat) : ByteArray := mkS ((encL n).map fun x : Nat => (x : Int))
theorem nb_encS (n : Nat) : nb (encS n) = encL n := nb_mkS (encL_byte n)
theorem var_loop : ∀ (n : Nat) (out : List Int), out.length + n ≤ 68719476736 → ∃ (c : Int) (o : List Int), loopM (fun (s' : Int × (List Int)) => spec_l01Var_l1 s'.1 s'.2) ((n : Int), out) = some (c, o) ∧ 0 ≤ c ∧ c ≤ 127 ∧ o ++ [c] = out ++ (encL n).map (fun x : Nat => (x : Int)) ∧ o.length ≤ 68719476736 := by
  intro n
  induction n using Nat.strongRecOn with
  | _ n ih =>
    intro out h
    rw [loopM_eq]
    simp only [spec_l01Var_l1]
    by_cases q : n ≤ 127
    · rw [ifF (by simp; omega)]
      refine ⟨_, _, rfl, by omega, by omega, ?_, by omega⟩
      rw [encL_lo q]
      rfl
    · rw [ifT (by simp; omega), show (128 : Int) = ((128 : Nat) : Int) from rfl, tmod_nat, tdiv_nat, wk64 (x := ((n % 128 : Nat) : Int) + ((128 : Nat) : Int)) (by omega) (by omega), wku8 (by omega) (by omega), appn_in (by simp; omega)]
      simp only [Option.bind_some, List.append_eq]
      rw [wk64 (x := ((n / 128 : Nat) : Int)) (by omega) (by omega)]
      obtain ⟨c, o, h1, h2, h3, h4, h5⟩ := ih (n / 128) (by omega) (out ++ [((n % 128 : Nat) : Int) + ((128 : Nat) : Int)]) (by simp; omega)
      refine ⟨c, o, h1, h2, h3, ?_, h5⟩
      rw [h4, encL_hi q]
      simp
theorem l01Var_eq {n : Nat} (h : n ≤ 34359738368) : spec_l01Var (n : Int) = some (encS n) := by
  unfold spec_l01Var
  obtain ⟨c, o, h1, h2, h3, h4, h5⟩ := var_loop n [] (by simp; omega)
  rw [h1]
  simp only [Option.bind_some]
  unfold spec_l01Var_j1
  rw [wku8 h2 (by omega), appn_in (by simp; omega), Option.bind_some, h4]
  rfl
end Go.TV.F
/- Plain Lean: steps: how large they are, copies, compares. -/
namespace Go.TV.F
open Go.TV
/-- A loop, by what stays true. -/
theorem loopM_inv {σ ρ : Type} {f : σ → Option (σ ⊕ ρ)} (I : σ → Prop) (m : σ → Nat) (Q : ρ → Prop) {s : σ} (h0 : I s)
    (h : ∀ s, I s → (∃ s', f s = some (.inl s') ∧ I s' ∧ m s' < m s) ∨ ∃ r, f s = some (.inr r) ∧ Q r) : ∃ r, loopM f s = some r ∧ Q r := by
  have key : ∀ n s, I s → m s = n → ∃ r, loopM f s = some r ∧ Q r := by
    intro n
    induction n using Nat.strongRecOn with
    | _ n ih =>
      intro s hs hm
      rw [loopM_eq f]
      rcases h s hs with ⟨s', h1, h2, h3⟩ | ⟨r, h1, h2⟩
      · rw [h1]
        exact ih (m s') (by omega) s' h2 rfl
      · rw [h1]
        exact ⟨r, rfl, h2⟩
  exact key _ s h0 rfl
theorem toIntS_eq {a : List Int} (h : a.length ≤ 1000000000) : laws_toIntS a = some a := by
  unfold laws_toIntS
  rw [mkl_in (by omega) (by omega), Option.bind_some, Int.toNat_natCast]
  have := to_loop (body := fun (s' : Int × List Int) => laws_toIntS_l1 a s'.1 s'.2) a (fun x => x) 0 (fun i x out hi hl => by
    have hlt := (List.getElem?_eq_some_iff.1 hi).1
    show laws_toIntS_l1 a i out = _
    unfold laws_toIntS_l1
    rw [ifT (by simpa using hlt), geti_nat, hi, Option.bind_some, geti_nat, List.getElem?_eq_getElem (by omega), Option.bind_some, wk64 (by omega) (by omega), Int.toNat_natCast]
    rfl) (fun out hl => by
    show laws_toIntS_l1 a a.length out = _
    unfold laws_toIntS_l1
    rw [ifF (by simp)])
  rw [this, List.map_id']
  rfl
theorem eqIntS_refl {a : List Int} (h : a.length ≤ 1000000000) : laws_eqIntS a a = some true := by
  unfold laws_eqIntS
  rw [ifF (by simp)]
  have := eq_loop (body := fun s' => laws_eqIntS_l1 a a s') (r := .inr ()) a.length (fun i hi => by
    unfold laws_eqIntS_l1
    rw [ifT (by simpa using hi), geti_nat, List.getElem?_eq_getElem hi, Option.bind_some, Option.bind_some, ifF (by simp), wk64 (by omega) (by omega)]
    rfl) (by
    unfold laws_eqIntS_l1
    rw [ifF (by simp)])
  rw [this]
  rfl
theorem eqStringS_refl {a : List ByteArray} (h : a.length ≤ 1000000000) : laws_eqStringS a a = some true := by
  unfold laws_eqStringS
  rw [ifF (by simp)]
  have := eq_loop (body := fun s' => laws_eqStringS_l1 a a s') (r := .inr ()) a.length (fun i hi => by
    unfold laws_eqStringS_l1
    rw [ifT (by simpa using hi), geti_nat, List.getElem?_eq_getElem hi, Option.bind_some, Option.bind_some, ifF (by simp), wk64 (by omega) (by omega)]
    rfl) (by
    unfold laws_eqStringS_l1
    rw [ifF (by simp)])
  rw [this]
  rfl

def BB : Nat := 1000000000000000
def wSS (l : List ByteArray) : Nat := l.length + sumOf ByteArray.size l
theorem szStringS_eq {a : List ByteArray} {s : Int} (h : a.length ≤ BB) (hx : ∀ x ∈ a, x.size ≤ BB) (h0 : 0 ≤ s) (h1 : s ≤ 1048576) : laws_szStringS a s = some (if (wSS a : Int) ≤ s then s - wSS a else -1) := by
  unfold laws_szStringS wSS
  unfold BB at h hx
  rw [wk64 (x := s - (a.length : Int)) (by omega) (by omega)]
  by_cases q : s - (a.length : Int) < 0
  · rw [ifT (by simpa using q), if_neg (by omega)]
  · rw [ifF (by simpa using q)]
    have := sz_loop (body := fun (s' : Int × Int) => laws_szStringS_l1 a s'.1 s'.2) ByteArray.size a (s - a.length) (by omega) (fun t i x hi h2 h3 => by
      have hlt := (List.getElem?_eq_some_iff.1 hi).1
      have hxs := hx x (List.mem_of_getElem? hi)
      show laws_szStringS_l1 a t i = _
      unfold laws_szStringS_l1
      rw [ifT (by simpa using hlt), geti_nat, hi, Option.bind_some, wk64 (x := t - (x.size : Int)) (by omega) (by omega)]
      by_cases q2 : (x.size : Int) ≤ t
      · rw [ifF (by simp; omega), if_pos q2, wk64 (by omega) (by omega)]
        rfl
      · rw [ifT (by simp; omega), if_neg q2]) (fun t => by
      show laws_szStringS_l1 a t a.length = _
      unfold laws_szStringS_l1
      rw [ifF (by simp)])
    rw [this, Option.bind_some]
    by_cases q2 : (sumOf ByteArray.size a : Int) ≤ s - a.length
    · rw [if_pos q2, if_pos (by omega)]
      simp only [laws_szStringS_j1]
      congr 1
      omega
    · rw [if_neg q2, if_neg (by omega)]
def okCh (c : T_laws_Change) : Prop := c.Path.size ≤ BB ∧ c.To.size ≤ BB ∧ c.Lines.length ≤ BB ∧ ∀ x ∈ c.Lines, x.size ≤ BB
def wCh (c : T_laws_Change) : Nat := c.Path.size + c.To.size + wSS c.Lines
theorem szChange_eq {a : T_laws_Change} {s : Int} (h : okCh a) (h0 : 0 ≤ s) (h1 : s ≤ 1048576) : laws_szChange a s = some (if (wCh a : Int) ≤ s then s - wCh a else -1) := by
  obtain ⟨g1, g2, g3, g4⟩ := h
  unfold laws_szChange wCh
  have g1' := g1; have g2' := g2
  unfold BB at g1' g2'
  rw [wk64 (x := s - (a.Path.size : Int)) (by omega) (by omega)]
  by_cases q : s - (a.Path.size : Int) < 0
  · rw [ifT (by simpa using q), if_neg (by omega)]
  rw [ifF (by simpa using q), wk64 (x := s - (a.Path.size : Int) - (a.To.size : Int)) (by omega) (by omega)]
  by_cases q2 : s - (a.Path.size : Int) - (a.To.size : Int) < 0
  · rw [ifT (by simpa using q2), if_neg (by omega)]
  rw [ifF (by simpa using q2), szStringS_eq g3 g4 (by omega) (by omega), Option.bind_some]
  by_cases q3 : (wSS a.Lines : Int) ≤ s - (a.Path.size : Int) - (a.To.size : Int)
  · rw [if_pos q3, ifF (by simp; omega), if_pos (by omega)]
    congr 1
    omega
  · rw [if_neg q3, ifT (by simp), if_neg (by omega)]
def wChS (l : List T_laws_Change) : Nat := l.length + sumOf wCh l
theorem szChangeS_eq {a : List T_laws_Change} {s : Int} (h : a.length ≤ BB) (hx : ∀ x ∈ a, okCh x) (h0 : 0 ≤ s) (h1 : s ≤ 1048576) : laws_szChangeS a s = some (if (wChS a : Int) ≤ s then s - wChS a else -1) := by
  unfold laws_szChangeS wChS
  unfold BB at h
  rw [wk64 (x := s - (a.length : Int)) (by omega) (by omega)]
  by_cases q : s - (a.length : Int) < 0
  · rw [ifT (by simpa using q), if_neg (by omega)]
  · rw [ifF (by simpa using q)]
    have := sz_loop (body := fun (s' : Int × Int) => laws_szChangeS_l1 a s'.1 s'.2) wCh a (s - a.length) (by omega) (fun t i x hi h2 h3 => by
      have hlt := (List.getElem?_eq_some_iff.1 hi).1
      have hxs := hx x (List.mem_of_getElem? hi)
      show laws_szChangeS_l1 a t i = _
      unfold laws_szChangeS_l1
      rw [ifT (by simpa using hlt), geti_nat, hi, Option.bind_some, szChange_eq hxs h2 (by omega), Option.bind_some]
      by_cases q2 : (wCh x : Int) ≤ t
      · rw [if_pos q2, ifF (by simp; omega), if_pos q2, wk64 (by omega) (by omega)]
        rfl
      · rw [if_neg q2, ifT (by simp), if_neg q2]) (fun t => by
      show laws_szChangeS_l1 a t a.length = _
      unfold laws_szChangeS_l1
      rw [ifF (by simp)])
    rw [this, Option.bind_some]
    by_cases q2 : (sumOf wCh a : Int) ≤ s - a.length
    · rw [if_pos q2, if_pos (by omega)]
      simp only [laws_szChangeS_j1]
      congr 1
      omega
    · rw [if_neg q2, if_neg (by omega)]
def okSt (x : T_laws_Step) : Prop := x.Parents.length ≤ BB ∧ x.Note.size ≤ BB ∧ x.Changes.length ≤ BB ∧ ∀ c ∈ x.Changes, okCh c
def wSt (x : T_laws_Step) : Nat := x.Parents.length + x.Note.size + wChS x.Changes
theorem szStep_eq {a : T_laws_Step} {s : Int} (h : okSt a) (h0 : 0 ≤ s) (h1 : s ≤ 1048576) : laws_szStep a s = some (if (wSt a : Int) ≤ s then s - wSt a else -1) := by
  obtain ⟨g1, g2, g3, g4⟩ := h
  unfold laws_szStep laws_szIntS wSt
  have g1' := g1; have g2' := g2
  unfold BB at g1' g2'
  rw [wk64 (x := s - (a.Parents.length : Int)) (by omega) (by omega)]
  by_cases q : s - (a.Parents.length : Int) < 0
  · rw [ifT (by simpa using q), Option.bind_some, ifT (by simp), if_neg (by omega)]
  rw [ifF (by simpa using q), Option.bind_some, ifF (by simpa using q), wk64 (x := s - (a.Parents.length : Int) - (a.Note.size : Int)) (by omega) (by omega)]
  by_cases q2 : s - (a.Parents.length : Int) - (a.Note.size : Int) < 0
  · rw [ifT (by simpa using q2), if_neg (by omega)]
  rw [ifF (by simpa using q2), szChangeS_eq g3 g4 (by omega) (by omega), Option.bind_some]
  by_cases q3 : (wChS a.Changes : Int) ≤ s - (a.Parents.length : Int) - (a.Note.size : Int)
  · rw [if_pos q3, ifF (by simp; omega), if_pos (by omega)]
    congr 1
    omega
  · rw [if_neg q3, ifT (by simp), if_neg (by omega)]
def wStS (l : List T_laws_Step) : Nat := l.length + sumOf wSt l
theorem szStepS_eq {a : List T_laws_Step} {s : Int} (h : a.length ≤ BB) (hx : ∀ x ∈ a, okSt x) (h0 : 0 ≤ s) (h1 : s ≤ 1048576) : laws_szStepS a s = some (if (wStS a : Int) ≤ s then s - wStS a else -1) := by
  unfold laws_szStepS wStS
  unfold BB at h
  rw [wk64 (x := s - (a.length : Int)) (by omega) (by omega)]
  by_cases q : s - (a.length : Int) < 0
  · rw [ifT (by simpa using q), if_neg (by omega)]
  · rw [ifF (by simpa using q)]
    have := sz_loop (body := fun (s' : Int × Int) => laws_szStepS_l1 a s'.1 s'.2) wSt a (s - a.length) (by omega) (fun t i x hi h2 h3 => by
      have hlt := (List.getElem?_eq_some_iff.1 hi).1
      have hxs := hx x (List.mem_of_getElem? hi)
      show laws_szStepS_l1 a t i = _
      unfold laws_szStepS_l1
      rw [ifT (by simpa using hlt), geti_nat, hi, Option.bind_some, szStep_eq hxs h2 (by omega), Option.bind_some]
      by_cases q2 : (wSt x : Int) ≤ t
      · rw [if_pos q2, ifF (by simp; omega), if_pos q2, wk64 (by omega) (by omega)]
        rfl
      · rw [if_neg q2, ifT (by simp), if_neg q2]) (fun t => by
      show laws_szStepS_l1 a t a.length = _
      unfold laws_szStepS_l1
      rw [ifF (by simp)])
    rw [this, Option.bind_some]
    by_cases q2 : (sumOf wSt a : Int) ≤ s - a.length
    · rw [if_pos q2, if_pos (by omega)]
      simp only [laws_szStepS_j1]
      congr 1
      omega
    · rw [if_neg q2, if_neg (by omega)]
/-! ### Copies -/
theorem toStringS_eq {a : List ByteArray} (h : a.length ≤ 1000000000) : laws_toStringS a = some a := by
  unfold laws_toStringS
  rw [mkl_in (by omega) (by omega), Option.bind_some, Int.toNat_natCast]
  have := to_loop (body := fun (s' : Int × List ByteArray) => laws_toStringS_l1 a s'.1 s'.2) a (fun x => x) (ByteArray.mk #[]) (fun i x out hi hl => by
    have hlt := (List.getElem?_eq_some_iff.1 hi).1
    show laws_toStringS_l1 a i out = _
    unfold laws_toStringS_l1
    rw [ifT (by simpa using hlt), geti_nat, hi, Option.bind_some, geti_nat, List.getElem?_eq_getElem (by omega), Option.bind_some, wk64 (by omega) (by omega), Int.toNat_natCast]
    rfl) (fun out hl => by
    show laws_toStringS_l1 a a.length out = _
    unfold laws_toStringS_l1
    rw [ifF (by simp)])
  rw [this, List.map_id']
  rfl
def toCh (c : T_laws_Change) : T_impl_Change := ⟨c.Kind, c.Path, c.To, c.Lines⟩
theorem toChange_eq {c : T_laws_Change} (h : c.Lines.length ≤ 1000000000) : laws_toChange c = some (toCh c) := by
  unfold laws_toChange
  rw [toStringS_eq h]
  rfl
theorem toChangeS_eq {a : List T_laws_Change} (h : a.length ≤ 1000000000) (hx : ∀ c ∈ a, c.Lines.length ≤ 1000000000) : laws_toChangeS a = some (a.map toCh) := by
  unfold laws_toChangeS
  rw [mkl_in (by omega) (by omega), Option.bind_some, Int.toNat_natCast]
  have := to_loop (body := fun (s' : Int × List T_impl_Change) => laws_toChangeS_l1 a s'.1 s'.2) a toCh (T_impl_Change.mk 0 (ByteArray.mk #[]) (ByteArray.mk #[]) []) (fun i x out hi hl => by
    have hlt := (List.getElem?_eq_some_iff.1 hi).1
    show laws_toChangeS_l1 a i out = _
    unfold laws_toChangeS_l1
    rw [ifT (by simpa using hlt), geti_nat, hi, Option.bind_some, toChange_eq (hx x (List.mem_of_getElem? hi)), Option.bind_some, geti_nat, List.getElem?_eq_getElem (by omega), Option.bind_some, wk64 (by omega) (by omega), Int.toNat_natCast]
    rfl) (fun out hl => by
    show laws_toChangeS_l1 a a.length out = _
    unfold laws_toChangeS_l1
    rw [ifF (by simp)])
  rw [this]
  rfl
def toSt (x : T_laws_Step) : T_impl_Step := ⟨x.Parents, x.Note, x.Changes.map toCh⟩
def smSt (x : T_laws_Step) : Prop := x.Parents.length ≤ 1000000000 ∧ x.Changes.length ≤ 1000000000 ∧ ∀ c ∈ x.Changes, c.Lines.length ≤ 1000000000
theorem toStep_eq {x : T_laws_Step} (h : smSt x) : laws_toStep x = some (toSt x) := by
  unfold laws_toStep
  rw [toIntS_eq h.1, Option.bind_some, toChangeS_eq h.2.1 h.2.2]
  rfl
theorem toStepS_eq {a : List T_laws_Step} (h : a.length ≤ 1000000000) (hx : ∀ c ∈ a, smSt c) : laws_toStepS a = some (a.map toSt) := by
  unfold laws_toStepS
  rw [mkl_in (by omega) (by omega), Option.bind_some, Int.toNat_natCast]
  have := to_loop (body := fun (s' : Int × List T_impl_Step) => laws_toStepS_l1 a s'.1 s'.2) a toSt (T_impl_Step.mk [] (ByteArray.mk #[]) []) (fun i x out hi hl => by
    have hlt := (List.getElem?_eq_some_iff.1 hi).1
    show laws_toStepS_l1 a i out = _
    unfold laws_toStepS_l1
    rw [ifT (by simpa using hlt), geti_nat, hi, Option.bind_some, toStep_eq (hx x (List.mem_of_getElem? hi)), Option.bind_some, geti_nat, List.getElem?_eq_getElem (by omega), Option.bind_some, wk64 (by omega) (by omega), Int.toNat_natCast]
    rfl) (fun out hl => by
    show laws_toStepS_l1 a a.length out = _
    unfold laws_toStepS_l1
    rw [ifF (by simp)])
  rw [this]
  rfl
/-! ### Compares -/
theorem eqChange_refl {a : T_impl_Change} (h : a.Lines.length ≤ 1000000000) : laws_eqChange a a = some true := by
  unfold laws_eqChange
  rw [eqStringS_refl h]
  simp
theorem eqChangeS_refl {a : List T_impl_Change} (h : a.length ≤ 1000000000) (hx : ∀ c ∈ a, c.Lines.length ≤ 1000000000) : laws_eqChangeS a a = some true := by
  unfold laws_eqChangeS
  rw [ifF (by simp)]
  have := eq_loop (body := fun s' => laws_eqChangeS_l1 a a s') (r := .inr ()) a.length (fun i hi => by
    unfold laws_eqChangeS_l1
    rw [ifT (by simpa using hi), geti_nat, List.getElem?_eq_getElem hi, Option.bind_some, Option.bind_some, eqChange_refl (hx _ (List.getElem_mem hi)), Option.bind_some, ifF (by simp), wk64 (by omega) (by omega)]
    rfl) (by
    unfold laws_eqChangeS_l1
    rw [ifF (by simp)])
  rw [this]
  rfl
def smI (x : T_impl_Step) : Prop := x.Parents.length ≤ 1000000000 ∧ x.Changes.length ≤ 1000000000 ∧ ∀ c ∈ x.Changes, c.Lines.length ≤ 1000000000
theorem eqStep_refl {a : T_impl_Step} (h : smI a) : laws_eqStep a a = some true := by
  unfold laws_eqStep
  rw [eqIntS_refl h.1, eqChangeS_refl h.2.1 h.2.2]
  simp
theorem eqStepS_refl {a : List T_impl_Step} (h : a.length ≤ 1000000000) (hx : ∀ c ∈ a, smI c) : laws_eqStepS a a = some true := by
  unfold laws_eqStepS
  rw [ifF (by simp)]
  have := eq_loop (body := fun s' => laws_eqStepS_l1 a a s') (r := .inr ()) a.length (fun i hi => by
    unfold laws_eqStepS_l1
    rw [ifT (by simpa using hi), geti_nat, List.getElem?_eq_getElem hi, Option.bind_some, Option.bind_some, eqStep_refl (hx _ (List.getElem_mem hi)), Option.bind_some, ifF (by simp), wk64 (by omega) (by omega)]
    rfl) (by
    unfold laws_eqStepS_l1
    rw [ifF (by simp)])
  rw [this]
  rfl
end Go.TV.F
/- Plain Lean: BundleText is the reference's. -/
namespace Go.TV.F
open Go.TV
theorem wkS (k : Nat) (h : k < 1000000000) : wk .i64 ((k : Int) + 1) = ((k + 1 : Nat) : Int) := by rw [wk64 (by omega) (by omega)]; omega
theorem empty_app (s : ByteArray) : ByteArray.mk #[] ++ s = s := by
  apply ByteArray.ext
  rw [ByteArray.data_append]
  simp
theorem app_empty (s : ByteArray) : s ++ ByteArray.mk #[] = s := by
  apply ByteArray.ext
  rw [ByteArray.data_append]
  simp
theorem app_assoc (s t u : ByteArray) : s ++ t ++ u = s ++ (t ++ u) := by
  apply ByteArray.ext
  simp only [ByteArray.data_append, Array.append_assoc]
def cat : List ByteArray → ByteArray
  | [] => ByteArray.mk #[]
  | s :: l => s ++ cat l
theorem cat_app (l m : List ByteArray) : cat (l ++ m) = cat l ++ cat m := by
  induction l with
  | nil => simp [cat, empty_app]
  | cons s l ih => simp [cat, ih, app_assoc]
theorem cat_one (s : ByteArray) : cat [s] = s := by simp [cat, app_empty]
theorem cat_size {l : List ByteArray} {M : Nat} (h : ∀ x ∈ l, x.size ≤ M) : (cat l).size ≤ l.length * M := by
  induction l with
  | nil => exact Nat.zero_le _
  | cons s l ih =>
    have h1 := h s (by simp)
    have h2 := ih (fun x hx => h x (by simp [hx]))
    simp only [cat, ByteArray.size_append, List.length_cons, Nat.add_mul]
    omega
theorem cat_take {α : Type} {l : List α} {f : α → ByteArray} {k : Nat} (hk : k < l.length) : cat ((l.take (k + 1)).map f) = cat ((l.take k).map f) ++ f l[k] := by
  rw [List.take_add_one, List.getElem?_eq_getElem hk, List.map_append, cat_app]
  simp only [Option.toList_some, List.map_cons, List.map_nil, cat_one]
theorem cat_take_le {α : Type} {l : List α} {f : α → ByteArray} (k : Nat) : (cat ((l.take k).map f)).size ≤ (cat (l.map f)).size := by
  have : l.map f = (l.take k).map f ++ (l.drop k).map f := by rw [← List.map_append, List.take_append_drop]
  rw [this, cat_app, ByteArray.size_append]
  omega
theorem acc_loop {α : Type} {l : List α} {f : α → ByteArray} {M : Nat} {body : Int × ByteArray → Option ((Int × ByteArray) ⊕ ByteArray)} {b0 : ByteArray} (hb : b0.size + l.length * M ≤ 400000000) (hf : ∀ x ∈ l, (f x).size ≤ M)
    (hs : ∀ (i : Nat) (x : α) (b : ByteArray), l[i]? = some x → x ∈ l → b.size + M ≤ 400000000 → body ((i : Int), b) = some (.inl (((i + 1 : Nat) : Int), b ++ f x)))
    (he : ∀ b : ByteArray, body ((l.length : Int), b) = some (.inr b)) : loopM body (0, b0) = some (b0 ++ cat (l.map f)) := by
  have h0 : (0, b0) = ((((0 : Nat) : Int), b0 ++ cat ((l.take 0).map f)) : Int × ByteArray) := by simp [cat, app_empty]
  rw [h0]
  refine loopM_at (fun k => ((k : Int), b0 ++ cat ((l.take k).map f))) l.length (fun k hk => ?_) (by rw [he, List.take_length])
  have hsz : (cat ((l.take k).map f)).size ≤ k * M := by
    have := cat_size (l := (l.take k).map f) (M := M) (fun x hx => by
      obtain ⟨y, hy, rfl⟩ := List.mem_map.1 hx
      exact hf y (List.mem_of_mem_take hy))
    rw [List.length_map, List.length_take, Nat.min_eq_left (by omega)] at this
    exact this
  have hkM : (k + 1) * M ≤ l.length * M := Nat.mul_le_mul_right _ hk
  rw [Nat.add_mul, Nat.one_mul] at hkM
  rw [hs k l[k] _ (List.getElem?_eq_getElem hk) (List.getElem_mem hk) (by rw [ByteArray.size_append]; omega), cat_take hk, app_assoc]
theorem acc_loop2 {α : Type} {l : List α} {f : α → ByteArray} {M : Nat} {body : ByteArray × Int → Option ((ByteArray × Int) ⊕ ByteArray)} {b0 : ByteArray} (hb : b0.size + l.length * M ≤ 400000000) (hf : ∀ x ∈ l, (f x).size ≤ M)
    (hs : ∀ (i : Nat) (x : α) (b : ByteArray), l[i]? = some x → x ∈ l → b.size + M ≤ 400000000 → body (b, (i : Int)) = some (.inl (b ++ f x, ((i + 1 : Nat) : Int))))
    (he : ∀ b : ByteArray, body (b, (l.length : Int)) = some (.inr b)) : loopM body (b0, 0) = some (b0 ++ cat (l.map f)) := by
  have h0 : (b0, 0) = ((b0 ++ cat ((l.take 0).map f), ((0 : Nat) : Int)) : ByteArray × Int) := by simp [cat, app_empty]
  rw [h0]
  refine loopM_at (fun k => (b0 ++ cat ((l.take k).map f), (k : Int))) l.length (fun k hk => ?_) (by rw [he, List.take_length])
  have hsz : (cat ((l.take k).map f)).size ≤ k * M := by
    have := cat_size (l := (l.take k).map f) (M := M) (fun x hx => by
      obtain ⟨y, hy, rfl⟩ := List.mem_map.1 hx
      exact hf y (List.mem_of_mem_take hy))
    rw [List.length_map, List.length_take, Nat.min_eq_left (by omega)] at this
    exact this
  have hkM : (k + 1) * M ≤ l.length * M := Nat.mul_le_mul_right _ hk
  rw [Nat.add_mul, Nat.one_mul] at hkM
  rw [hs k l[k] _ (List.getElem?_eq_getElem hk) (List.getElem_mem hk) (by rw [ByteArray.size_append]; omega), cat_take hk, app_assoc]
/-! ### Numbers and texts in bytes -/
theorem encL_len5 : ∀ (k n : Nat), n < 128 ^ (k + 1) → (encL n).length ≤ k + 1
  | 0, n, h => by rw [encL_lo (by simpa using Nat.le_of_lt_succ h)]; simp
  | k + 1, n, h => by
    by_cases q : n ≤ 127
    · rw [encL_lo q]
      simp
    · rw [encL_hi q]
      have := encL_len5 k (n / 128) (by rw [Nat.pow_succ] at h; exact Nat.div_lt_of_lt_mul (by rw [Nat.mul_comm]; exact h))
      simp
      exact this
theorem encS_size {n : Nat} (h : n ≤ 1000000000) : (encS n).size ≤ 5 := by
  rw [← nb_len, nb_encS]
  exact encL_len5 4 n (by omega)
theorem var_loopI : ∀ (n : Nat) (out : List Int), out.length + n ≤ 68719476736 → ∃ (c : Int) (o : List Int), loopM (fun (s' : Int × (List Int)) => impl_varText_l1 s'.1 s'.2) ((n : Int), out) = some (c, o) ∧ 0 ≤ c ∧ c ≤ 127 ∧ o ++ [c] = out ++ (encL n).map (fun x : Nat => (x : Int)) ∧ o.length ≤ 68719476736 := by
  intro n
  induction n using Nat.strongRecOn with
  | _ n ih =>
    intro out h
    rw [loopM_eq]
    simp only [impl_varText_l1]
    by_cases q : n ≤ 127
    · rw [ifF (by simp; omega)]
      refine ⟨_, _, rfl, by omega, by omega, ?_, by omega⟩
      rw [encL_lo q]
      rfl
    · rw [ifT (by simp; omega), show (128 : Int) = ((128 : Nat) : Int) from rfl, tmod_nat, tdiv_nat, wk64 (x := ((128 : Nat) : Int) + ((n % 128 : Nat) : Int)) (by omega) (by omega), wku8 (by omega) (by omega), appn_in (by simp; omega)]
      simp only [Option.bind_some, List.append_eq]
      rw [wk64 (x := ((n / 128 : Nat) : Int)) (by omega) (by omega)]
      obtain ⟨c, o, h1, h2, h3, h4, h5⟩ := ih (n / 128) (by omega) (out ++ [((128 : Nat) : Int) + ((n % 128 : Nat) : Int)]) (by simp; omega)
      refine ⟨c, o, h1, h2, h3, ?_, h5⟩
      rw [h4, encL_hi q]
      simp
      omega
theorem varText_eq {n : Nat} (h : n ≤ 34359738368) : impl_varText (n : Int) = some (encS n) := by
  unfold impl_varText
  obtain ⟨c, o, h1, h2, h3, h4, h5⟩ := var_loopI n [] (by simp; omega)
  rw [h1]
  simp only [Option.bind_some]
  unfold impl_varText_j1
  rw [wku8 h2 (by omega), appn_in (by simp; omega), Option.bind_some, h4]
  rfl
def shS (s : ByteArray) : ByteArray := encS s.size ++ s
theorem shS_size {s : ByteArray} (h : s.size ≤ 1000000000) : (shS s).size ≤ 5 + s.size := by
  have := encS_size h
  unfold shS
  rw [ByteArray.size_append]
  omega
theorem shortI_eq {s : ByteArray} (h : s.size ≤ 1000000000) : impl_shortText s = some (shS s) := by
  have := encS_size h
  unfold impl_shortText
  rw [varText_eq (by omega), Option.bind_some, sapp_in (by omega)]
  rfl
theorem shortS_eq {s : ByteArray} (h : s.size ≤ 1000000000) : spec_l17Short s = some (shS s) := by
  have := encS_size h
  unfold spec_l17Short
  rw [l01Var_eq (by omega), Option.bind_some, sapp_in (by omega)]
  rfl
theorem wstr_in {b x : ByteArray} (h : b.size + x.size ≤ 549755813888) : strings_Builder_WriteString b x = some (b ++ x) := by
  unfold strings_Builder_WriteString
  rw [if_pos h]
/-! ### What can be told -/
def lineB (s : ByteArray) : Bool := decide (s.size ≤ 60) && decide ((10 : Nat) ∉ nb s)
theorem lineS_eq {s : ByteArray} (h : s.size ≤ 1000000000) : spec_LineOk s = some (lineB s) := by
  unfold spec_LineOk lineB
  have hl := nb_len s
  have := loopM_all (body := fun s' => spec_LineOk_l1 s s') (good := .inr ()) (bad := .inl false) (fun k => (k : Int)) s.size (fun k => decide ((nb s)[k]? ≠ some 10)) (fun k hk _ hp => by
    obtain ⟨b, g1, g2, _⟩ := sidx_nb hk
    unfold spec_LineOk_l1
    rw [ifT (by simpa using hk), g1, Option.bind_some]
    rw [g2] at hp
    have hb : ¬ b = 10 := by simpa using hp
    rw [ifF (by simp; omega), wkS k (by omega)]) (fun k hk _ hp => by
    obtain ⟨b, g1, g2, _⟩ := sidx_nb hk
    unfold spec_LineOk_l1
    rw [ifT (by simpa using hk), g1, Option.bind_some]
    rw [g2] at hp
    have hb : b = 10 := by simpa using hp
    rw [ifT (by simp; omega)]) (fun _ => by
    unfold spec_LineOk_l1
    rw [ifF (by simp)])
  have e0 : ((0 : Nat) : Int) = 0 := rfl
  rw [e0] at this
  rw [this]
  have hiff : ((List.range s.size).all fun k => decide ((nb s)[k]? ≠ some 10)) = decide ((10 : Nat) ∉ nb s) := by
    rw [Bool.eq_iff_iff, List.all_eq_true, decide_eq_true_eq]
    constructor
    · intro hh hm
      obtain ⟨k, hk, hk2⟩ := List.getElem_of_mem hm
      have := hh k (List.mem_range.2 (by omega))
      rw [List.getElem?_eq_getElem hk, hk2] at this
      simp at this
    · intro hh k hk
      simp only [decide_eq_true_eq]
      intro hq
      exact hh (List.mem_of_getElem? hq)
  rw [hiff]
  unfold spec_LineOk_j1
  cases decide ((10 : Nat) ∉ nb s) with
  | true =>
    simp
    omega
  | false => simp
theorem idxB_iff (s : ByteArray) : decide (idxB s 10 ≥ 0) = decide ((10 : Nat) ∈ nb s) := by
  unfold idxB
  have hl := nb_len s
  have hat : ∀ i, i < s.size → ((s[i]! == (10 : Int).toNat.toUInt8) = true ↔ (nb s)[i]? = some 10) := by
    intro i hi
    have e1 : s[i]! = s.data[i]'(hi) := by
      rw [getElem!_pos s i hi]
      rfl
    have e2 : (nb s)[i]? = some (s.data[i]'(hi)).toNat := by
      unfold nb
      rw [List.getElem?_map, Array.getElem?_toList, Array.getElem?_eq_getElem hi]
      rfl
    rw [e1, e2, beq_iff_eq, Option.some.injEq]
    constructor
    · intro h
      rw [h]
      rfl
    · intro h
      apply UInt8.toNat_inj.1
      rw [h]
      rfl
  cases h : (List.range s.size).find? fun i => s[i]! == (10 : Int).toNat.toUInt8 with
  | some i =>
    have h1 := List.find?_some h
    have h2 := List.mem_range.1 (List.mem_of_find?_eq_some h)
    have := (hat i h2).1 h1
    rw [decide_eq_true (List.mem_of_getElem? this)]
    simp
  | none =>
    have h1 := List.find?_eq_none.1 h
    have : (10 : Nat) ∉ nb s := fun hm => by
      obtain ⟨k, hk, hk2⟩ := List.getElem_of_mem hm
      refine h1 k (List.mem_range.2 (by omega)) ((hat k (by omega)).2 ?_)
      rw [List.getElem?_eq_getElem hk, hk2]
    rw [decide_eq_false this]
    simp
theorem lineI_eq {s : ByteArray} : impl_LineOk s = some (lineB s) := by
  unfold impl_LineOk lineB
  by_cases q : s.size ≤ 60
  · rw [ifT (by simp; omega)]
    have hc : strings_Contains s (ByteArray.mk #[10]) = some (decide ((10 : Nat) ∈ nb s)) := by
      unfold strings_Contains strings_Index internal_stringslite_Index
      have e1 : ((ByteArray.mk #[10]).size : Int) = 1 := rfl
      rw [e1]
      rw [ifF (by decide)]
      simp only [Option.bind_some]
      cases h : ((ByteArray.mk #[10]).toList == s.toList) with
      | true =>
        simp only [if_true, Option.bind_some]
        rw [beq_nb] at h
        have h' : nb (ByteArray.mk #[10]) = nb s := by simpa using h
        rw [← h']
        rfl
      | false =>
        simp only [Bool.false_eq_true, if_false]
        rw [ifT (by decide)]
        have : sidx (ByteArray.mk #[10]) 0 = some 10 := rfl
        rw [this]
        simp only [Option.bind_some, internal_stringslite_IndexByte]
        rw [idxB_iff]
    rw [hc]
    simp only [Option.bind_some]
    have : decide (s.size ≤ 60) = true := decide_eq_true q
    rw [this, Bool.true_and]
    congr 1
    by_cases h : (10 : Nat) ∈ nb s <;> simp [h]
  · rw [ifF (by simp; omega)]
    simp [q]
def linesB (l : List ByteArray) : Bool := decide (l.length ≤ 80) && l.all lineB
theorem all_range {α : Type} (l : List α) (p : α → Bool) : ((List.range l.length).all fun k => (l[k]?.map p).getD true) = l.all p := by
  rw [Bool.eq_iff_iff, List.all_eq_true, List.all_eq_true]
  constructor
  · intro h x hx
    obtain ⟨k, hk, rfl⟩ := List.getElem_of_mem hx
    have := h k (List.mem_range.2 hk)
    rw [List.getElem?_eq_getElem hk] at this
    exact this
  · intro h k hk
    rw [List.getElem?_eq_getElem (List.mem_range.1 hk)]
    exact h _ (List.getElem_mem _)
theorem linesI_eq {l : List ByteArray} : impl_LinesOk l = some (linesB l) := by
  unfold impl_LinesOk linesB
  by_cases q : l.length ≤ 80
  · rw [ifT (by simp; omega), decide_eq_true q, Bool.true_and]
    unfold impl_areLines
    have := loopM_all (body := fun s' => impl_areLines_l1 l s') (good := .inr ()) (bad := .inl false) (fun k => (k : Int)) l.length (fun k => (l[k]?.map lineB).getD true) (fun k hk _ hp => by
      unfold impl_areLines_l1
      rw [List.getElem?_eq_getElem hk] at hp
      rw [ifT (by simpa using hk), geti_nat, List.getElem?_eq_getElem hk, Option.bind_some, lineI_eq, Option.bind_some, ifF (by simpa using hp), wkS k (by omega)]) (fun k hk _ hp => by
      unfold impl_areLines_l1
      rw [List.getElem?_eq_getElem hk] at hp
      rw [ifT (by simpa using hk), geti_nat, List.getElem?_eq_getElem hk, Option.bind_some, lineI_eq, Option.bind_some, ifT (by simpa using hp)]) (fun _ => by
      unfold impl_areLines_l1
      rw [ifF (by simp)])
    have e0 : ((0 : Nat) : Int) = 0 := rfl
    rw [e0] at this
    rw [this, all_range]
    cases l.all lineB <;> rfl
  · rw [ifF (by simp; omega), decide_eq_false q]
    rfl
theorem linesS_eq {l : List ByteArray} (hx : ∀ x ∈ l, x.size ≤ 1000000000) : spec_LinesOk l = some (linesB l) := by
  unfold spec_LinesOk spec_l03All linesB
  by_cases q : l.length ≤ 80
  · rw [ifF (by simp; omega), decide_eq_true q, Bool.true_and]
    have := loopM_all (body := fun s' => spec_l03All_l1 l s') (good := .inr ()) (bad := .inl false) (fun k => (k : Int)) l.length (fun k => (l[k]?.map lineB).getD true) (fun k hk _ hp => by
      unfold spec_l03All_l1
      rw [List.getElem?_eq_getElem hk] at hp
      rw [ifT (by simpa using hk), geti_nat, List.getElem?_eq_getElem hk, Option.bind_some, lineS_eq (hx _ (List.getElem_mem hk)), Option.bind_some, ifF (by simpa using hp), wkS k (by omega)]) (fun k hk _ hp => by
      unfold spec_l03All_l1
      rw [List.getElem?_eq_getElem hk] at hp
      rw [ifT (by simpa using hk), geti_nat, List.getElem?_eq_getElem hk, Option.bind_some, lineS_eq (hx _ (List.getElem_mem hk)), Option.bind_some, ifT (by simpa using hp)]) (fun _ => by
      unfold spec_l03All_l1
      rw [ifF (by simp)])
    have e0 : ((0 : Nat) : Int) = 0 := rfl
    rw [e0] at this
    rw [this, all_range]
    cases l.all lineB <;> rfl
  · rw [ifT (by simp; omega), decide_eq_false q]
    rfl
end Go.TV.F
/- Plain Lean: steps in bytes, the code's side. -/
namespace Go.TV.F
open Go.TV
theorem e0size : (ByteArray.mk #[]).size = 0 := rfl
theorem mkS_bytesL (s : ByteArray) : mkS (bytesL s) = s := by
  apply ByteArray.ext
  apply Array.ext'
  unfold mkS bytesL
  simp only [List.map_map]
  have : ((fun n : Int => UInt8.ofNat n.toNat) ∘ fun b : UInt8 => (b.toNat : Int)) = id := by
    funext b
    simp
  rw [this, List.map_id]
theorem bytesL_app (s t : ByteArray) : bytesL (s ++ t) = bytesL s ++ bytesL t := by
  unfold bytesL
  rw [ByteArray.data_append, Array.toList_append, List.map_append]
theorem bytesL_len (s : ByteArray) : (bytesL s).length = s.size := by simp [bytesL]
def inR (n : Int) (a b : Int) : Bool := decide (a ≤ n) && decide (n ≤ b)
theorem inRangeI_eq (n a b : Int) : impl_inRange n a b = some (inR n a b) := by
  unfold impl_inRange inR
  by_cases h : a ≤ n
  · rw [ifT (by simpa using h), decide_eq_true h]
    rfl
  · rw [ifF (by simpa using h), decide_eq_false h]
    rfl
theorem inRangeS_eq (n a b : Int) : spec_l01In n a b = some (inR n a b) := by
  unfold spec_l01In inR
  by_cases h : a ≤ n
  · rw [ifT (by simpa using h), decide_eq_true h]
    rfl
  · rw [ifF (by simpa using h), decide_eq_false h]
    rfl
def okP (n : Int) : Bool := inR n 0 1000000000
def okC (c : T_impl_Change) : Bool := inR c.Kind 0 255 && (decide (c.Path.size ≤ 60000) && (decide (c.To.size ≤ 60000) && linesB c.Lines))
def okX (x : T_impl_Step) : Bool := (decide (x.Parents.length ≤ 4) && (decide (x.Changes.length ≤ 8) && decide (x.Note.size ≤ 60000))) && (x.Parents.all okP && x.Changes.all okC)
theorem numbersI_eq {l : List Int} (h : l.length ≤ 1000) : impl_numbersOk l = some (l.all okP) := by
  unfold impl_numbersOk
  have := loopM_all (body := fun s' => impl_numbersOk_l1 l s') (good := .inr ()) (bad := .inl false) (fun k => (k : Int)) l.length (fun k => (l[k]?.map okP).getD true) (fun k hk _ hp => by
    unfold impl_numbersOk_l1
    rw [List.getElem?_eq_getElem hk] at hp
    rw [ifT (by simpa using hk), geti_nat, List.getElem?_eq_getElem hk, Option.bind_some, inRangeI_eq, Option.bind_some, ifF (by simpa [okP] using hp), wkS k (by omega)]) (fun k hk _ hp => by
    unfold impl_numbersOk_l1
    rw [List.getElem?_eq_getElem hk] at hp
    rw [ifT (by simpa using hk), geti_nat, List.getElem?_eq_getElem hk, Option.bind_some, inRangeI_eq, Option.bind_some, ifT (by simpa [okP] using hp)]) (fun _ => by
    unfold impl_numbersOk_l1
    rw [ifF (by simp)])
  have e0 : ((0 : Nat) : Int) = 0 := rfl
  rw [e0] at this
  rw [this, all_range]
  cases l.all okP <;> rfl
theorem stepOkI_eq {x : T_impl_Step} : impl_stepOk x = some (okX x) := by
  unfold impl_stepOk okX
  by_cases q1 : x.Parents.length ≤ 4
  · rw [ifF (by simp; omega), numbersI_eq (by omega), decide_eq_true q1]
    simp only [Option.bind_some, Bool.true_and]
    cases hp : x.Parents.all okP with
    | false =>
      simp
    | true =>
      simp only [Bool.not_true, Bool.false_eq_true, if_false, Option.bind_some, Bool.true_and]
      by_cases q2 : x.Changes.length ≤ 8
      · have : decide ((x.Changes.length : Int) > 8) = false := by simp; omega
        rw [this, decide_eq_true q2]
        simp only [Bool.false_eq_true, if_false, Option.bind_some, Bool.true_and]
        by_cases q3 : x.Note.size ≤ 60000
        · rw [ifF (by simp; omega), decide_eq_true q3, Bool.true_and]
          have step : ∀ (k : Nat) (hk : k < x.Changes.length), impl_stepOk_l1 x (k : Int) = some (if okC x.Changes[k] = true then .inl ((k + 1 : Nat) : Int) else .inr (.inl false)) := fun k hk => by
            unfold impl_stepOk_l1
            rw [ifT (by simpa using hk), geti_nat, List.getElem?_eq_getElem hk, Option.bind_some, inRangeI_eq, Option.bind_some, linesI_eq, wkS k (by omega)]
            generalize x.Changes[k] = c
            unfold okC
            cases inR c.Kind 0 255 with
            | false => rfl
            | true =>
              by_cases p1 : c.Path.size ≤ 60000
              · have e1 : decide ((c.Path.size : Int) > 60000) = false := by simp; omega
                rw [decide_eq_true p1, e1]
                by_cases p2 : c.To.size ≤ 60000
                · have e2 : decide ((c.To.size : Int) > 60000) = false := by simp; omega
                  rw [decide_eq_true p2, e2]
                  cases linesB c.Lines <;> rfl
                · have e2 : decide ((c.To.size : Int) > 60000) = true := by simp; omega
                  rw [decide_eq_false p2, e2]
                  rfl
              · have e1 : decide ((c.Path.size : Int) > 60000) = true := by simp; omega
                rw [decide_eq_false p1, e1]
                rfl
          have := loopM_all (body := fun s' => impl_stepOk_l1 x s') (good := .inr ()) (bad := .inl false) (fun k => (k : Int)) x.Changes.length (fun k => (x.Changes[k]?.map okC).getD true) (fun k hk _ hp => by
            rw [List.getElem?_eq_getElem hk] at hp
            show impl_stepOk_l1 x k = _
            rw [step k hk, if_pos (by simpa using hp)]) (fun k hk _ hp => by
            rw [List.getElem?_eq_getElem hk] at hp
            show impl_stepOk_l1 x k = _
            rw [step k hk, if_neg (by simpa using hp)]) (fun _ => by
            unfold impl_stepOk_l1
            rw [ifF (by simp)])
          have e0 : ((0 : Nat) : Int) = 0 := rfl
          rw [e0] at this
          rw [this, all_range]
          cases x.Changes.all okC <;> rfl
        · rw [ifT (by simp; omega), decide_eq_false q3]
          rfl
      · have : decide ((x.Changes.length : Int) > 8) = true := by simp; omega
        rw [this, decide_eq_false q2]
        simp
  · rw [ifT (by simp; omega), decide_eq_false q1]
    rfl
/-! ### The text of a step -/
def chS (c : T_impl_Change) : ByteArray := mkS [wk .u8 c.Kind] ++ shS c.Path ++ shS c.To ++ encS c.Lines.length ++ cat (c.Lines.map shS)
def prS (l : List Int) : ByteArray := encS l.length ++ cat (l.map fun n => encS n.toNat)
def stS (x : T_impl_Step) : ByteArray := prS x.Parents ++ shS x.Note ++ encS x.Changes.length ++ cat (x.Changes.map chS)
theorem okC_parts {c : T_impl_Change} (h : okC c = true) : c.Path.size ≤ 60000 ∧ c.To.size ≤ 60000 ∧ c.Lines.length ≤ 80 ∧ ∀ s ∈ c.Lines, s.size ≤ 60 := by
  unfold okC linesB lineB at h
  simp only [Bool.and_eq_true, decide_eq_true_eq, List.all_eq_true] at h
  exact ⟨h.2.1, h.2.2.1, h.2.2.2.1, fun s hs => (h.2.2.2.2 s hs).1⟩
theorem cat_lines {l : List ByteArray} (h1 : l.length ≤ 80) (h2 : ∀ s ∈ l, s.size ≤ 60) : (cat (l.map shS)).size ≤ 80 * 65 := by
  have := cat_size (l := l.map shS) (M := 65) (fun x hx => by
    obtain ⟨s, hs, rfl⟩ := List.mem_map.1 hx
    have := shS_size (s := s) (by have := h2 s hs; omega)
    have := h2 s hs
    omega)
  rw [List.length_map] at this
  have := Nat.mul_le_mul_right 65 h1
  omega
theorem chS_size {c : T_impl_Change} (h : okC c = true) : (chS c).size ≤ 130000 := by
  obtain ⟨h1, h2, h3, h4⟩ := okC_parts h
  have a1 := shS_size (s := c.Path) (by omega)
  have a2 := shS_size (s := c.To) (by omega)
  have a3 := encS_size (n := c.Lines.length) (by omega)
  have a4 := cat_lines h3 h4
  unfold chS
  simp only [ByteArray.size_append, mkS_size, List.length_cons, List.length_nil]
  omega
theorem okP_parts {n : Int} (h : okP n = true) : 0 ≤ n ∧ n ≤ 1000000000 := by
  unfold okP inR at h
  simpa using h
theorem prS_size {l : List Int} (h1 : l.length ≤ 4) (h2 : l.all okP = true) : (prS l).size ≤ 25 := by
  rw [List.all_eq_true] at h2
  have := cat_size (l := l.map fun n => encS n.toNat) (M := 5) (fun x hx => by
    obtain ⟨s, hs, rfl⟩ := List.mem_map.1 hx
    have := okP_parts (h2 s hs)
    exact encS_size (by omega))
  rw [List.length_map] at this
  have a3 := encS_size (n := l.length) (by omega)
  unfold prS
  rw [ByteArray.size_append]
  omega
theorem okX_parts {x : T_impl_Step} (h : okX x = true) : x.Parents.length ≤ 4 ∧ x.Changes.length ≤ 8 ∧ x.Note.size ≤ 60000 ∧ x.Parents.all okP = true ∧ x.Changes.all okC = true := by
  unfold okX at h
  simp only [Bool.and_eq_true, decide_eq_true_eq] at h
  exact ⟨h.1.1, h.1.2.1, h.1.2.2, h.2.1, h.2.2⟩
theorem cat_ch {l : List T_impl_Change} (h1 : l.length ≤ 8) (h2 : l.all okC = true) : (cat (l.map chS)).size ≤ 8 * 130000 := by
  rw [List.all_eq_true] at h2
  have := cat_size (l := l.map chS) (M := 130000) (fun x hx => by
    obtain ⟨s, hs, rfl⟩ := List.mem_map.1 hx
    exact chS_size (h2 s hs))
  rw [List.length_map] at this
  exact Nat.le_trans this (Nat.mul_le_mul_right 130000 h1)
theorem stS_size {x : T_impl_Step} (h : okX x = true) : (stS x).size ≤ 1200000 := by
  obtain ⟨h1, h2, h3, h4, h5⟩ := okX_parts h
  have a1 := prS_size h1 h4
  have a2 := shS_size (s := x.Note) (by omega)
  have a3 := encS_size (n := x.Changes.length) (by omega)
  have a4 := cat_ch h2 h5
  unfold stS
  simp only [ByteArray.size_append]
  omega
theorem listTextI_eq {l : List Int} (h1 : l.length ≤ 4) (h2 : l.all okP = true) : impl_listText l = some (prS l) := by
  rw [List.all_eq_true] at h2
  have a3 := encS_size (n := l.length) (by omega)
  unfold impl_listText
  rw [varText_eq (by omega), Option.bind_some, wstr_in (by rw [e0size]; omega), Option.bind_some, empty_app]
  have := acc_loop (body := fun (s' : Int × ByteArray) => impl_listText_l1 l s'.1 s'.2) (l := l) (f := fun n => encS n.toNat) (M := 5) (b0 := encS l.length) (by omega) (fun n hn => by
    have := okP_parts (h2 n hn)
    exact encS_size (by omega)) (fun i n b hi hn hb => by
    have hlt := (List.getElem?_eq_some_iff.1 hi).1
    have hp := okP_parts (h2 n hn)
    have a5 := encS_size (n := n.toNat) (by omega)
    show impl_listText_l1 l i b = _
    unfold impl_listText_l1
    have e : n = ((n.toNat : Nat) : Int) := by omega
    rw [ifT (by simpa using hlt), geti_nat, hi, Option.bind_some]
    conv => lhs; rw [e]
    rw [varText_eq (by omega), Option.bind_some, wstr_in (by omega), Option.bind_some, wkS i (by omega)]) (fun b => by
    show impl_listText_l1 l l.length b = _
    unfold impl_listText_l1
    rw [ifF (by simp)])
  rw [this, Option.bind_some]
  rfl
theorem stepTextI_eq {x : T_impl_Step} (h : okX x = true) : impl_stepText x = some (stS x) := by
  obtain ⟨h1, h2, h3, h4, h5⟩ := okX_parts h
  have a1 := prS_size h1 h4
  have a2 := shS_size (s := x.Note) (by omega)
  have a3 := encS_size (n := x.Changes.length) (by omega)
  unfold impl_stepText
  rw [listTextI_eq h1 h4, Option.bind_some, shortI_eq (by omega), Option.bind_some, sapp_in (by omega), Option.bind_some, varText_eq (by omega), Option.bind_some, sapp_in (by rw [ByteArray.size_append]; omega), Option.bind_some, wstr_in (by simp only [ByteArray.size_append, e0size]; omega), Option.bind_some, empty_app]
  rw [List.all_eq_true] at h5
  have := acc_loop (body := fun (s' : Int × ByteArray) => impl_stepText_l1 x s'.1 s'.2) (l := x.Changes) (f := chS) (M := 130000) (b0 := prS x.Parents ++ shS x.Note ++ encS x.Changes.length) (by
    simp only [ByteArray.size_append]
    have := Nat.mul_le_mul_right 130000 h2
    omega) (fun c hc => chS_size (h5 c hc)) (fun i c b hi hc hb => by
    have hlt := (List.getElem?_eq_some_iff.1 hi).1
    have hsz := chS_size (h5 c hc)
    obtain ⟨g1, g2, g3, g4⟩ := okC_parts (h5 c hc)
    have b1 := shS_size (s := c.Path) (by omega)
    have b2 := shS_size (s := c.To) (by omega)
    have b3 := encS_size (n := c.Lines.length) (by omega)
    have b4 := cat_lines g3 g4
    show impl_stepText_l1 x i b = _
    unfold impl_stepText_l1
    rw [ifT (by simpa using hlt), geti_nat, hi, Option.bind_some, shortI_eq (by omega), Option.bind_some, sapp_in (by simp only [mkS_size, List.length_cons, List.length_nil]; omega), Option.bind_some, shortI_eq (by omega), Option.bind_some, sapp_in (by simp only [ByteArray.size_append, mkS_size, List.length_cons, List.length_nil]; omega), Option.bind_some, varText_eq (by omega), Option.bind_some, sapp_in (by simp only [ByteArray.size_append, mkS_size, List.length_cons, List.length_nil]; omega), Option.bind_some, wstr_in (by simp only [ByteArray.size_append, mkS_size, List.length_cons, List.length_nil]; omega), Option.bind_some]
    have := acc_loop (body := fun (s' : Int × ByteArray) => impl_stepText_l2 c s'.1 s'.2) (l := c.Lines) (f := shS) (M := 65) (b0 := b ++ (mkS [wk .u8 c.Kind] ++ shS c.Path ++ shS c.To ++ encS c.Lines.length)) (by
      simp only [ByteArray.size_append, mkS_size, List.length_cons, List.length_nil]
      have := Nat.mul_le_mul_right 65 g3
      omega) (fun s hs => by
      have := shS_size (s := s) (by have := g4 s hs; omega)
      have := g4 s hs
      omega) (fun j s b hj hs hb => by
      have hlt := (List.getElem?_eq_some_iff.1 hj).1
      have c1 := g4 s hs
      have c2 := shS_size (s := s) (by omega)
      show impl_stepText_l2 c j b = _
      unfold impl_stepText_l2
      rw [ifT (by simpa using hlt), geti_nat, hj, Option.bind_some, shortI_eq (by omega), Option.bind_some, wstr_in (by omega), Option.bind_some, wkS j (by omega)]) (fun b => by
      show impl_stepText_l2 c c.Lines.length b = _
      unfold impl_stepText_l2
      rw [ifF (by simp)])
    rw [this, Option.bind_some]
    unfold impl_stepText_j2
    rw [wkS i (by omega)]
    unfold chS
    simp only [app_assoc]) (fun b => by
    show impl_stepText_l1 x x.Changes.length b = _
    unfold impl_stepText_l1
    rw [ifF (by simp)])
  rw [this, Option.bind_some]
  rfl
/-- The whole text. -/
def totS (l : List T_impl_Step) : ByteArray := ByteArray.mk #[84, 66, 49] ++ encS l.length ++ cat (l.map stS)
def fail : ByteArray × Bool := (ByteArray.mk #[], false)
def sealedR (t : ByteArray) (r : ByteArray × Bool) : Prop := if t.size ≤ 60000 then impl_Sealed t = some r else r = fail
theorem sealed_eq {t : ByteArray} (ht : t.size ≤ 1000000000) : ∃ r, impl_Sealed t = some r ∧ spec_Sealed t = some r ∧ (60000 < t.size → r = fail) ∧ r.1.size ≤ 60004 := by
  unfold impl_Sealed spec_Sealed
  by_cases q : t.size ≤ 60000
  · rw [ifF (by simp; omega), ifF (by simp; omega)]
    obtain ⟨r, h1, h2, h3⟩ := sumOf_eq (text := t) (by omega)
    unfold impl_sumText
    rw [h1, h2]
    simp only [Option.bind_some]
    unfold spec_l02Four
    rw [Option.bind_some, sapp_in (by simp only [mkS_size, List.length_cons, List.length_nil]; omega)]
    refine ⟨_, rfl, rfl, by omega, ?_⟩
    simp only [ByteArray.size_append, mkS_size, List.length_cons, List.length_nil]
    omega
  · rw [ifT (by simp; omega), ifT (by simp; omega)]
    exact ⟨_, rfl, rfl, fun _ => rfl, by rw [e0size]; omega⟩
theorem bundleI_eq {l : List T_impl_Step} : impl_BundleText l = if decide (l.length ≤ 40) && l.all okX then impl_Sealed (totS l) else some fail := by
  unfold impl_BundleText
  by_cases q : l.length ≤ 40
  · have a3 := encS_size (n := l.length) (by omega)
    have a4 : (ByteArray.mk #[84, 66, 49]).size = 3 := rfl
    rw [ifF (by simp; omega), decide_eq_true q, Bool.true_and, varText_eq (by omega), Option.bind_some, sapp_in (by omega), Option.bind_some, wstr_in (by simp only [ByteArray.size_append, e0size]; omega), Option.bind_some, empty_app]
    have key := loopM_inv (f := fun (s' : Int × ByteArray) => impl_BundleText_l1 l s'.1 s'.2) (s := (0, ByteArray.mk #[84, 66, 49] ++ encS l.length)) (fun s => ∃ k : Nat, s = ((k : Int), ByteArray.mk #[84, 66, 49] ++ encS l.length ++ cat ((l.take k).map stS)) ∧ k ≤ l.length ∧ (l.take k).all okX = true) (fun s => l.length - s.1.toNat) (fun r => r = if l.all okX = true then .inr (totS l) else .inl fail) ⟨0, by simp [cat, app_empty], by omega, by simp⟩ (fun s hs => by
      obtain ⟨k, rfl, hk, hall⟩ := hs
      rcases Nat.lt_or_ge k l.length with hlt | hge
      · by_cases p : okX l[k] = true
        · left
          have hsz := stS_size p
          have hcat := cat_size (l := (l.take k).map stS) (M := 1200000) (fun x hx => by
            obtain ⟨s, hs, rfl⟩ := List.mem_map.1 hx
            exact stS_size (List.all_eq_true.1 hall s hs))
          rw [List.length_map, List.length_take, Nat.min_eq_left (by omega)] at hcat
          have : k * 1200000 ≤ 40 * 1200000 := Nat.mul_le_mul_right _ (by omega)
          refine ⟨(((k + 1 : Nat) : Int), ByteArray.mk #[84, 66, 49] ++ encS l.length ++ cat ((l.take (k + 1)).map stS)), ?_, ⟨k + 1, rfl, by omega, ?_⟩, by simp; omega⟩
          · show impl_BundleText_l1 l k _ = _
            unfold impl_BundleText_l1
            rw [ifT (by simpa using hlt), geti_nat, List.getElem?_eq_getElem hlt, Option.bind_some]
            have e : T_impl_Step.mk l[k].Parents l[k].Note l[k].Changes = l[k] := rfl
            rw [e, stepOkI_eq, p, Option.bind_some, ifF (by simp), stepTextI_eq p, Option.bind_some, wstr_in (by simp only [ByteArray.size_append]; omega), Option.bind_some, wkS k (by omega), cat_take hlt, app_assoc]
          · rw [List.take_add_one, List.getElem?_eq_getElem hlt, List.all_append, hall]
            simpa using p
        · right
          refine ⟨.inl fail, ?_, ?_⟩
          · show impl_BundleText_l1 l k _ = _
            unfold impl_BundleText_l1
            rw [ifT (by simpa using hlt), geti_nat, List.getElem?_eq_getElem hlt, Option.bind_some]
            have e : T_impl_Step.mk l[k].Parents l[k].Note l[k].Changes = l[k] := rfl
            rw [e, stepOkI_eq, Option.bind_some, ifT (by simpa using p)]
            rfl
          · rw [if_neg]
            intro hh
            exact p (List.all_eq_true.1 hh _ (List.getElem_mem hlt))
      · right
        have hk' : k = l.length := by omega
        subst hk'
        rw [List.take_length] at hall
        refine ⟨.inr (totS l), ?_, by rw [if_pos hall]⟩
        show impl_BundleText_l1 l l.length _ = _
        unfold impl_BundleText_l1
        rw [ifF (by simp), List.take_length]
        rfl)
    obtain ⟨r, hr, rfl⟩ := key
    rw [hr, Option.bind_some]
    by_cases p : l.all okX = true
    · rw [if_pos p, if_pos p]
      simp only [impl_BundleText_j1, strings_Builder_String, Option.bind_some]
      cases impl_Sealed (totS l) <;> rfl
    · rw [if_neg p, if_neg p]
  · rw [ifT (by simp; omega), decide_eq_false q]
    rfl
end Go.TV.F
/- Plain Lean: steps in bytes, the reference's side; the law. -/
namespace Go.TV.F
open Go.TV
def smC (c : T_impl_Change) : Prop := ∀ s ∈ c.Lines, s.size ≤ 1000000000
theorem changeOkS_eq {c : T_impl_Change} (h : smC c) : spec_l22ChangeOk c = some (okC c) := by
  unfold spec_l22ChangeOk okC
  rw [inRangeS_eq, Option.bind_some, linesS_eq h]
  cases inR c.Kind 0 255 with
  | false => rfl
  | true =>
    by_cases p1 : c.Path.size ≤ 60000
    · have e1 : decide ((c.Path.size : Int) ≤ 60000) = true := by simp; omega
      rw [decide_eq_true p1, e1]
      by_cases p2 : c.To.size ≤ 60000
      · have e2 : decide ((c.To.size : Int) ≤ 60000) = true := by simp; omega
        rw [decide_eq_true p2, e2]
        cases linesB c.Lines <;> rfl
      · have e2 : decide ((c.To.size : Int) ≤ 60000) = false := by simp; omega
        rw [decide_eq_false p2, e2]
        rfl
    · have e1 : decide ((c.Path.size : Int) ≤ 60000) = false := by simp; omega
      rw [decide_eq_false p1, e1]
      rfl
theorem linesLoop {c : T_impl_Change} {b0 : ByteArray} (hb : b0.size ≤ 300000000) (g3 : c.Lines.length ≤ 80) (g4 : ∀ s ∈ c.Lines, s.size ≤ 60) :
    loopM (fun (s' : ByteArray × Int) => spec_BundleText_l3 c s'.1 s'.2) (b0, 0) = some (b0 ++ cat (c.Lines.map shS)) :=
  acc_loop2 (body := fun (s' : ByteArray × Int) => spec_BundleText_l3 c s'.1 s'.2) (l := c.Lines) (f := shS) (M := 65) (b0 := b0) (by
    have := Nat.mul_le_mul_right 65 g3
    omega) (fun s hs => by
    have := shS_size (s := s) (by have := g4 s hs; omega)
    have := g4 s hs
    omega) (fun j s b hj hs hb => by
    have hlt := (List.getElem?_eq_some_iff.1 hj).1
    have c1 := g4 s hs
    have c2 := shS_size (s := s) (by omega)
    show spec_BundleText_l3 c b j = _
    unfold spec_BundleText_l3
    rw [ifT (by simpa using hlt), geti_nat, hj, Option.bind_some, shortS_eq (by omega), Option.bind_some, sapp_in (by omega), Option.bind_some, wkS j (by omega)]) (fun b => by
    show spec_BundleText_l3 c b c.Lines.length = _
    unfold spec_BundleText_l3
    rw [ifF (by simp)])
/-- The changes of a step. -/
def QC (l : List T_impl_Change) (b : ByteArray) (r : ((Int × (List Int)) ⊕ ((ByteArray × Bool) ⊕ ((List Int)))) ⊕ ((List Int))) : Prop :=
  (r = .inr (bytesL (b ++ cat (l.map chS))) ∧ l.all okC = true) ∨ (r = .inl (.inr (.inl fail)) ∧ (l.all okC = true → 60000 < (b ++ cat (l.map chS)).size))
theorem changesLoop {x : T_impl_Step} {b : ByteArray} (hb : b.size ≤ 300000) (h8 : x.Changes.length ≤ 8) (hsm : ∀ c ∈ x.Changes, smC c) :
    ∃ r, loopM (fun (s' : Int × (List Int)) => spec_BundleText_l2 x s'.1 s'.2) (0, bytesL b) = some r ∧ QC x.Changes b r := by
  refine loopM_inv (f := fun (s' : Int × (List Int)) => spec_BundleText_l2 x s'.1 s'.2) (fun s => ∃ k : Nat, s = ((k : Int), bytesL (b ++ cat ((x.Changes.take k).map chS))) ∧ k ≤ x.Changes.length ∧ (x.Changes.take k).all okC = true ∧ (b ++ cat ((x.Changes.take k).map chS)).size ≤ 300000) (fun s => x.Changes.length - s.1.toNat) (QC x.Changes b) ⟨0, by simp [cat, app_empty], by omega, by simp, by simpa [cat, app_empty] using hb⟩ (fun st hst => ?_)
  obtain ⟨k, rfl, hk, hall, hsz⟩ := hst
  rcases Nat.lt_or_ge k x.Changes.length with hlt | hge
  · have e : T_impl_Change.mk x.Changes[k].Kind x.Changes[k].Path x.Changes[k].To x.Changes[k].Lines = x.Changes[k] := rfl
    by_cases p : okC x.Changes[k] = true
    · have hcs := chS_size p
      obtain ⟨g1, g2, g3, g4⟩ := okC_parts p
      have b1 := shS_size (s := x.Changes[k].Path) (by omega)
      have b2 := shS_size (s := x.Changes[k].To) (by omega)
      have b3 := encS_size (n := x.Changes[k].Lines.length) (by omega)
      have b4 := cat_lines g3 g4
      have step : spec_BundleText_l2 x k (bytesL (b ++ cat ((x.Changes.take k).map chS))) = (if 60000 < (b ++ cat ((x.Changes.take (k + 1)).map chS)).size then some (.inr (.inl (.inr (.inl fail)))) else some (.inl (((k + 1 : Nat) : Int), bytesL (b ++ cat ((x.Changes.take (k + 1)).map chS))))) := by
        unfold spec_BundleText_l2
        rw [ifT (by simpa using hlt), geti_nat, List.getElem?_eq_getElem hlt, Option.bind_some, e, changeOkS_eq (hsm _ (List.getElem_mem hlt)), p, Option.bind_some, ifF (by simp)]
        rw [shortS_eq (by omega), Option.bind_some, sapp_in (by simp only [mkS_size, List.length_cons, List.length_nil]; omega), Option.bind_some, shortS_eq (by omega), Option.bind_some, sapp_in (by simp only [ByteArray.size_append, mkS_size, List.length_cons, List.length_nil]; omega), Option.bind_some, l01Var_eq (by omega), Option.bind_some, sapp_in (by simp only [ByteArray.size_append, mkS_size, List.length_cons, List.length_nil]; omega), Option.bind_some]
        rw [linesLoop (by simp only [ByteArray.size_append, mkS_size, List.length_cons, List.length_nil]; omega) g3 g4, Option.bind_some]
        have e2 : mkS [wk .u8 x.Changes[k].Kind] ++ shS x.Changes[k].Path ++ shS x.Changes[k].To ++ encS x.Changes[k].Lines.length ++ cat (x.Changes[k].Lines.map shS) = chS x.Changes[k] := rfl
        rw [e2]
        unfold spec_BundleText_j6
        rw [appn_in (by rw [bytesL_len, bytesL_len]; omega), Option.bind_some, ← bytesL_app, bytesL_len, cat_take hlt, ← app_assoc]
        by_cases q : 60000 < (b ++ cat ((x.Changes.take k).map chS) ++ chS x.Changes[k]).size
        · rw [ifT (decide_eq_true (by omega)), if_pos q]
          rfl
        · rw [ifF (decide_eq_false (by omega)), if_neg q]
          unfold spec_BundleText_j5
          rw [wkS k (by omega)]
      by_cases q : 60000 < (b ++ cat ((x.Changes.take (k + 1)).map chS)).size
      · right
        rw [if_pos q] at step
        refine ⟨_, step, .inr ⟨rfl, fun _ => ?_⟩⟩
        have := cat_take_le (l := x.Changes) (f := chS) (k + 1)
        rw [ByteArray.size_append] at q ⊢
        omega
      · left
        rw [if_neg q] at step
        refine ⟨_, step, ⟨k + 1, rfl, by omega, ?_, by omega⟩, by simp; omega⟩
        rw [List.take_add_one, List.getElem?_eq_getElem hlt, List.all_append, hall]
        simpa using p
    · right
      refine ⟨.inl (.inr (.inl fail)), ?_, .inr ⟨rfl, fun hh => absurd (List.all_eq_true.1 hh _ (List.getElem_mem hlt)) p⟩⟩
      show spec_BundleText_l2 x k _ = _
      unfold spec_BundleText_l2
      rw [ifT (by simpa using hlt), geti_nat, List.getElem?_eq_getElem hlt, Option.bind_some, e, changeOkS_eq (hsm _ (List.getElem_mem hlt)), Option.bind_some, ifT (by simpa using p)]
      rfl
  · right
    have hk' : k = x.Changes.length := by omega
    subst hk'
    rw [List.take_length] at hall hsz
    refine ⟨_, ?_, .inl ⟨rfl, hall⟩⟩
    show spec_BundleText_l2 x x.Changes.length _ = _
    unfold spec_BundleText_l2
    rw [ifF (by simp), List.take_length]
/-- The parents of a step. -/
theorem parentsLoop {x : T_impl_Step} (h4 : x.Parents.length ≤ 4) :
    loopM (fun (s' : ByteArray × Int) => spec_BundleText_l4 x s'.1 s'.2) (encS x.Parents.length, 0) = some (if x.Parents.all okP = true then .inr (prS x.Parents) else .inl (.inr (.inl fail))) := by
  have a3 := encS_size (n := x.Parents.length) (by omega)
  have key := loopM_inv (f := fun (s' : ByteArray × Int) => spec_BundleText_l4 x s'.1 s'.2) (s := (encS x.Parents.length, 0)) (fun s => ∃ k : Nat, s = (encS x.Parents.length ++ cat ((x.Parents.take k).map fun n => encS n.toNat), (k : Int)) ∧ k ≤ x.Parents.length ∧ (x.Parents.take k).all okP = true) (fun s => x.Parents.length - s.2.toNat) (fun r => r = if x.Parents.all okP = true then .inr (prS x.Parents) else .inl (.inr (.inl fail))) ⟨0, by simp [cat, app_empty], by omega, by simp⟩ (fun s hs => by
    obtain ⟨k, rfl, hk, hall⟩ := hs
    rcases Nat.lt_or_ge k x.Parents.length with hlt | hge
    · by_cases p : okP x.Parents[k] = true
      · left
        have hp := okP_parts p
        have a5 := encS_size (n := x.Parents[k].toNat) (by omega)
        have hcat := cat_size (l := (x.Parents.take k).map fun n => encS n.toNat) (M := 5) (fun y hy => by
          obtain ⟨s, hs, rfl⟩ := List.mem_map.1 hy
          have := okP_parts (List.all_eq_true.1 hall s hs)
          exact encS_size (by omega))
        rw [List.length_map, List.length_take, Nat.min_eq_left (by omega)] at hcat
        refine ⟨_, ?_, ⟨k + 1, rfl, by omega, ?_⟩, by simp; omega⟩
        · show spec_BundleText_l4 x _ k = _
          unfold spec_BundleText_l4
          rw [ifT (by simpa using hlt), geti_nat, List.getElem?_eq_getElem hlt, Option.bind_some, inRangeS_eq, Option.bind_some, ifF (by simpa [okP] using p)]
          have e : x.Parents[k] = ((x.Parents[k].toNat : Nat) : Int) := by omega
          rw [cat_take hlt]
          generalize x.Parents[k] = n at *
          conv => lhs; rw [e]
          rw [l01Var_eq (by omega), Option.bind_some, sapp_in (by simp only [ByteArray.size_append]; omega), Option.bind_some, wkS k (by omega), app_assoc]
        · rw [List.take_add_one, List.getElem?_eq_getElem hlt, List.all_append, hall]
          simpa using p
      · right
        refine ⟨.inl (.inr (.inl fail)), ?_, ?_⟩
        · show spec_BundleText_l4 x _ k = _
          unfold spec_BundleText_l4
          rw [ifT (by simpa using hlt), geti_nat, List.getElem?_eq_getElem hlt, Option.bind_some, inRangeS_eq, Option.bind_some, ifT (by simpa [okP] using p)]
          rfl
        · rw [if_neg]
          intro hh
          exact p (List.all_eq_true.1 hh _ (List.getElem_mem hlt))
    · right
      have hk' : k = x.Parents.length := by omega
      subst hk'
      rw [List.take_length] at hall
      refine ⟨_, ?_, by rw [if_pos hall]⟩
      show spec_BundleText_l4 x _ x.Parents.length = _
      unfold spec_BundleText_l4
      rw [ifF (by simp), List.take_length]
      rfl)
  obtain ⟨r, hr, rfl⟩ := key
  exact hr
def QX (l : List T_impl_Step) (b : ByteArray) (r : (ByteArray × Bool) ⊕ (List Int)) : Prop :=
  (r = .inr (bytesL (b ++ cat (l.map stS))) ∧ l.all okX = true) ∨ (r = .inl fail ∧ (l.all okX = true → 60000 < (b ++ cat (l.map stS)).size))
theorem stepsLoop {l : List T_impl_Step} {b : ByteArray} (hb : b.size ≤ 60000) (h40 : l.length ≤ 40) (hsm : ∀ x ∈ l, ∀ c ∈ x.Changes, smC c) :
    ∃ r, loopM (fun (s' : Int × (List Int)) => spec_BundleText_l1 l s'.1 s'.2) (0, bytesL b) = some r ∧ QX l b r := by
  refine loopM_inv (f := fun (s' : Int × (List Int)) => spec_BundleText_l1 l s'.1 s'.2) (fun s => ∃ k : Nat, s = ((k : Int), bytesL (b ++ cat ((l.take k).map stS))) ∧ k ≤ l.length ∧ (l.take k).all okX = true ∧ (b ++ cat ((l.take k).map stS)).size ≤ 60000) (fun s => l.length - s.1.toNat) (QX l b) ⟨0, by simp [cat, app_empty], by omega, by simp, by simpa [cat, app_empty] using hb⟩ (fun st hst => ?_)
  obtain ⟨k, rfl, hk, hall, hsz⟩ := hst
  rcases Nat.lt_or_ge k l.length with hlt | hge
  · have bad : ∀ p : ¬ okX l[k] = true, QX l b (.inl fail) := fun p => .inr ⟨rfl, fun hh => absurd (List.all_eq_true.1 hh _ (List.getElem_mem hlt)) p⟩
    by_cases q0 : l[k].Parents.length ≤ 4 ∧ l[k].Changes.length ≤ 8 ∧ l[k].Note.size ≤ 60000
    · have head : spec_BundleText_l1 l k (bytesL (b ++ cat ((l.take k).map stS))) = ((some (if l[k].Parents.all okP = true then .inr (prS l[k].Parents) else .inl (.inr (.inl fail))) : Option (((Int × (List Int)) ⊕ ((ByteArray × Bool) ⊕ ((List Int)))) ⊕ ByteArray)).bind fun p_3 => (match p_3 with | .inl c' => some c' | .inr q_1 => spec_BundleText_j3 k (bytesL (b ++ cat ((l.take k).map stS))) l[k] q_1)) := by
        unfold spec_BundleText_l1
        rw [ifT (by simpa using hlt), geti_nat, List.getElem?_eq_getElem hlt, Option.bind_some, ifF (by simp; omega)]
        have e2 : decide ((l[k].Changes.length : Int) > 8) = false := by simp; omega
        have e3 : decide ((l[k].Note.size : Int) > 60000) = false := by simp; omega
        rw [e2, Option.bind_some, ifF (by simp), e3, Option.bind_some, ifF (by simp), l01Var_eq (by omega), Option.bind_some, parentsLoop q0.1]
        rfl
      by_cases qp : l[k].Parents.all okP = true
      · rw [if_pos qp, Option.bind_some] at head
        have a1 := prS_size q0.1 qp
        have a2 := shS_size (s := l[k].Note) (by omega)
        have a3 := encS_size (n := l[k].Changes.length) (by omega)
        obtain ⟨r, hr, hq⟩ := changesLoop (x := l[k]) (b := b ++ cat ((l.take k).map stS) ++ (prS l[k].Parents ++ shS l[k].Note ++ encS l[k].Changes.length)) (by rw [ByteArray.size_append, ByteArray.size_append (b := encS _), ByteArray.size_append (b := shS _)]; omega) q0.2.1 (hsm _ (List.getElem_mem hlt))
        have body : spec_BundleText_l1 l k (bytesL (b ++ cat ((l.take k).map stS))) = (some r).bind (fun p_1 => match p_1 with | .inl c' => some c' | .inr q => spec_BundleText_j4 k q) := by
          rw [head]
          show spec_BundleText_j3 k _ l[k] _ = _
          unfold spec_BundleText_j3
          rw [shortS_eq (by omega), Option.bind_some, sapp_in (by omega), Option.bind_some, l01Var_eq (by omega), Option.bind_some, sapp_in (by rw [ByteArray.size_append]; omega), Option.bind_some, appn_in (by rw [bytesL_len, bytesL_len, ByteArray.size_append (b := encS _), ByteArray.size_append (b := shS _)]; omega), Option.bind_some, ← bytesL_app]
          exact (congrArg (fun z : Option (((Int × (List Int)) ⊕ ((ByteArray × Bool) ⊕ ((List Int)))) ⊕ ((List Int))) => z.bind _) hr)
        have hst : b ++ cat ((l.take k).map stS) ++ (prS l[k].Parents ++ shS l[k].Note ++ encS l[k].Changes.length) ++ cat (l[k].Changes.map chS) = b ++ cat ((l.take (k + 1)).map stS) := by
          rw [cat_take hlt, app_assoc, ← app_assoc b]
          rfl
        unfold QC at hq
        rw [hst] at hq
        have hle : (b ++ cat ((l.take (k + 1)).map stS)).size ≤ (b ++ cat (l.map stS)).size := by
          have := cat_take_le (l := l) (f := stS) (k + 1)
          rw [ByteArray.size_append, ByteArray.size_append]
          omega
        have hokx : l[k].Changes.all okC = true → okX l[k] = true := fun hc => by
          unfold okX
          simp [q0, hc, qp]
        rcases hq with ⟨rfl, hc⟩ | ⟨rfl, hc⟩
        · by_cases q : 60000 < (b ++ cat ((l.take (k + 1)).map stS)).size
          · right
            refine ⟨.inl fail, ?_, .inr ⟨rfl, fun _ => by omega⟩⟩
            show spec_BundleText_l1 l k _ = _
            rw [body]
            show spec_BundleText_j4 k _ = _
            unfold spec_BundleText_j4
            rw [bytesL_len, ifT (decide_eq_true (by omega))]
            rfl
          · left
            refine ⟨_, ?_, ⟨k + 1, rfl, by omega, ?_, by omega⟩, by simp; omega⟩
            · show spec_BundleText_l1 l k _ = _
              rw [body]
              show spec_BundleText_j4 k _ = _
              unfold spec_BundleText_j4
              rw [bytesL_len, ifF (decide_eq_false (by omega))]
              unfold spec_BundleText_j2
              rw [wkS k (by omega)]
            · rw [List.take_add_one, List.getElem?_eq_getElem hlt, List.all_append, hall]
              simpa using hokx hc
        · right
          refine ⟨.inl fail, ?_, .inr ⟨rfl, fun hh => ?_⟩⟩
          · show spec_BundleText_l1 l k _ = _
            rw [body]
            rfl
          · have := hc (okX_parts (List.all_eq_true.1 hh _ (List.getElem_mem hlt))).2.2.2.2
            omega
      · right
        rw [if_neg qp, Option.bind_some] at head
        exact ⟨_, head, bad fun p => qp (okX_parts p).2.2.2.1⟩
    · right
      refine ⟨.inl fail, ?_, bad fun p => q0 ⟨(okX_parts p).1, (okX_parts p).2.1, (okX_parts p).2.2.1⟩⟩
      show spec_BundleText_l1 l k _ = _
      unfold spec_BundleText_l1
      rw [ifT (by simpa using hlt), geti_nat, List.getElem?_eq_getElem hlt, Option.bind_some]
      by_cases p1 : l[k].Parents.length ≤ 4
      · rw [ifF (by simp; omega), Option.bind_some]
        by_cases p2 : l[k].Changes.length ≤ 8
        · have e2 : decide ((l[k].Changes.length : Int) > 8) = false := by simp; omega
          have e3 : decide ((l[k].Note.size : Int) > 60000) = true := by simp; omega
          rw [e2, ifF (by simp), e3, Option.bind_some, ifT (by simp)]
          rfl
        · have e2 : decide ((l[k].Changes.length : Int) > 8) = true := by simp; omega
          rw [e2, ifT (by simp), Option.bind_some, ifT (by simp)]
          rfl
      · rw [ifT (by simp; omega), Option.bind_some, ifT (by simp), Option.bind_some, ifT (by simp)]
        rfl
  · right
    have hk' : k = l.length := by omega
    subst hk'
    rw [List.take_length] at hall hsz
    refine ⟨_, ?_, .inl ⟨rfl, hall⟩⟩
    show spec_BundleText_l1 l l.length _ = _
    unfold spec_BundleText_l1
    rw [ifF (by simp), List.take_length]
theorem cat_st {l : List T_impl_Step} (h1 : l.length ≤ 40) (h2 : l.all okX = true) : (totS l).size ≤ 60000000 := by
  rw [List.all_eq_true] at h2
  have := cat_size (l := l.map stS) (M := 1200000) (fun x hx => by
    obtain ⟨s, hs, rfl⟩ := List.mem_map.1 hx
    exact stS_size (h2 s hs))
  rw [List.length_map] at this
  have a3 := encS_size (n := l.length) (by omega)
  have a4 : (ByteArray.mk #[84, 66, 49]).size = 3 := rfl
  have := Nat.mul_le_mul_right 1200000 h1
  unfold totS
  rw [ByteArray.size_append, ByteArray.size_append]
  omega
theorem bundle_eq {l : List T_impl_Step} (hsm : ∀ x ∈ l, ∀ c ∈ x.Changes, smC c) : ∃ r, impl_BundleText l = some r ∧ spec_BundleText l = some r ∧ r.1.size ≤ 60004 := by
  rw [bundleI_eq]
  unfold spec_BundleText
  by_cases q : l.length ≤ 40
  · have a3 := encS_size (n := l.length) (by omega)
    have a4 : (ByteArray.mk #[84, 66, 49]).size = 3 := rfl
    rw [decide_eq_true q, Bool.true_and, ifF (b := decide ((l.length : Int) > 40)) (by simp; omega), l01Var_eq (by omega), Option.bind_some, sapp_in (by omega), Option.bind_some]
    obtain ⟨r, hr, hq⟩ := stepsLoop (b := ByteArray.mk #[84, 66, 49] ++ encS l.length) (by rw [ByteArray.size_append]; omega) q hsm
    rw [hr, Option.bind_some]
    rcases hq with ⟨rfl, hc⟩ | ⟨rfl, hc⟩
    · rw [if_pos hc]
      have hz := cat_st q hc
      obtain ⟨r, h1, h2, h3, h4⟩ := sealed_eq (t := totS l) (by omega)
      refine ⟨r, h1, ?_, h4⟩
      show spec_BundleText_j1 _ = _
      unfold spec_BundleText_j1
      rw [mkS_bytesL]
      have e : ByteArray.mk #[84, 66, 49] ++ encS l.length ++ cat (l.map stS) = totS l := rfl
      rw [e, h2]
      rfl
    · by_cases p : l.all okX = true
      · rw [if_pos p]
        have hz := cat_st q p
        obtain ⟨r, h1, h2, h3, h4⟩ := sealed_eq (t := totS l) (by omega)
        have := h3 (hc p)
        subst this
        exact ⟨fail, h1, rfl, h4⟩
      · rw [if_neg p]
        exact ⟨fail, rfl, rfl, by show (ByteArray.mk #[]).size ≤ _; rw [e0size]; omega⟩
  · rw [decide_eq_false q, ifT (b := decide ((l.length : Int) > 40)) (by simp; omega)]
    exact ⟨fail, rfl, rfl, by show (ByteArray.mk #[]).size ≤ _; rw [e0size]; omega⟩
/-- The law. -/
theorem bundleText_law {l : List T_laws_Step} (hl : l.length ≤ BB) (hx : ∀ x ∈ l, okSt x) : laws_FnExactBundleText l = some true := by
  unfold laws_FnExactBundleText
  rw [szStepS_eq hl hx (by omega) (by omega), Option.bind_some]
  by_cases q : (wStS l : Int) ≤ 1048576
  · have hw : ∀ x ∈ l, wSt x ≤ wStS l := fun x hm => by
      have := sumOf_mem (w := wSt) hm
      unfold wStS
      omega
    have hw2 : ∀ x ∈ l, ∀ c ∈ x.Changes, wCh c ≤ wStS l := fun x hm c hc => by
      have := hw x hm
      have := sumOf_mem (w := wCh) hc
      unfold wSt wChS at *
      omega
    have hw3 : ∀ x ∈ l, ∀ c ∈ x.Changes, wSS c.Lines ≤ wStS l := fun x hm c hc => by
      have := hw2 x hm c hc
      unfold wCh at this
      omega
    have hw4 : ∀ x ∈ l, ∀ c ∈ x.Changes, ∀ s ∈ c.Lines, s.size ≤ wStS l := fun x hm c hc s hs => by
      have := hw3 x hm c hc
      have := sumOf_mem (w := ByteArray.size) hs
      unfold wSS at *
      omega
    have hsm : ∀ x ∈ l, smSt x := fun x hm => by
      have := hw x hm
      unfold wSt wChS at this
      refine ⟨by omega, by omega, fun c hc => ?_⟩
      have := hw3 x hm c hc
      unfold wSS at this
      omega
    have hll : l.length ≤ 1000000000 := by
      unfold wStS at q
      omega
    rw [if_pos q, ifF (by simp; omega), toStepS_eq hll hsm]
    simp only [Option.bind_some]
    obtain ⟨r, h1, h2, h3⟩ := bundle_eq (l := l.map toSt) (fun x hm c hc s hs => by
      obtain ⟨y, hy, rfl⟩ := List.mem_map.1 hm
      obtain ⟨d, hd, rfl⟩ := List.mem_map.1 hc
      have := hw4 y hy d hd s hs
      omega)
    rw [h2, h1]
    simp only [Option.bind_some]
    rw [eqStepS_refl (by simpa using hll) (fun x hm => by
      obtain ⟨y, hy, rfl⟩ := List.mem_map.1 hm
      obtain ⟨g1, g2, g3⟩ := hsm y hy
      refine ⟨g1, by simpa [toSt] using g2, fun c hc => ?_⟩
      obtain ⟨d, hd, rfl⟩ := List.mem_map.1 hc
      exact g3 d hd)]
    simp
  · rw [if_neg q, ifT (by simp)]
theorem bundleText_row {l : List T_laws_Step} {B : Nat} (h0 : 0 < B) (h : l.length * B ≤ 140737488351232 ∧ ∀ x ∈ l, ((x.Parents.length * 8 ≤ 140737488351232 ∧ ∀ y ∈ x.Parents, (Lit.int .i64 y).wf = true) ∧ x.Note.size ≤ 140737488351232 ∧ (x.Changes.length * 64 ≤ 140737488351232 ∧ ∀ y ∈ x.Changes, ((Lit.int .i64 y.Kind).wf = true ∧ y.Path.size ≤ 140737488351232 ∧ y.To.size ≤ 140737488351232 ∧ (y.Lines.length * 16 ≤ 140737488351232 ∧ ∀ z ∈ y.Lines, z.size ≤ 140737488351232))))) : laws_FnExactBundleText l = some true := by
  have hB : BB = 1000000000000000 := rfl
  have hl : l.length ≤ l.length * B := Nat.le_mul_of_pos_right _ h0
  refine bundleText_law (by have := h.1; omega) (fun x hx => ?_)
  obtain ⟨⟨a1, _⟩, a2, a3, a4⟩ := h.2 x hx
  refine ⟨by omega, by omega, by omega, fun c hc => ?_⟩
  obtain ⟨_, b1, b2, b3, b4⟩ := a4 c hc
  exact ⟨by omega, by omega, by omega, fun s hs => by have := b4 s hs; omega⟩
end Go.TV.F
